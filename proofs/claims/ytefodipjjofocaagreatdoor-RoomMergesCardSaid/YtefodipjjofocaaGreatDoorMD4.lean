/- The stable sort, walked; conditions: the memory holds what the arguments say. -/
import Derived.Test.YtefodipjjofocaaGreatDoorMD2
set_option linter.unusedSimpArgs false
set_option linter.unusedVariables false
namespace Go.Proofs.YtefodipjjofocaaGreatDoor.TT
open Go Go.AM
set_option linter.unusedSimpArgs false
set_option linter.unusedVariables false
set_option maxRecDepth 100000
set_option maxHeartbeats 2000000
def Cq (a b:Int):Int:=if a<b then -1 else if b<a then 1 else 0
theorem Bf (n fu:Nat)(a:Int)(m:Mem):G9 KW fu (n+1) (.func 156) [.int .i64 a] m=some [⟨.bool false,m⟩]:=by
 rw [enter (sf:=f156) rfl rfl]
 simp [f156,F3,trD,H9,w9,p8,l8]
theorem Yv (n fu:Nat)(a b:Int)(m:Mem):G9 KW fu (n+2) (.func 80) [.int .i64 a,.int .i64 b] m=some [⟨.int .i64 (Cq a b),m⟩]:=by
 rw [enter (sf:=f80) rfl rfl]
 by_cases h:a<b
 ·simp [f80,Bf,F3,trD,H9,w9,p8,l8,Cq,h]
 ·by_cases h':b<a
  ·simp [f80,Bf,F3,trD,H9,w9,p8,l8,Cq,h,h']
  ·simp [f80,Bf,F3,trD,H9,w9,p8,l8,Cq,h,h']
theorem Yw (n fu:Nat)(hfu:1000≤fu)(a b:Int)(m:Mem)(id c:Nat)(rows:T (List o8))(hg:m.get id=some (.cells 1 2 rows))(h0:rows.get 0=some [.int .i64 a])(h1:rows.get 1=some [.int .i64 b]):
  G9 KW fu (n+1) (.func 83) [.slice id 0 2 c] m=some [⟨.int .i64 (if a=0 then b else a),m⟩]:=by
 rw [enter (sf:=f83) rfl rfl]
 obtain⟨fu,rfl⟩:∃k,fu=k+3:=⟨fu-3,by omega⟩
 have e0:ld1 (m.get id) 0=some (.int .i64 a):=by
  rw [hg];exact aS (rs:=1) (n:=2) (rows:=rows) (i:=0) (j:=0) (by omega) (by omega) h0
 have e1:ld1 (m.get id) 1=some (.int .i64 b):=by
  rw [hg];exact aS (rs:=1) (n:=2) (rows:=rows) (i:=1) (j:=0) (by omega) (by omega) h1
 have i0:∀(k:Nat→Option o8),idx 2 (.int .i64 0) k=k 0:=fun k=>R3 2 0 k (by omega)
 have i1:∀(k:Nat→Option o8),idx 2 (.int .i64 1) k=k 1:=fun k=>R3 2 1 k (by omega)
 by_cases ha:a=0
 ·by_cases hb:b=0
  ·simp [f83,Ka,F3,trD,H9,w9,p8,l8,F7,e0,e1,i0,i1,ha,hb,show w64 1=1 from rfl,show w64 2=2 from rfl]
  ·simp [f83,Ka,F3,trD,H9,w9,p8,l8,F7,e0,e1,i0,i1,ha,hb,show w64 1=1 from rfl,show w64 2=2 from rfl]
 ·simp [f83,Ka,F3,trD,H9,w9,p8,l8,F7,e0,e1,i0,i1,ha,show w64 1=1 from rfl,show w64 2=2 from rfl]
end Go.Proofs.YtefodipjjofocaaGreatDoor.TT
namespace Go.Proofs.YtefodipjjofocaaGreatDoor.TT
open Go Go.AM
set_option linter.unusedSimpArgs false
set_option linter.unusedVariables false
set_option maxRecDepth 100000
set_option maxHeartbeats 2000000
def aeE (a b c d:Int):Int:=if Cq a c=0 then Cq b d else Cq a c
def FR.ord (x y:FR):Int:=aeE x.f.room x.f.no y.f.room y.f.no
theorem Pn {m:Mem}(hm:m.Ok)(hl:m.lim≤m.next)(n fu:Nat)(hfu:1000≤fu)(a b c d:Int):
  ∃m',G9 KW fu (n+3) (.func 113) [.agg [.int .i64 a,.int .i64 b],.agg [.int .i64 c,.int .i64 d]] m=some [⟨.int .i64 (aeE a b c d),m'⟩]∧Ext m m':=by
 rw [enter (sf:=f113) rfl rfl]
 have E:=G7 hm [D9 [.int .i64 a,.int .i64 b],D9 [.int .i64 c,.int .i64 d],.cells 1 2 (T.ofList [[.int .i64 (Cq a c)],[.int .i64 (Cq b d)]])]
 have c83:=Yw (n+1) fu hfu (Cq a c) (Cq b d) (ext m [D9 [.int .i64 a,.int .i64 b],D9 [.int .i64 c,.int .i64 d],.cells 1 2 (T.ofList [[.int .i64 (Cq a c)],[.int .i64 (Cq b d)]])]) (m.next+2) 2 _ (by rw [j6 hm];rfl) rfl rfl
 have hb:∀(ps:List (Nat×Nat×OF)) ls env nid,I6 1 2 [.int .i64 0] ps ls env nid=ob (lay ps ls env [.int .i64 0,.int .i64 0]) fun cells=>dL 1 2 cells fun b=>some (.slice nid 0 2 2,some b):=fun _ _ _ _=>rfl
 have hr:∀(x y:o8) (k:Blk→Option (o8×Option Blk)),dL 1 2 [x,y] k=k (.cells 1 2 (T.ofList [[x],[y]])):=fun _ _ _=>rfl
 exact⟨_,by simp [f113,F3,trD,H9,w9,p8,l8,D5,D7,j5 hm,j6 hm,G6 hm hl,x9 hm hl,l9 hm,l5 hm,G5,r9,C8,A8,K4,Yv,hb,hr,c83,aeE,K6],E⟩
end Go.Proofs.YtefodipjjofocaaGreatDoor.TT
namespace Go.Proofs.YtefodipjjofocaaGreatDoor.TT
open Go Go.AM
set_option linter.unusedSimpArgs false
set_option linter.unusedVariables false
set_option maxRecDepth 100000
set_option maxHeartbeats 2000000
structure FR.Good (r:FR):Prop where
 rf:cK 100 (.agg r.f.cells) (.agg r.f.cells)=true
 one:Q6 r.f.cells=true
 no:gF r.f.no
theorem gB.good {m:Mem}{r:FR}(h:gB m r)(hs:r.small=true):r.Good:=⟨(h.at hs).same,h.one,h.nb⟩
theorem Cr {m:Mem}(hm:m.Ok)(hl:m.lim≤m.next)(n fu:Nat)(f:Fct):∃m',G9 KW fu (n+1) (.func 35) [.agg f.cells] m=some [⟨.agg [.int .i64 f.room,.int .i64 f.no],m'⟩]∧Ext m m':=
 ⟨_,rF n fu f m hm hl,G7 hm _⟩
theorem vQ {m:Mem}(hm:m.Ok)(hl:m.lim≤m.next)(n fu:Nat)(hfu:1000≤fu){x y:FR}(hx:x.Good)(hy:y.Good):
  ∃m',G9 KW fu (n+4) (.func 112) [.agg x.f.cells,.agg y.f.cells] m=some [⟨.int .i64 (x.ord y),m'⟩]∧Ext m m':=by
 rw [enter (sf:=f112) rfl rfl]
 have E0:=G7 hm [D9 x.f.cells,D9 y.f.cells]
 have lim:∀{M:Mem},Ext m M→M.lim≤M.next:=fun E=>by rw [E.lim];have:=E.next;omega
 obtain⟨m1,g1,E1⟩:=Cr E0.ok (lim E0) (n+2) fu x.f
 have E01:=E0.trans E1
 have q1:m1.get (m.next+1)=some (D9 y.f.cells):=by rw [E1.old _ (by simp),j6 hm];rfl
 obtain⟨m2,g2,E2⟩:=Cr E01.ok (lim E01) (n+2) fu y.f
 have E02:=E01.trans E2
 obtain⟨m3,g3,E3⟩:=Pn E02.ok (lim E02) n fu hfu x.f.room x.f.no y.f.room y.f.no
 exact⟨m3,by simp [f112,F3,trD,H9,w9,p8,l8,D5,D7,j5 hm,j6 hm,G6 hm hl,x9 hm hl,l9 hm,l5 hm,G5,r9,C8,A8,K4,g1,q1,g2,g3,FR.ord,hx.rf,hy.rf],E02.trans E3⟩
theorem Gu {m:Mem}(hm:m.Ok)(hl:m.lim≤m.next)(n fu:Nat){x y:FR}(hx:x.Good)(hy:y.Good):
  ∃m',G9 KW fu (n+4) (.func 115) [.agg x.f.cells,.agg y.f.cells] m=some [⟨.bool (x.P5 y),m'⟩]∧Ext m m':=by
 rw [enter (sf:=f115) rfl rfl]
 have E0:=G7 hm [D9 x.f.cells,D9 y.f.cells]
 have lim:∀{M:Mem},Ext m M→M.lim≤M.next:=fun E=>by rw [E.lim];have:=E.next;omega
 obtain⟨m1,g1,E1⟩:=Cr E0.ok (lim E0) (n+2) fu x.f
 have E01:=E0.trans E1
 have q1:m1.get (m.next+1)=some (D9 y.f.cells):=by rw [E1.old _ (by simp),j6 hm];rfl
 obtain⟨m2,g2,E2⟩:=Cr E01.ok (lim E01) (n+2) fu y.f
 exact⟨m2,by simp [f115,F3,trD,H9,w9,p8,l8,D5,D7,j5 hm,j6 hm,G6 hm hl,x9 hm hl,l9 hm,l5 hm,G5,r9,C8,A8,K4,g1,q1,g2,FR.P5,hx.rf,hy.rf],E01.trans E2⟩
def FR.before (x y:FR):Bool:=decide (x.f.room<y.f.room)||(decide (x.f.room=y.f.room)&&decide (x.f.no<y.f.no))
theorem Yx {m:Mem}(hm:m.Ok)(hl:m.lim≤m.next)(n fu:Nat)(x y:FR):
  ∃m',G9 KW fu (n+1) (.func 48) [.agg x.f.cells,.agg y.f.cells] m=some [⟨.bool (x.before y),m'⟩]∧Ext m m':=by
 rw [enter (sf:=f48) rfl rfl]
 refine⟨ext m [D9 x.f.cells,D9 y.f.cells],?_,G7 hm _⟩
 unfold FR.before
 cases h1:decide (x.f.room<y.f.room) with
 | true=>simp [f48,F3,trD,H9,w9,p8,l8,D5,D7,j5 hm,j6 hm,G6 hm hl,x9 hm hl,l9 hm,l5 hm,G5,r9,C8,A8,K4,h1]
 | false=>
  cases h2:decide (x.f.room=y.f.room) with
  | true=>simp [f48,F3,trD,H9,w9,p8,l8,D5,D7,j5 hm,j6 hm,G6 hm hl,x9 hm hl,l9 hm,l5 hm,G5,r9,C8,A8,K4,h1,h2]
  | false=>simp [f48,F3,trD,H9,w9,p8,l8,D5,D7,j5 hm,j6 hm,G6 hm hl,x9 hm hl,l9 hm,l5 hm,G5,r9,C8,A8,K4,h1,h2]
end Go.Proofs.YtefodipjjofocaaGreatDoor.TT
namespace Go.Proofs.YtefodipjjofocaaGreatDoor.TT
open Go Go.AM
set_option linter.unusedSimpArgs false
set_option linter.unusedVariables false
set_option maxRecDepth 100000
set_option maxHeartbeats 2000000
def FA (m:Mem)(id:Nat)(l:List FR):Prop:=Arr m id 32 (l.map fun r=>r.f.cells)
theorem FA.ld {m:Mem}{id:Nat}{l:List FR}(h:FA m id l){i:Nat}(hi:i<l.length):ldN (m.get id) (i*32) 32=some (.agg l[i].f.cells):=by
 have:=Arr.ldN h (i:=i) (by simpa using hi)
 simpa using this
theorem FA.store {m:Mem}{id:Nat}{l:List FR}(h:FA m id l)(hm:m.Ok)(hid:id<m.next)(hlim:m.lim≤id){i:Nat}(hi:i<l.length){r:FR}(hg:r.Good):
  ∃m',(∀{β:Type} (k:Mem→Option β),storeAt m id (i*32) r.f.cells k=k m')∧FA m' id (l.set i r)∧sI id m m':=by
 obtain⟨m',h1,h2,h3⟩:=Arr.store h hm hid hlim (i:=i) (by simpa using hi) (Fct.len r.f) hg.one
 refine⟨m',h1,?_,h3⟩
 unfold FA
 rw [List.map_set]
 exact h2
structure Ar (m:Mem)(id:Nat)(l:List FR):Prop where
 ok:m.Ok
 fa:FA m id l
 lt:id<m.next
 lim:m.lim≤id
 good:∀r,r∈l→r.Good
 big:l.length≤36
theorem Ar.ext {m m':Mem}{id:Nat}{l:List FR}(h:Ar m id l)(e:Ext m m'):Ar m' id l:=
 ⟨e.ok,Arr.ext h.fa h.lt e,Nat.lt_of_lt_of_le h.lt e.next,by rw [e.lim];exact h.lim,h.good,h.big⟩
theorem Ar.lm {m:Mem}{id:Nat}{l:List FR}(h:Ar m id l):m.lim≤m.next:=Nat.le_trans h.lim (Nat.le_of_lt h.lt)
structure Chg (id:Nat)(m:Mem)(l:List FR)(m':Mem)(l':List FR):Prop where
 ext:sI id m m'
 ar:Ar m' id l'
 len:l'.length=l.length
 sub:∀r,r∈l'→r∈l
theorem Chg.refl {id:Nat}{m:Mem}{l:List FR}(h:Ar m id l):Chg id m l m l:=⟨sI.refl h.ok,h,rfl,fun _ h=>h⟩
theorem Chg.trans {id:Nat}{a b c:Mem}{l l' l'':List FR}(h:Chg id a l b l')(k:Chg id b l' c l''):Chg id a l c l'':=
 ⟨h.ext.trans k.ext,k.ar,k.len.trans h.len,fun r hr=>h.sub r (k.sub r hr)⟩
theorem Chg.of {id:Nat}{m m':Mem}{l:List FR}(h:Ar m id l)(e:Ext m m'):Chg id m l m' l:=⟨e.toB,h.ext e,rfl,fun _ h=>h⟩
theorem Ar.get {m:Mem}{id:Nat}{l:List FR}(h:Ar m id l){i:Nat}(hi:i<l.length):l[i].Good:=h.good _ (List.getElem_mem hi)
theorem Ar.store {m:Mem}{id:Nat}{l:List FR}(h:Ar m id l){i:Nat}(hi:i<l.length){r:FR}(hr:r.Good):
  ∃m',(∀{β:Type} (k:Mem→Option β),storeAt m id (i*32) r.f.cells k=k m')∧Ar m' id (l.set i r)∧sI id m m':=by
 obtain⟨m',h1,h2,h3⟩:=h.fa.store h.ok h.lt h.lim hi hr
 exact⟨m',h1,⟨h3.ok,h2,Nat.lt_of_lt_of_le h.lt h3.next,by rw [h3.lim];exact h.lim,fun x hx=>by
  rcases List.mem_or_eq_of_mem_set hx with h' | rfl
  ·exact h.good _ h'
  ·exact hr,by simpa using h.big⟩,h3⟩
def swp (l:List FR)(i j:Nat)(hi:i<l.length)(hj:j<l.length):List FR:=(l.set i l[j]).set j l[i]
theorem swp_get {l:List FR}{i j:Nat}(hi:i<l.length)(hj:j<l.length)(k:Nat):(swp l i j hi hj)[k]?=if k=j then l[i]? else if k=i then l[j]? else l[k]?:=by
 unfold swp
 rw [List.getElem?_set,List.getElem?_set]
 by_cases h1:j=k
 ·subst h1;simp [hi,hj]
 ·by_cases h2:i=k
  ·subst h2;simp [h1,hi,hj,Ne.symm h1]
  ·simp [h1,h2,Ne.symm h1,Ne.symm h2]
theorem Ar.swap {m:Mem}{id:Nat}{l:List FR}(h:Ar m id l){i j:Nat}(hi:i<l.length)(hj:j<l.length):
  ∃m1 m2,(∀{β:Type} (k:Mem→Option β),storeAt m id (i*32) l[j].f.cells k=k m1)∧(∀{β:Type} (k:Mem→Option β),storeAt m1 id (j*32) l[i].f.cells k=k m2)∧Chg id m l m2 (swp l i j hi hj):=by
 obtain⟨m1,a1,a2,a3⟩:=h.store hi (h.get hj)
 obtain⟨m2,b1,b2,b3⟩:=a2.store (i:=j) (by simpa using hj) (h.get hi)
 refine⟨m1,m2,a1,b1,a3.trans b3,b2,by simp [swp],fun r hr=>?_⟩
 rcases List.mem_or_eq_of_mem_set hr with hr | rfl
 ·rcases List.mem_or_eq_of_mem_set hr with hr | rfl
  ·exact hr
  ·exact List.getElem_mem hj
 ·exact List.getElem_mem hi
theorem dU {a b p:Nat}(h:p=a+b)(hp:p<4611686018427387904):w64 ((a:Int)+(b:Int))=(p:Int):=by rw [aR (by omega) (by omega)];omega
theorem R7 {a b p:Nat}(h:p+b=a)(hp:a<4611686018427387904):w64 ((a:Int)-(b:Int))=(p:Int):=by rw [aR (by omega) (by omega)];omega
theorem dB {a p:Nat}(h:p=a+1)(hp:p<4611686018427387904):w64 ((a:Int)+1)=(p:Int):=by rw [aR (by omega) (by omega)];omega
theorem nZ {a p:Nat}(h:p+1=a)(hp:a<4611686018427387904):w64 ((a:Int)-1)=(p:Int):=by rw [aR (by omega) (by omega)];omega
def SwR (a b i c:Nat)(l l':List FR):Prop:=∀k,l'[k]?=if a+i≤k∧k<a+c then l[k+(b-a)]? else if b+i≤k∧k<b+c then l[k-(b-a)]? else l[k]?
theorem SwR.step {a b i c:Nat}{l l':List FR}(hab:a+c≤b)(hic:i<c)(hi:a+i<l.length)(hj:b+i<l.length)(h:SwR a b (i+1) c (swp l (a+i) (b+i) hi hj) l'):SwR a b i c l l':=by
 intro k
 rw [h k]
 simp only [swp_get]
 by_cases h1:k=a+i
 ·subst h1
  rw [if_neg (by omega),if_neg (by omega),if_neg (by omega),if_pos rfl,if_pos (by omega)]
  congr 1;omega
 ·by_cases h2:k=b+i
  ·subst h2
   rw [if_neg (by omega),if_neg (by omega),if_pos rfl,if_neg (by omega),if_pos (by omega)]
   congr 1;omega
  ·by_cases h3:a+i≤k∧k<a+c
   ·rw [if_pos (by omega),if_pos h3,if_neg (by omega),if_neg (by omega)]
   ·by_cases h4:b+i≤k∧k<b+c
    ·rw [if_neg (by omega),if_pos (by omega),if_neg h3,if_pos h4,if_neg (by omega),if_neg (by omega)]
    ·rw [if_neg (by omega),if_neg (by omega),if_neg h3,if_neg h4,if_neg h2,if_neg h1]
theorem Kv (n0 fu id a b c n:Nat)(hab:a+c≤b)(hbn:b+c≤n)(hn:n≤36):
  ∀(j i:Nat),i+j=c→∀(N:Nat),j<N→∀(m:Mem) (l:List FR),Ar m id l→l.length=n→∀(x2:o8),
   ∃m' l',V9 (fun env m k=>Ci (G9 KW fu n0) fu none env m k) N (.nd (.nd (.nd .e (.sliceU id 0 n 32) .e) (.int .i64 ((c:Nat):Int)) (.nd .e (.int .i64 ((b:Nat):Int)) .e)) (.int .i64 ((i:Nat):Int)) (.nd (.nd .e (.int .i64 ((a:Nat):Int)) .e) x2 .e)) m []=some [⟨.exit 0,(.nd (.nd (.nd .e (.sliceU id 0 n 32) .e) (.int .i64 ((c:Nat):Int)) (.nd .e (.int .i64 ((b:Nat):Int)) .e)) (.int .i64 ((c:Nat):Int)) (.nd (.nd .e (.int .i64 ((a:Nat):Int)) .e) (.bool false) .e)),m',[],none⟩]∧Chg id m l m' l'∧SwR a b i c l l':=by
 intro j
 induction j with
 | zero=>
  intro i hij N hN m l h hl x2
  obtain⟨N,rfl⟩:∃M,N=M+1:=⟨N-1,by omega⟩
  obtain rfl:i=c:=by omega
  refine⟨m,l,?_,Chg.refl h,fun k=>?_⟩
  ·rw [F7]
   simp [Ci,F3,trD,H9,w9,p8,l8]
  ·rw [if_neg (by omega),if_neg (by omega)]
 | succ j ih=>
  intro i hij N hN m l h hl x2
  obtain⟨N,rfl⟩:∃M,N=M+1:=⟨N-1,by omega⟩
  have hi:a+i<l.length:=by omega
  have hj:b+i<l.length:=by omega
  obtain⟨m1,m2,s1,s2,hc⟩:=h.swap hi hj
  obtain⟨m',l',g,hc',hs⟩:=ih (i+1) (by omega) N (by omega) m2 _ hc.ar (hc.len.trans hl) (.bool true)
  refine⟨m',l',?_,hc.trans hc',SwR.step hab (by omega) hi hj hs⟩
  rw [F7,← g]
  have r1:=h.fa.ld hi
  have r2:=h.fa.ld hj
  have g1:=(h.get hi).rf
  have g2:=(h.get hj).rf
  generalize hx:l[a+i]=x at *
  generalize hy:l[b+i]=y at *
  clear hs hc' ih hc g
  obtain⟨p,hp⟩:∃p,p=a+i:=⟨_,rfl⟩
  obtain⟨q,hq⟩:∃q,q=b+i:=⟨_,rfl⟩
  rw [← hp] at r1 s1
  rw [← hq] at r2 s2
  have e1:=dU hp (by omega)
  have e2:=dU hq (by omega)
  have i1:∀{β:Type} (k:Nat→Option β),idx n (.int .i64 (p:Int)) k=k p:=fun k=>R3 _ _ k (by omega)
  have i2:∀{β:Type} (k:Nat→Option β),idx n (.int .i64 (q:Int)) k=k q:=fun k=>R3 _ _ k (by omega)
  have hic:i<c:=by omega
  simp [Ci,F3,trD,H9,w9,p8,l8,r9,hic,e1,e2,i1,i2,r1,r2,s1,s2,g1,g2,Fct.len,U1 (i:=i) (by omega)]
theorem Bg {m:Mem}{id:Nat}{l:List FR}(h:Ar m id l)(n0 fu:Nat)(hfu:1000≤fu)(a b c:Nat)(hab:a+c≤b)(hbn:b+c≤l.length)(w:o8):
  ∃m' l',G9 KW fu (n0+1) (.func 389) [.sliceU id 0 l.length 32,.int .i64 ((a:Nat):Int),.int .i64 ((b:Nat):Int),.int .i64 ((c:Nat):Int),w] m=some [⟨.tuple [],m'⟩]∧Chg id m l m' l'∧SwR a b 0 c l l':=by
 have hb:=h.big
 obtain⟨m',l',g,hc,hs⟩:=Kv n0 fu id a b c l.length hab hbn hb c 0 (by omega) fu (by omega) m l h rfl .undef
 refine⟨m',l',?_,hc,hs⟩
 rw [enter (sf:=aeD) rfl rfl]
 simp at g
 simp [aeD,F3,trD,H9,w9,p8,l8,g]
end Go.Proofs.YtefodipjjofocaaGreatDoor.TT
namespace Go.Proofs.YtefodipjjofocaaGreatDoor.TT
open Go Go.AM
set_option linter.unusedSimpArgs false
set_option linter.unusedVariables false
set_option maxRecDepth 100000
set_option maxHeartbeats 2000000
def Rot (a m b:Nat)(l l':List FR):Prop:=∀k,l'[k]?=if a≤k∧k<a+(b-m) then l[k+(m-a)]? else if a+(b-m)≤k∧k<b then l[k-(b-m)]? else l[k]?
theorem Rot.left {m i j:Nat}{l l1 l2:List FR}(him:i≤m)(hij:j<i)(h1:SwR (m-i) m 0 j l l1)(h2:Rot (m-(i-j)) m (m+j) l1 l2):Rot (m-i) m (m+j) l l2:=by
 intro k
 rw [h2 k]
 split
 ·rw [h1]
  repeat' split
  all_goals first | omega | rfl | (congr 1;omega)
 ·split
  ·rw [h1]
   repeat' split
   all_goals first | omega | rfl | (congr 1;omega)
  ·rw [h1]
   repeat' split
   all_goals first | omega | rfl | (congr 1;omega)
theorem Rot.right {m i j:Nat}{l l1 l2:List FR}(him:i≤m)(hij:i<j)(h1:SwR (m-i) (m+j-i) 0 i l l1)(h2:Rot (m-i) m (m+(j-i)) l1 l2):Rot (m-i) m (m+j) l l2:=by
 intro k
 rw [h2 k]
 split
 ·rw [h1]
  repeat' split
  all_goals first | omega | rfl | (congr 1;omega)
 ·split
  ·rw [h1]
   repeat' split
   all_goals first | omega | rfl | (congr 1;omega)
  ·rw [h1]
   repeat' split
   all_goals first | omega | rfl | (congr 1;omega)
theorem Rot.last {m g:Nat}{l l2:List FR}(hg:g≤m)(h:SwR (m-g) m 0 g l l2):Rot (m-g) m (m+g) l l2:=by
 intro k
 rw [h k]
 repeat' split
 all_goals first | omega | rfl | (congr 1;omega)
theorem Kw (n0 fu:Nat)(hfu:1000≤fu)(id a m b n:Nat)(hn:n≤36)(w:o8):
  ∀(s i j:Nat),i+j≤s→0<i→0<j→i≤m→m+j≤n→∀(N:Nat),s<N→∀(M:Mem) (l:List FR),Ar M id l→l.length=n→∀(x5 x6:o8),
   ∃g M' l' b6,V9 (fun env m k=>zy (G9 KW fu (n0+1)) fu none env m k) N (.nd (.nd (.nd (.nd .e (.sliceU id 0 n 32) .e) (.int .i64 ((i:Nat):Int)) .e) (.int .i64 ((a:Nat):Int)) (.nd .e x5 .e)) (.int .i64 ((m:Nat):Int)) (.nd (.nd (.nd .e w .e) (.int .i64 ((j:Nat):Int)) .e) (.int .i64 ((b:Nat):Int)) (.nd .e x6 .e))) M []=some [⟨.exit 0,(.nd (.nd (.nd (.nd .e (.sliceU id 0 n 32) .e) (.int .i64 ((g:Nat):Int)) .e) (.int .i64 ((a:Nat):Int)) (.nd .e (.bool false) .e)) (.int .i64 ((m:Nat):Int)) (.nd (.nd (.nd .e w .e) (.int .i64 ((g:Nat):Int)) .e) (.int .i64 ((b:Nat):Int)) (.nd .e b6 .e))),M',[],none⟩]∧Chg id M l M' l'∧0<g∧g≤m∧m+g≤n∧
    ∀l2,SwR (m-g) m 0 g l' l2→Rot (m-i) m (m+j) l l2:=by
 intro s
 induction s with
 | zero=>intro i j hs hi;omega
 | succ s ih=>
  intro i j hs hi hj him hjn N hN M l h hl x5 x6
  obtain⟨N,rfl⟩:∃M,N=M+1:=⟨N-1,by omega⟩
  by_cases hij:i=j
  ·subst hij
   refine⟨i,M,l,x6,?_,Chg.refl h,hi,him,hjn,fun l2 h2=>Rot.last him h2⟩
   rw [F7]
   simp [zy,F3,trD,H9,w9,p8,l8]
  ·have hne:¬ (i:Int)=(j:Int):=by omega
   obtain⟨p,hp⟩:∃p,p+i=m:=⟨m-i,by omega⟩
   have ep:=R7 hp (by omega)
   have hp':m-i=p:=by omega
   by_cases hlt:j<i
   ·obtain⟨M1,l1,g1,hc,hs1⟩:=Bg h n0 fu hfu p m j (by omega) (by omega) w
    obtain⟨g,M',l',b6,g2,hc2,hg,hgm,hgn,hr⟩:=ih (i-j) j (by omega) (by omega) hj (by omega) hjn N (by omega) M1 l1 hc.ar (hc.len.trans hl) (.bool true) (.bool true)
    refine⟨g,M',l',b6,?_,hc.trans hc2,hg,hgm,hgn,fun l2 h2=>Rot.left him hlt (by rw [hp'];exact hs1) (hr l2 h2)⟩
    obtain⟨q,hq⟩:∃q,q+j=i:=⟨i-j,by omega⟩
    rw [show i-j=q from by omega] at g2
    have eq:=R7 hq (by omega)
    rw [hl] at g1
    rw [F7,← g2]
    simp [zy,F3,trD,H9,w9,p8,l8,hne,hlt,ep,eq,g1]
   ·obtain⟨q,hq⟩:∃q,q=m+j:=⟨_,rfl⟩
    obtain⟨r,hr0⟩:∃r,r+i=q:=⟨q-i,by omega⟩
    have eq:=dU hq (by omega)
    have er:=R7 hr0 (by omega)
    obtain⟨M1,l1,g1,hc,hs1⟩:=Bg h n0 fu hfu p r i (by omega) (by omega) w
    obtain⟨g,M',l',b6,g2,hc2,hg,hgm,hgn,hr⟩:=ih i (j-i) (by omega) hi (by omega) him (by omega) N (by omega) M1 l1 hc.ar (hc.len.trans hl) (.bool true) (.bool false)
    refine⟨g,M',l',b6,?_,hc.trans hc2,hg,hgm,hgn,fun l2 h2=>Rot.right him (by omega) (by rw [hp',show m+j-i=r from by omega];exact hs1) (hr l2 h2)⟩
    obtain⟨t,ht⟩:∃t,t+i=j:=⟨j-i,by omega⟩
    rw [show j-i=t from by omega] at g2
    have et:=R7 ht (by omega)
    rw [hl] at g1
    rw [F7,← g2]
    simp [zy,F3,trD,H9,w9,p8,l8,hne,hlt,ep,eq,er,et,g1]
theorem Po {M:Mem}{id:Nat}{l:List FR}(h:Ar M id l)(n0 fu:Nat)(hfu:1000≤fu)(a m b:Nat)(ham:a<m)(hmb:m<b)(hb:b≤l.length)(w:o8):
  ∃M' l',G9 KW fu (n0+2) (.func 341) [.sliceU id 0 l.length 32,.int .i64 ((a:Nat):Int),.int .i64 ((m:Nat):Int),.int .i64 ((b:Nat):Int),w] M=some [⟨.tuple [],M'⟩]∧Chg id M l M' l'∧Rot a m b l l':=by
 have hbig:=h.big
 obtain⟨i,hi⟩:∃i,i+a=m:=⟨m-a,by omega⟩
 obtain⟨j,hj⟩:∃j,j+m=b:=⟨b-m,by omega⟩
 obtain⟨g,M1,l1,b6,g1,hc,hg,hgm,hgn,hr⟩:=Kw n0 fu hfu id a m b l.length hbig w (i+j) i j (Nat.le_refl _) (by omega) (by omega) (by omega) (by omega) fu (by omega) M l h rfl .undef .undef
 obtain⟨p,hp⟩:∃p,p+g=m:=⟨m-g,by omega⟩
 obtain⟨M2,l2,g2,hc2,hs⟩:=Bg hc.ar n0 fu hfu p m g (by omega) (by rw [hc.len];omega) w
 refine⟨M2,l2,?_,hc.trans hc2,?_⟩
 ·rw [enter (sf:=f341) rfl rfl]
  have e1:=R7 hi (by omega)
  have e2:=R7 hj (by omega)
  have e3:=R7 hp (by omega)
  rw [hc.len] at g2
  simp [f341,F3,trD,H9,w9,p8,l8,e1,e2,e3,g1,g2]
 ·have:=hr l2 (by rw [show m-g=p from by omega];exact hs)
  rwa [show m-i=a from by omega,show m+j=b from by omega] at this
end Go.Proofs.YtefodipjjofocaaGreatDoor.TT
namespace Go.Proofs.YtefodipjjofocaaGreatDoor.TT
open Go Go.AM
set_option linter.unusedSimpArgs false
set_option linter.unusedVariables false
set_option maxRecDepth 100000
set_option maxHeartbeats 2000000
theorem Pp {p:Nat}(h:p<4611686018427387904):iy .u64 (p:Int)=(p:Int):=by
 show IntKind.u64.wrap (p:Int)=_
 simp only [IntKind.wrap,IntKind.signed,IntKind.bits]
 simp
 omega
theorem Pq {p:Nat}(h:p<4611686018427387904):iy .i64 (p:Int)=(p:Int):=by show w64 (p:Int)=_;exact aR (by omega) (by omega)
theorem Pt {p q:Nat}(h:q=p / 2):TW (.int .u64 (p:Int)) (.int .u64 1)=some (.int .u64 (q:Int)):=by
 subst h
 show some (o8.int .u64 ((p:Int).fdiv (2^(min 1 IntKind.u64.bits))))=_
 have:(2:Int)^(min 1 IntKind.u64.bits)=2:=by decide
 rw [this]
 congr 2
 rw [Int.fdiv_eq_ediv_of_nonneg _ (by omega)]
 omega
def FR.key (r:FR):Int:=r.f.room*18446744073709551616+r.f.no
theorem Yy {x y:FR}(hx:x.Good)(hy:y.Good):(x.ord y<0)↔x.key<y.key:=by
 have h1:-9223372036854775808≤x.f.no∧x.f.no<9223372036854775808:=hx.no
 have h2:-9223372036854775808≤y.f.no∧y.f.no<9223372036854775808:=hy.no
 unfold FR.ord aeE Cq FR.key
 repeat' split
 all_goals omega
def kAt (l:List FR)(i:Nat):Int:=(l[i]?.map FR.key).getD 0
theorem eY {l:List FR}{i:Nat}(h:i<l.length):kAt l i=l[i].key:=by simp [kAt,h]
theorem dJ {l l':List FR}{i j:Nat}(h:l'[i]?=l[j]?):kAt l' i=kAt l j:=by unfold kAt;rw [h]
def Srt (l:List FR)(a b:Nat):Prop:=∀i j,a≤i→i<j→j<b→kAt l i≤kAt l j
structure Mv (a b:Nat)(l l':List FR):Prop where
 out:∀k,k<a∨b≤k→l'[k]?=l[k]?
 inn:∀k,a≤k→k<b→∃j,a≤j∧j<b∧l'[k]?=l[j]?
 bak:∀j,a≤j→j<b→∃k,a≤k∧k<b∧l'[k]?=l[j]?
theorem Mv.refl (a b:Nat)(l:List FR):Mv a b l l:=⟨fun _ _=>rfl,fun k h1 h2=>⟨k,h1,h2,rfl⟩,fun k h1 h2=>⟨k,h1,h2,rfl⟩⟩
theorem Mv.trans {a b:Nat}{l l' l'':List FR}(h:Mv a b l l')(k:Mv a b l' l''):Mv a b l l'':=
 ⟨fun i hi=>(k.out i hi).trans (h.out i hi),fun i h1 h2=>by
  obtain⟨j,j1,j2,j3⟩:=k.inn i h1 h2
  obtain⟨t,t1,t2,t3⟩:=h.inn j j1 j2
  exact⟨t,t1,t2,j3.trans t3⟩,fun i h1 h2=>by
  obtain⟨j,j1,j2,j3⟩:=h.bak i h1 h2
  obtain⟨t,t1,t2,t3⟩:=k.bak j j1 j2
  exact⟨t,t1,t2,t3.trans j3⟩⟩
theorem Mv.mono {a b a' b':Nat}{l l':List FR}(h:Mv a b l l')(ha:a'≤a)(hb:b≤b'):Mv a' b' l l':=
 ⟨fun k hk=>h.out k (by omega),fun k h1 h2=>by
  by_cases hk:a≤k∧k<b
  ·obtain⟨j,j1,j2,j3⟩:=h.inn k hk.1 hk.2
   exact⟨j,by omega,by omega,j3⟩
  ·exact⟨k,h1,h2,h.out k (by omega)⟩,fun k h1 h2=>by
  by_cases hk:a≤k∧k<b
  ·obtain⟨j,j1,j2,j3⟩:=h.bak k hk.1 hk.2
   exact⟨j,by omega,by omega,j3⟩
  ·exact⟨k,h1,h2,h.out k (by omega)⟩⟩
theorem Rot.mv {a m b:Nat}{l l':List FR}(h:Rot a m b l l')(ham:a≤m)(hmb:m≤b):Mv a b l l':=by
 refine⟨fun k hk=>?_,fun k h1 h2=>?_,fun k h1 h2=>?_⟩
 ·rw [h k,if_neg (by omega),if_neg (by omega)]
 ·by_cases hk:k<a+(b-m)
  ·exact⟨k+(m-a),by omega,by omega,by rw [h k,if_pos (by omega)]⟩
  ·exact⟨k-(b-m),by omega,by omega,by rw [h k,if_neg (by omega),if_pos (by omega)]⟩
 ·by_cases hk:k<m
  ·exact⟨k+(b-m),by omega,by omega,by rw [h,if_neg (by omega),if_pos (by omega)];congr 1;omega⟩
  ·exact⟨k-(m-a),by omega,by omega,by rw [h,if_pos (by omega)];congr 1;omega⟩
theorem Mv.kIn {a b:Nat}{l l':List FR}(h:Mv a b l l'){k:Nat}(h1:a≤k)(h2:k<b):∃j,a≤j∧j<b∧kAt l' k=kAt l j:=by
 obtain⟨j,j1,j2,j3⟩:=h.inn k h1 h2
 exact⟨j,j1,j2,dJ j3⟩
theorem Mv.aeF {a b:Nat}{l l':List FR}(h:Mv a b l l'){k:Nat}(hk:k<a∨b≤k):kAt l' k=kAt l k:=dJ (h.out k hk)
theorem Rot.k1 {a m b:Nat}{l l':List FR}(h:Rot a m b l l'){k:Nat}(h1:a≤k)(h2:k<a+(b-m)):kAt l' k=kAt l (k+(m-a)):=dJ (by rw [h k,if_pos ⟨h1,h2⟩])
theorem Rot.k2 {a m b:Nat}{l l':List FR}(h:Rot a m b l l'){k:Nat}(h1:a+(b-m)≤k)(h2:k<b):kAt l' k=kAt l (k-(b-m)):=dJ (by rw [h k,if_neg (by omega),if_pos ⟨h1,h2⟩])
theorem Rot.k0 {a m b:Nat}{l l':List FR}(h:Rot a m b l l'){k:Nat}(h1:k<a∨b≤k)(hm:a≤m)(hb:m≤b):kAt l' k=kAt l k:=dJ (by rw [h k,if_neg (by omega),if_neg (by omega)])
theorem Srt.out {a b c d:Nat}{l l':List FR}(h:Mv a b l l')(hs:Srt l c d)(hd:d≤a∨b≤c):Srt l' c d:=fun i j h1 h2 h3=>by
 rw [h.aeF (k:=i) (by omega),h.aeF (k:=j) (by omega)];exact hs i j h1 h2 h3
theorem Srt.join {a m b:Nat}{l:List FR}(h1:Srt l a m)(h2:Srt l m b)(hx:∀i j,a≤i→i<m→m≤j→j<b→kAt l i≤kAt l j):Srt l a b:=fun i j hi hij hj=>by
 by_cases hm:j<m
 ·exact h1 i j hi hij hm
 ·by_cases hi':i<m
  ·exact hx i j hi hi' (by omega) hj
  ·exact h2 i j (by omega) hij hj
theorem Gv {a t b:Nat}{l l':List FR}(hat:a+1≤t)(htb:t≤b)(hs:Srt l (a+1) b)(h1:∀k,a+1≤k→k<t→kAt l k<kAt l a)(h2:∀k,t≤k→k<b→kAt l a≤kAt l k)(h:Rot a (a+1) t l l'):Srt l' a b:=by
 have key:∀k,a≤k→k<b→(k+1<t∧kAt l' k=kAt l (k+1))∨(k+1=t∧kAt l' k=kAt l a)∨(t≤k∧kAt l' k=kAt l k):=fun k hk hb=>by
  by_cases c1:k+1<t
  ·exact .inl ⟨c1,by rw [h.k1 hk (by omega)];congr 1;omega⟩
  ·by_cases c2:k+1=t
   ·exact .inr (.inl ⟨c2,by rw [h.k2 (by omega) (by omega)];congr 1;omega⟩)
   ·exact .inr (.inr ⟨by omega,h.k0 (by omega) (by omega) (by omega)⟩)
 intro i j hi hij hj
 rcases key i hi (by omega) with⟨c,e⟩ | ⟨c,e⟩ | ⟨c,e⟩<;>rcases key j (by omega) hj with⟨c',e'⟩ | ⟨c',e'⟩ | ⟨c',e'⟩<;>rw [e,e']
 ·exact hs _ _ (by omega) (by omega) (by omega)
 ·exact Int.le_of_lt (h1 _ (by omega) (by omega))
 ·exact hs _ _ (by omega) (by omega) (by omega)
 ·omega
 ·omega
 ·exact h2 _ (by omega) (by omega)
 ·omega
 ·omega
 ·exact hs _ _ (by omega) (by omega) (by omega)
theorem Ct {a t m:Nat}{l l':List FR}(hat:a≤t)(htm:t≤m)(hs:Srt l a m)(h1:∀k,a≤k→k<t→kAt l k≤kAt l m)(h2:∀k,t≤k→k<m→kAt l m<kAt l k)(h:Rot t m (m+1) l l'):Srt l' a (m+1):=by
 have key:∀k,a≤k→k<m+1→(k<t∧kAt l' k=kAt l k)∨(k=t∧kAt l' k=kAt l m)∨(t<k∧kAt l' k=kAt l (k-1)):=fun k hk hb=>by
  by_cases c1:k<t
  ·exact .inl ⟨c1,h.k0 (by omega) (by omega) (by omega)⟩
  ·by_cases c2:k=t
   ·exact .inr (.inl ⟨c2,by rw [h.k1 (by omega) (by omega)];congr 1;omega⟩)
   ·exact .inr (.inr ⟨by omega,by rw [h.k2 (by omega) (by omega)];congr 1;omega⟩)
 intro i j hi hij hj
 rcases key i hi (by omega) with⟨c,e⟩ | ⟨c,e⟩ | ⟨c,e⟩<;>rcases key j (by omega) hj with⟨c',e'⟩ | ⟨c',e'⟩ | ⟨c',e'⟩<;>rw [e,e']
 ·exact hs _ _ (by omega) (by omega) (by omega)
 ·exact h1 _ (by omega) (by omega)
 ·exact hs _ _ (by omega) (by omega) (by omega)
 ·omega
 ·omega
 ·exact Int.le_of_lt (h2 _ (by omega) (by omega))
 ·omega
 ·omega
 ·exact hs _ _ (by omega) (by omega) (by omega)
theorem Gw {a s m e b d:Nat}{l l':List FR}(ha:a≤s)(hs:s≤m)(he:m≤e)(hb:e≤b)(hd:d+m=s+e)(hsm:s≤m)(s1:Srt l a m)(s2:Srt l m b)
  (c1:a<s→e<b→kAt l (s-1)≤kAt l e) (c2:s<m→m<e→kAt l (e-1)<kAt l s) (h:Rot s m e l l'):
  (∀i j,a≤i→i<d→d≤j→j<b→kAt l' i≤kAt l' j)∧Srt l' a s∧Srt l' s d∧Srt l' d e∧Srt l' e b:=by
 have le1:∀i j,a≤i→i≤j→j<m→kAt l i≤kAt l j:=fun i j hi hij hj=>by
  rcases Nat.lt_or_eq_of_le hij with h | rfl
  ·exact s1 i j hi h hj
  ·exact Int.le_refl _
 have le2:∀i j,m≤i→i≤j→j<b→kAt l i≤kAt l j:=fun i j hi hij hj=>by
  rcases Nat.lt_or_eq_of_le hij with h | rfl
  ·exact s2 i j hi h hj
  ·exact Int.le_refl _
 have r0:∀k,a≤k→k<s→kAt l' k=kAt l k:=fun k _ hk=>h.k0 (by omega) hs he
 have r1:∀k,s≤k→k<d→kAt l' k=kAt l (k+(m-s)):=fun k hk hk'=>h.k1 hk (by omega)
 have r2:∀k,d≤k→k<e→kAt l' k=kAt l (k-(e-m)):=fun k hk hk'=>h.k2 (by omega) hk'
 have r3:∀k,e≤k→k<b→kAt l' k=kAt l k:=fun k hk _=>h.k0 (by omega) hs he
 refine⟨fun i j hi hid hj hjb=>?_,fun i j hi hij hj=>?_,fun i j hi hij hj=>?_,fun i j hi hij hj=>?_,fun i j hi hij hj=>?_⟩
 ·by_cases his:i<s
  ·rw [r0 i hi his]
   by_cases hje:j<e
   ·rw [r2 j hj hje]
    exact le1 _ _ hi (by omega) (by omega)
   ·rw [r3 j (by omega) hjb]
    exact Int.le_trans (le1 i (s-1) hi (by omega) (by omega)) (Int.le_trans (c1 (by omega) (by omega)) (le2 e j he (by omega) hjb))
  ·rw [r1 i (by omega) hid]
   by_cases hje:j<e
   ·rw [r2 j hj hje]
    exact Int.le_trans (le2 _ (e-1) (by omega) (by omega) (by omega)) (Int.le_trans (Int.le_of_lt (c2 (by omega) (by omega))) (le1 s _ ha (by omega) (by omega)))
   ·rw [r3 j (by omega) hjb]
    exact le2 _ _ (by omega) (by omega) hjb
 ·rw [r0 i hi (by omega),r0 j (by omega) hj];exact s1 _ _ hi hij (by omega)
 ·rw [r1 i hi (by omega),r1 j (by omega) hj];exact s2 _ _ (by omega) (by omega) (by omega)
 ·rw [r2 i hi (by omega),r2 j (by omega) hj];exact s1 _ _ (by omega) (by omega) (by omega)
 ·rw [r3 i hi (by omega),r3 j (by omega) hj];exact s2 _ _ (by omega) hij hj
theorem halves {a d b:Nat}{l l1 l2:List FR}(had:a≤d)(hdb:d≤b)(hx:∀i j,a≤i→i<d→d≤j→j<b→kAt l i≤kAt l j)(h1:Mv a d l l1)(h2:Mv d b l1 l2)(s1:Srt l1 a d)(s2:Srt l2 d b):Srt l2 a b:=by
 refine Srt.join (Srt.out h2 s1 (.inl (Nat.le_refl _))) s2 fun i j hi hid hj hjb=>?_
 rw [h2.aeF (k:=i) (by omega)]
 obtain⟨t,t1,t2,t3⟩:=h2.kIn hj hjb
 obtain⟨u,u1,u2,u3⟩:=h1.kIn hi hid
 rw [t3,h1.aeF (k:=t) (by omega),u3]
 exact hx u t u1 u2 t1 t2
end Go.Proofs.YtefodipjjofocaaGreatDoor.TT
namespace Go.Proofs.YtefodipjjofocaaGreatDoor.TT
open Go Go.AM
set_option linter.unusedSimpArgs false
set_option linter.unusedVariables false
set_option maxRecDepth 100000
set_option maxHeartbeats 2000000
theorem vR {x y:FR}(hx:x.Good)(hy:y.Good):decide (x.ord y<0)=decide (x.key<y.key):=decide_eq_decide.2 (Yy hx hy)
theorem qb {i j h:Nat}(hh:h=(i+j) / 2)(hj:i+j<4611686018427387904):
  ∃p:Nat,w64 ((i:Int)+(j:Int))=(p:Int)∧iy .u64 (p:Int)=(p:Int)∧TW (.int .u64 (p:Int)) (.int .u64 1)=some (.int .u64 (h:Int))∧iy .i64 (h:Int)=(h:Int):=
 ⟨i+j,dU rfl hj,Pp hj,Pt hh,Pq (by omega)⟩
theorem DI (n0 fu:Nat)(hfu:1000≤fu)(id a m b n lo hi:Nat)(hn:n≤36)(l:List FR)(hl:l.length=n)(q:Nat→Bool)(hhi:hi≤n)(han:a<n)
  (hq:∀h,lo≤h→h<hi→q h=decide (kAt l h<kAt l a))
  (mono:∀u v,lo≤u→u≤v→v<hi→q v=true→q u=true) (y2 y11 y12 y13 y14 y15 y16 y17 y18 y19 y20 y21 y22 y23 y24 y25 y26 y27 y28 y29 y30 y31 y32 y33:o8):
  ∀(s i j:Nat),j-i≤s→i≤j→lo≤i→j≤hi→(∀k,lo≤k→k<i→q k=true)→(∀k,j≤k→k<hi→q k=false)→∀(N:Nat),s<N→∀(M:Mem),Ar M id l→∀(xc xh xr:o8),
   ∃t M' zh zr,V9 (fun env m k=>uz (G9 KW fu (n0+4)) fu none env m k) N (.nd (.nd (.nd (.nd (.nd (.nd .e y31 .e) y15 .e) (.func (.func 112) [] []) (.nd .e y23 .e)) (.int .i64 ((b:Nat):Int)) (.nd (.nd .e y19 .e) y11 (.nd .e y27 .e))) (.int .i64 ((a:Nat):Int)) (.nd (.nd (.nd (.nd .e y33 .e) y17 .e) xh (.nd .e y25 .e)) (.int .i64 ((j:Nat):Int)) (.nd (.nd .e y21 .e) y13 (.nd .e y29 .e)))) (.int .i64 ((m:Nat):Int)) (.nd (.nd (.nd (.nd (.nd .e y32 .e) y16 .e) (.sliceU id 0 n 32) (.nd .e y24 .e)) (.int .i64 ((i:Nat):Int)) (.nd (.nd .e y20 .e) y12 (.nd .e y28 .e))) y2 (.nd (.nd (.nd .e y18 .e) xr (.nd .e y26 .e)) xc (.nd (.nd .e y22 .e) y14 (.nd .e y30 .e))))) M []=some [⟨.exit 0,(.nd (.nd (.nd (.nd (.nd (.nd .e y31 .e) y15 .e) (.func (.func 112) [] []) (.nd .e y23 .e)) (.int .i64 ((b:Nat):Int)) (.nd (.nd .e y19 .e) y11 (.nd .e y27 .e))) (.int .i64 ((a:Nat):Int)) (.nd (.nd (.nd (.nd .e y33 .e) y17 .e) zh (.nd .e y25 .e)) (.int .i64 ((t:Nat):Int)) (.nd (.nd .e y21 .e) y13 (.nd .e y29 .e)))) (.int .i64 ((m:Nat):Int)) (.nd (.nd (.nd (.nd (.nd .e y32 .e) y16 .e) (.sliceU id 0 n 32) (.nd .e y24 .e)) (.int .i64 ((t:Nat):Int)) (.nd (.nd .e y20 .e) y12 (.nd .e y28 .e))) y2 (.nd (.nd (.nd .e y18 .e) zr (.nd .e y26 .e)) (.bool false) (.nd (.nd .e y22 .e) y14 (.nd .e y30 .e))))),M',[],none⟩]∧Ext M M'∧i≤t∧t≤j∧
    (∀k,lo≤k→k<t→q k=true)∧(∀k,t≤k→k<hi→q k=false):=by
 intro s
 induction s with
 | zero=>
  intro i j hs hij hlo hjhi q1 q2 N hN M h xc xh xr
  obtain⟨N,rfl⟩:∃M,N=M+1:=⟨N-1,by omega⟩
  obtain rfl:i=j:=by omega
  refine⟨i,M,xh,xr,?_,Ext.refl h.ok,Nat.le_refl _,Nat.le_refl _,q1,q2⟩
  rw [F7]
  simp [uz,F3,trD,H9,w9,p8,l8]
 | succ s ih=>
  intro i j hs hij hlo hjhi q1 q2 N hN M h xc xh xr
  obtain⟨N,rfl⟩:∃M,N=M+1:=⟨N-1,by omega⟩
  by_cases hlt:i<j
  ·obtain⟨c,hc⟩:∃c,c=(i+j) / 2:=⟨_,rfl⟩
   obtain⟨w,w1,w2,w3,w4⟩:=qb hc (by omega)
   have hci:i≤c:=by omega
   have hcj:c<j:=by omega
   have hu:c<l.length:=by omega
   have hv:a<l.length:=by omega
   obtain⟨M1,g1,E1⟩:=vQ h.ok h.lm n0 fu hfu (h.get hu) (h.get hv)
   have r1:=h.fa.ld hu
   have r2:=h.fa.ld hv
   have z1:=(h.get hu).rf
   have z2:=(h.get hv).rf
   have i1:∀{β:Type} (k:Nat→Option β),idx n (.int .i64 (c:Int)) k=k c:=fun k=>R3 _ _ k (by omega)
   have i2:∀{β:Type} (k:Nat→Option β),idx n (.int .i64 (a:Int)) k=k a:=fun k=>R3 _ _ k (by omega)
   have hqc:=hq c (by omega) (by omega)
   have hd:=vR (h.get hu) (h.get hv)
   rw [← eY hu,← eY hv] at hd
   generalize l[c]=x at *
   generalize l[a]=y at *
   cases hb:q c with
   | true=>
    obtain⟨t,M',zh,zr,g2,E2,t1,t2,t3,t4⟩:=ih (c+1) j (by omega) (by omega) (by omega) hjhi (fun k hk hk'=>by
     by_cases hkc:k≤c
     ·exact mono k c hk hkc (by omega) hb
     ·omega) q2 N (by omega) M1 (h.ext E1) (.bool true) (.int .i64 ((c:Nat):Int)) (.bool true)
    refine⟨t,M',zh,zr,?_,E1.trans E2,by omega,t2,t3,t4⟩
    obtain⟨c1,hc1⟩:∃c1,c1=c+1:=⟨_,rfl⟩
    have ec:=dB hc1 (by omega)
    rw [← hc1] at g2
    have hd2:decide (x.ord y<0)=true:=by
     rw [hd];rw [hb] at hqc;simpa [decide_eq_true_eq] using hqc.symm
    clear ih q1 q2 mono hq
    rw [F7,← g2]
    simp [uz,F3,trD,H9,w9,p8,l8,hlt,w1,w2,w3,w4,r1,r2,z1,z2,i1,i2,g1,hd2,ec]
   | false=>
    obtain⟨t,M',zh,zr,g2,E2,t1,t2,t3,t4⟩:=ih i c (by omega) (by omega) hlo (by omega) q1 (fun k hk hk'=>by
     cases hqk:q k with
     | false=>rfl
     | true=>rw [mono c k (by omega) hk hk' hqk] at hb;cases hb) N (by omega) M1 (h.ext E1) (.bool true) (.int .i64 ((c:Nat):Int)) (.bool false)
    refine⟨t,M',zh,zr,?_,E1.trans E2,t1,by omega,t3,t4⟩
    have hd2:decide (x.ord y<0)=false:=by
     rw [hd];rw [hb] at hqc;simpa [decide_eq_true_eq] using hqc.symm
    clear ih q1 q2 mono hq
    rw [F7,← g2]
    simp [uz,F3,trD,H9,w9,p8,l8,hlt,w1,w2,w3,w4,r1,r2,z1,z2,i1,i2,g1,hd2]
  ·obtain rfl:i=j:=by omega
   refine⟨i,M,xh,xr,?_,Ext.refl h.ok,Nat.le_refl _,Nat.le_refl _,q1,q2⟩
   rw [F7]
   simp [uz,F3,trD,H9,w9,p8,l8]
theorem DJ (n0 fu:Nat)(hfu:1000≤fu)(id a m b n lo hi:Nat)(hn:n≤36)(l:List FR)(hl:l.length=n)(q:Nat→Bool)(hhi:hi≤n)(hmn:m<n)
  (hq:∀h,lo≤h→h<hi→q h=!decide (kAt l m<kAt l h))
  (mono:∀u v,lo≤u→u≤v→v<hi→q v=true→q u=true) (y2 y4 y5 y6 y9 y10 y11 y12 y13 y19 y20 y21 y22 y23 y24 y25 y26 y27 y28 y29 y30 y31 y32 y33:o8):
  ∀(s i j:Nat),j-i≤s→i≤j→lo≤i→j≤hi→(∀k,lo≤k→k<i→q k=true)→(∀k,j≤k→k<hi→q k=false)→∀(N:Nat),s<N→∀(M:Mem),Ar M id l→∀(xc xh xr:o8),
   ∃t M' zh zr,V9 (fun env m k=>uy (G9 KW fu (n0+4)) fu none env m k) N (.nd (.nd (.nd (.nd (.nd (.nd .e y31 .e) (.int .i64 ((j:Nat):Int)) .e) (.func (.func 112) [] []) (.nd .e y23 .e)) (.int .i64 ((b:Nat):Int)) (.nd (.nd .e y19 .e) y11 (.nd .e y27 .e))) (.int .i64 ((a:Nat):Int)) (.nd (.nd (.nd (.nd .e y33 .e) xh .e) y9 (.nd .e y25 .e)) y5 (.nd (.nd .e y21 .e) y13 (.nd .e y29 .e)))) (.int .i64 ((m:Nat):Int)) (.nd (.nd (.nd (.nd (.nd .e y32 .e) xc .e) (.sliceU id 0 n 32) (.nd .e y24 .e)) y4 (.nd (.nd .e y20 .e) y12 (.nd .e y28 .e))) y2 (.nd (.nd (.nd .e xr .e) y10 (.nd .e y26 .e)) y6 (.nd (.nd .e y22 .e) (.int .i64 ((i:Nat):Int)) (.nd .e y30 .e))))) M []=some [⟨.exit 4,(.nd (.nd (.nd (.nd (.nd (.nd .e y31 .e) (.int .i64 ((t:Nat):Int)) .e) (.func (.func 112) [] []) (.nd .e y23 .e)) (.int .i64 ((b:Nat):Int)) (.nd (.nd .e y19 .e) y11 (.nd .e y27 .e))) (.int .i64 ((a:Nat):Int)) (.nd (.nd (.nd (.nd .e y33 .e) zh .e) y9 (.nd .e y25 .e)) y5 (.nd (.nd .e y21 .e) y13 (.nd .e y29 .e)))) (.int .i64 ((m:Nat):Int)) (.nd (.nd (.nd (.nd (.nd .e y32 .e) (.bool false) .e) (.sliceU id 0 n 32) (.nd .e y24 .e)) y4 (.nd (.nd .e y20 .e) y12 (.nd .e y28 .e))) y2 (.nd (.nd (.nd .e zr .e) y10 (.nd .e y26 .e)) y6 (.nd (.nd .e y22 .e) (.int .i64 ((t:Nat):Int)) (.nd .e y30 .e))))),M',[],none⟩]∧Ext M M'∧i≤t∧t≤j∧
    (∀k,lo≤k→k<t→q k=true)∧(∀k,t≤k→k<hi→q k=false):=by
 intro s
 induction s with
 | zero=>
  intro i j hs hij hlo hjhi q1 q2 N hN M h xc xh xr
  obtain⟨N,rfl⟩:∃M,N=M+1:=⟨N-1,by omega⟩
  obtain rfl:i=j:=by omega
  refine⟨i,M,xh,xr,?_,Ext.refl h.ok,Nat.le_refl _,Nat.le_refl _,q1,q2⟩
  rw [F7]
  simp [uy,F3,trD,H9,w9,p8,l8]
 | succ s ih=>
  intro i j hs hij hlo hjhi q1 q2 N hN M h xc xh xr
  obtain⟨N,rfl⟩:∃M,N=M+1:=⟨N-1,by omega⟩
  by_cases hlt:i<j
  ·obtain⟨c,hc⟩:∃c,c=(i+j) / 2:=⟨_,rfl⟩
   obtain⟨w,w1,w2,w3,w4⟩:=qb hc (by omega)
   have hci:i≤c:=by omega
   have hcj:c<j:=by omega
   have hu:m<l.length:=by omega
   have hv:c<l.length:=by omega
   obtain⟨M1,g1,E1⟩:=vQ h.ok h.lm n0 fu hfu (h.get hu) (h.get hv)
   have r1:=h.fa.ld hu
   have r2:=h.fa.ld hv
   have z1:=(h.get hu).rf
   have z2:=(h.get hv).rf
   have i1:∀{β:Type} (k:Nat→Option β),idx n (.int .i64 (m:Int)) k=k m:=fun k=>R3 _ _ k (by omega)
   have i2:∀{β:Type} (k:Nat→Option β),idx n (.int .i64 (c:Int)) k=k c:=fun k=>R3 _ _ k (by omega)
   have hqc:=hq c (by omega) (by omega)
   have hd:=vR (h.get hu) (h.get hv)
   rw [← eY hu,← eY hv] at hd
   generalize l[m]=x at *
   generalize l[c]=y at *
   cases hb:q c with
   | true=>
    obtain⟨t,M',zh,zr,g2,E2,t1,t2,t3,t4⟩:=ih (c+1) j (by omega) (by omega) (by omega) hjhi (fun k hk hk'=>by
     by_cases hkc:k≤c
     ·exact mono k c hk hkc (by omega) hb
     ·omega) q2 N (by omega) M1 (h.ext E1) (.bool true) (.int .i64 ((c:Nat):Int)) (.bool true)
    refine⟨t,M',zh,zr,?_,E1.trans E2,by omega,t2,t3,t4⟩
    obtain⟨c1,hc1⟩:∃c1,c1=c+1:=⟨_,rfl⟩
    have ec:=dB hc1 (by omega)
    rw [← hc1] at g2
    have hd2:decide (x.ord y<0)=false:=by
     rw [hd];rw [hb] at hqc;simpa [decide_eq_true_eq] using hqc.symm
    clear ih q1 q2 mono hq
    rw [F7,← g2]
    simp [uy,F3,trD,H9,w9,p8,l8,hlt,w1,w2,w3,w4,r1,r2,z1,z2,i1,i2,g1,hd2,ec]
   | false=>
    obtain⟨t,M',zh,zr,g2,E2,t1,t2,t3,t4⟩:=ih i c (by omega) (by omega) hlo (by omega) q1 (fun k hk hk'=>by
     cases hqk:q k with
     | false=>rfl
     | true=>rw [mono c k (by omega) hk hk' hqk] at hb;cases hb) N (by omega) M1 (h.ext E1) (.bool true) (.int .i64 ((c:Nat):Int)) (.bool false)
    refine⟨t,M',zh,zr,?_,E1.trans E2,t1,by omega,t3,t4⟩
    have hd2:decide (x.ord y<0)=true:=by
     rw [hd];rw [hb] at hqc;simpa [decide_eq_true_eq] using hqc.symm
    clear ih q1 q2 mono hq
    rw [F7,← g2]
    simp [uy,F3,trD,H9,w9,p8,l8,hlt,w1,w2,w3,w4,r1,r2,z1,z2,i1,i2,g1,hd2]
  ·obtain rfl:i=j:=by omega
   refine⟨i,M,xh,xr,?_,Ext.refl h.ok,Nat.le_refl _,Nat.le_refl _,q1,q2⟩
   rw [F7]
   simp [uy,F3,trD,H9,w9,p8,l8]
theorem DK (n0 fu:Nat)(hfu:1000≤fu)(id a m b n lo hi:Nat)(p:Nat)(hn:n≤36)(l:List FR)(hl:l.length=n)(q:Nat→Bool)(hhi:hi≤n)(hp:∀h,lo≤h→h<hi→h≤p∧p-h<n)
  (hq:∀h,lo≤h→h<hi→q h=!decide (kAt l (p-h)<kAt l h))
  (mono:∀u v,lo≤u→u≤v→v<hi→q v=true→q u=true) (y2 y4 y5 y6 y9 y10 y11 y12 y13 y14 y15 y16 y17 y18 y19 y20 y21 y22 y23 y30 y31 y32 y33:o8):
  ∀(s i j:Nat),j-i≤s→i≤j→lo≤i→j≤hi→(∀k,lo≤k→k<i→q k=true)→(∀k,j≤k→k<hi→q k=false)→∀(N:Nat),s<N→∀(M:Mem),Ar M id l→∀(xc xh xr:o8),
   ∃t M' zh zr,V9 (fun env m k=>rD (G9 KW fu (n0+4)) fu none env m k) N (.nd (.nd (.nd (.nd (.nd (.nd .e y31 .e) y15 .e) (.func (.func 112) [] []) (.nd .e y23 .e)) (.int .i64 ((b:Nat):Int)) (.nd (.nd .e y19 .e) y11 (.nd .e (.int .i64 ((p:Nat):Int)) .e))) (.int .i64 ((a:Nat):Int)) (.nd (.nd (.nd (.nd .e y33 .e) y17 .e) y9 (.nd .e (.int .i64 ((j:Nat):Int)) .e)) y5 (.nd (.nd .e y21 .e) y13 (.nd .e xr .e)))) (.int .i64 ((m:Nat):Int)) (.nd (.nd (.nd (.nd (.nd .e y32 .e) y16 .e) (.sliceU id 0 n 32) (.nd .e (.int .i64 ((i:Nat):Int)) .e)) y4 (.nd (.nd .e y20 .e) y12 (.nd .e xh .e))) y2 (.nd (.nd (.nd .e y18 .e) y10 (.nd .e xc .e)) y6 (.nd (.nd .e y22 .e) y14 (.nd .e y30 .e))))) M []=some [⟨.exit 8,(.nd (.nd (.nd (.nd (.nd (.nd .e y31 .e) y15 .e) (.func (.func 112) [] []) (.nd .e y23 .e)) (.int .i64 ((b:Nat):Int)) (.nd (.nd .e y19 .e) y11 (.nd .e (.int .i64 ((p:Nat):Int)) .e))) (.int .i64 ((a:Nat):Int)) (.nd (.nd (.nd (.nd .e y33 .e) y17 .e) y9 (.nd .e (.int .i64 ((t:Nat):Int)) .e)) y5 (.nd (.nd .e y21 .e) y13 (.nd .e zr .e)))) (.int .i64 ((m:Nat):Int)) (.nd (.nd (.nd (.nd (.nd .e y32 .e) y16 .e) (.sliceU id 0 n 32) (.nd .e (.int .i64 ((t:Nat):Int)) .e)) y4 (.nd (.nd .e y20 .e) y12 (.nd .e zh .e))) y2 (.nd (.nd (.nd .e y18 .e) y10 (.nd .e (.bool false) .e)) y6 (.nd (.nd .e y22 .e) y14 (.nd .e y30 .e))))),M',[],none⟩]∧Ext M M'∧i≤t∧t≤j∧
    (∀k,lo≤k→k<t→q k=true)∧(∀k,t≤k→k<hi→q k=false):=by
 intro s
 induction s with
 | zero=>
  intro i j hs hij hlo hjhi q1 q2 N hN M h xc xh xr
  obtain⟨N,rfl⟩:∃M,N=M+1:=⟨N-1,by omega⟩
  obtain rfl:i=j:=by omega
  refine⟨i,M,xh,xr,?_,Ext.refl h.ok,Nat.le_refl _,Nat.le_refl _,q1,q2⟩
  rw [F7]
  simp [rD,F3,trD,H9,w9,p8,l8]
 | succ s ih=>
  intro i j hs hij hlo hjhi q1 q2 N hN M h xc xh xr
  obtain⟨N,rfl⟩:∃M,N=M+1:=⟨N-1,by omega⟩
  by_cases hlt:i<j
  ·obtain⟨c,hc⟩:∃c,c=(i+j) / 2:=⟨_,rfl⟩
   obtain⟨w,w1,w2,w3,w4⟩:=qb hc (by omega)
   have hci:i≤c:=by omega
   have hcj:c<j:=by omega
   obtain⟨hp1,hp2⟩:=hp c (by omega) (by omega)
   obtain⟨u,hu0⟩:∃u,u+c=p:=⟨p-c,by omega⟩
   have eu:=R7 hu0 (by omega)
   have eu':p-c=u:=by omega
   rw [eu'] at hp2
   have hu:u<l.length:=by omega
   have hv:c<l.length:=by omega
   obtain⟨M1,g1,E1⟩:=vQ h.ok h.lm n0 fu hfu (h.get hu) (h.get hv)
   have r1:=h.fa.ld hu
   have r2:=h.fa.ld hv
   have z1:=(h.get hu).rf
   have z2:=(h.get hv).rf
   have i1:∀{β:Type} (k:Nat→Option β),idx n (.int .i64 (u:Int)) k=k u:=fun k=>R3 _ _ k (by omega)
   have i2:∀{β:Type} (k:Nat→Option β),idx n (.int .i64 (c:Int)) k=k c:=fun k=>R3 _ _ k (by omega)
   have hqc:=hq c (by omega) (by omega)
   have hd:=vR (h.get hu) (h.get hv)
   rw [← eY hu,← eY hv] at hd
   generalize l[u]=x at *
   generalize l[c]=y at *
   cases hb:q c with
   | true=>
    obtain⟨t,M',zh,zr,g2,E2,t1,t2,t3,t4⟩:=ih (c+1) j (by omega) (by omega) (by omega) hjhi (fun k hk hk'=>by
     by_cases hkc:k≤c
     ·exact mono k c hk hkc (by omega) hb
     ·omega) q2 N (by omega) M1 (h.ext E1) (.bool true) (.int .i64 ((c:Nat):Int)) (.bool true)
    refine⟨t,M',zh,zr,?_,E1.trans E2,by omega,t2,t3,t4⟩
    obtain⟨c1,hc1⟩:∃c1,c1=c+1:=⟨_,rfl⟩
    have ec:=dB hc1 (by omega)
    rw [← hc1] at g2
    have hd2:decide (x.ord y<0)=false:=by
     rw [hd];rw [hb] at hqc;simpa [decide_eq_true_eq,eu'] using hqc.symm
    clear ih q1 q2 mono hq
    rw [F7,← g2]
    simp [rD,F3,trD,H9,w9,p8,l8,hlt,w1,w2,w3,w4,r1,r2,z1,z2,i1,i2,g1,hd2,ec,eu]
   | false=>
    obtain⟨t,M',zh,zr,g2,E2,t1,t2,t3,t4⟩:=ih i c (by omega) (by omega) hlo (by omega) q1 (fun k hk hk'=>by
     cases hqk:q k with
     | false=>rfl
     | true=>rw [mono c k (by omega) hk hk' hqk] at hb;cases hb) N (by omega) M1 (h.ext E1) (.bool true) (.int .i64 ((c:Nat):Int)) (.bool false)
    refine⟨t,M',zh,zr,?_,E1.trans E2,t1,by omega,t3,t4⟩
    have hd2:decide (x.ord y<0)=true:=by
     rw [hd];rw [hb] at hqc;simpa [decide_eq_true_eq,eu'] using hqc.symm
    clear ih q1 q2 mono hq
    rw [F7,← g2]
    simp [rD,F3,trD,H9,w9,p8,l8,hlt,w1,w2,w3,w4,r1,r2,z1,z2,i1,i2,g1,hd2,eu]
  ·obtain rfl:i=j:=by omega
   refine⟨i,M,xh,xr,?_,Ext.refl h.ok,Nat.le_refl _,Nat.le_refl _,q1,q2⟩
   rw [F7]
   simp [rD,F3,trD,H9,w9,p8,l8]
end Go.Proofs.YtefodipjjofocaaGreatDoor.TT
namespace Go.Proofs.YtefodipjjofocaaGreatDoor.TT
open Go Go.AM
set_option linter.unusedSimpArgs false
set_option linter.unusedVariables false
set_option maxRecDepth 100000
set_option maxHeartbeats 4000000
theorem Yz {k t:Nat}{l l1 l2:List FR}(hk:k+1<t)(hi:k<l.length)(hj:k+1<l.length)(h1:l1=swp l k (k+1) hi hj)(h2:Rot (k+1) (k+1+1) t l1 l2):Rot k (k+1) t l l2:=by
 intro x
 rw [h2 x,h1]
 simp only [swp_get]
 repeat' split
 all_goals first | omega | rfl | (congr 1;omega)
theorem Cu {k t:Nat}{l l1 l2:List FR}(hk:t<k)(hi:k<l.length)(hj:k-1<l.length)(h1:l1=swp l k (k-1) hi hj)(h2:Rot t (k-1) k l1 l2):Rot t k (k+1) l l2:=by
 intro x
 rw [h2 x,h1]
 simp only [swp_get]
 repeat' split
 all_goals first | omega | rfl | (congr 1;omega)
theorem vS {a b:Nat}{l:List FR}(h:a≤b):Rot a a b l l:=by
 intro x
 repeat' split
 all_goals first | omega | rfl | (congr 1;omega)
theorem Gx {a b:Nat}{l:List FR}(h:a≤b):Rot a b b l l:=by
 intro x
 repeat' split
 all_goals first | omega | rfl | (congr 1;omega)
theorem DL (n0 fu id a m b n t:Nat)(hn:n≤36)(htn:t≤n)(ht:0<t)(y2 y5 y6 y9 y10 y13 y14 y15 y16 y17 y18 y19 y20 y21 y22 y23 y24 y25 y26 y27 y28 y29 y30 y31 y32 y33:o8):
  ∀(s k:Nat),k+s+1=t→∀(N:Nat),s<N→∀(M:Mem) (l:List FR),Ar M id l→l.length=n→∀(xc:o8),
   ∃M' l',V9 (fun env m k=>Ch (G9 KW fu (n0+4)) fu none env m k) N (.nd (.nd (.nd (.nd (.nd (.nd .e y31 .e) y15 .e) (.func (.func 112) [] []) (.nd .e y23 .e)) (.int .i64 ((b:Nat):Int)) (.nd (.nd .e y19 .e) (.int .i64 ((k:Nat):Int)) (.nd .e y27 .e))) (.int .i64 ((a:Nat):Int)) (.nd (.nd (.nd (.nd .e y33 .e) y17 .e) y9 (.nd .e y25 .e)) y5 (.nd (.nd .e y21 .e) y13 (.nd .e y29 .e)))) (.int .i64 ((m:Nat):Int)) (.nd (.nd (.nd (.nd (.nd .e y32 .e) y16 .e) (.sliceU id 0 n 32) (.nd .e y24 .e)) (.int .i64 ((t:Nat):Int)) (.nd (.nd .e y20 .e) xc (.nd .e y28 .e))) y2 (.nd (.nd (.nd .e y18 .e) y10 (.nd .e y26 .e)) y6 (.nd (.nd .e y22 .e) y14 (.nd .e y30 .e))))) M []=some [⟨.exit 2,(.nd (.nd (.nd (.nd (.nd (.nd .e y31 .e) y15 .e) (.func (.func 112) [] []) (.nd .e y23 .e)) (.int .i64 ((b:Nat):Int)) (.nd (.nd .e y19 .e) (.int .i64 ((t-1:Nat):Int)) (.nd .e y27 .e))) (.int .i64 ((a:Nat):Int)) (.nd (.nd (.nd (.nd .e y33 .e) y17 .e) y9 (.nd .e y25 .e)) y5 (.nd (.nd .e y21 .e) y13 (.nd .e y29 .e)))) (.int .i64 ((m:Nat):Int)) (.nd (.nd (.nd (.nd (.nd .e y32 .e) y16 .e) (.sliceU id 0 n 32) (.nd .e y24 .e)) (.int .i64 ((t:Nat):Int)) (.nd (.nd .e y20 .e) (.bool false) (.nd .e y28 .e))) y2 (.nd (.nd (.nd .e y18 .e) y10 (.nd .e y26 .e)) y6 (.nd (.nd .e y22 .e) y14 (.nd .e y30 .e))))),M',[],none⟩]∧Chg id M l M' l'∧Rot k (k+1) t l l':=by
 obtain⟨u,hu⟩:∃u,u+1=t:=⟨t-1,by omega⟩
 have eu:=nZ hu (by omega)
 have hu':t-1=u:=by omega
 rw [hu']
 intro s
 induction s with
 | zero=>
  intro k hk N hN M l h hl xc
  obtain⟨N,rfl⟩:∃M,N=M+1:=⟨N-1,by omega⟩
  obtain rfl:k=u:=by omega
  refine⟨M,l,?_,Chg.refl h,by rw [← hu];exact Gx (by omega)⟩
  rw [F7]
  simp [Ch,F3,trD,H9,w9,p8,l8,eu]
 | succ s ih=>
  intro k hk N hN M l h hl xc
  obtain⟨N,rfl⟩:∃M,N=M+1:=⟨N-1,by omega⟩
  have hi:k<l.length:=by omega
  have hj:k+1<l.length:=by omega
  obtain⟨m1,m2,s1,s2,hc⟩:=h.swap hi hj
  obtain⟨M',l',g,hc',hr⟩:=ih (k+1) (by omega) N (by omega) m2 _ hc.ar (hc.len.trans hl) (.bool true)
  refine⟨M',l',?_,hc.trans hc',Yz (by omega) hi hj rfl hr⟩
  rw [F7,← g]
  have r1:=h.fa.ld hi
  have r2:=h.fa.ld hj
  have g1:=(h.get hi).rf
  have g2:=(h.get hj).rf
  generalize hx:l[k]=x at *
  generalize hy:l[k+1]=y at *
  clear hr hc' ih hc g
  obtain⟨q,hq⟩:∃q,q=k+1:=⟨_,rfl⟩
  rw [← hq] at r2 s2
  have e2:=dB hq (by omega)
  have i1:∀{β:Type} (f:Nat→Option β),idx n (.int .i64 (k:Int)) f=f k:=fun f=>R3 _ _ f (by omega)
  have i2:∀{β:Type} (f:Nat→Option β),idx n (.int .i64 (q:Int)) f=f q:=fun f=>R3 _ _ f (by omega)
  have hku:k<u:=by omega
  rw [← hq]
  simp [Ch,F3,trD,H9,w9,p8,l8,r9,eu,hku,e2,i1,i2,r1,r2,s1,s2,g1,g2,Fct.len]
theorem DN (n0 fu id a m b n t:Nat)(hn:n≤36)(y2 y4 y5 y6 y9 y10 y11 y12 y13 y15 y16 y17 y18 y21 y22 y23 y24 y25 y26 y27 y28 y29 y30 y31 y32 y33:o8):
  ∀(s k:Nat),t+s=k→k<n→∀(N:Nat),s<N→∀(M:Mem) (l:List FR),Ar M id l→l.length=n→∀(xc:o8),
   ∃M' l',V9 (fun env m k=>Cg (G9 KW fu (n0+4)) fu none env m k) N (.nd (.nd (.nd (.nd (.nd (.nd .e y31 .e) y15 .e) (.func (.func 112) [] []) (.nd .e y23 .e)) (.int .i64 ((b:Nat):Int)) (.nd (.nd .e (.int .i64 ((k:Nat):Int)) .e) y11 (.nd .e y27 .e))) (.int .i64 ((a:Nat):Int)) (.nd (.nd (.nd (.nd .e y33 .e) y17 .e) y9 (.nd .e y25 .e)) y5 (.nd (.nd .e y21 .e) y13 (.nd .e y29 .e)))) (.int .i64 ((m:Nat):Int)) (.nd (.nd (.nd (.nd (.nd .e y32 .e) y16 .e) (.sliceU id 0 n 32) (.nd .e y24 .e)) y4 (.nd (.nd .e xc .e) y12 (.nd .e y28 .e))) y2 (.nd (.nd (.nd .e y18 .e) y10 (.nd .e y26 .e)) y6 (.nd (.nd .e y22 .e) (.int .i64 ((t:Nat):Int)) (.nd .e y30 .e))))) M []=some [⟨.exit 6,(.nd (.nd (.nd (.nd (.nd (.nd .e y31 .e) y15 .e) (.func (.func 112) [] []) (.nd .e y23 .e)) (.int .i64 ((b:Nat):Int)) (.nd (.nd .e (.int .i64 ((t:Nat):Int)) .e) y11 (.nd .e y27 .e))) (.int .i64 ((a:Nat):Int)) (.nd (.nd (.nd (.nd .e y33 .e) y17 .e) y9 (.nd .e y25 .e)) y5 (.nd (.nd .e y21 .e) y13 (.nd .e y29 .e)))) (.int .i64 ((m:Nat):Int)) (.nd (.nd (.nd (.nd (.nd .e y32 .e) y16 .e) (.sliceU id 0 n 32) (.nd .e y24 .e)) y4 (.nd (.nd .e (.bool false) .e) y12 (.nd .e y28 .e))) y2 (.nd (.nd (.nd .e y18 .e) y10 (.nd .e y26 .e)) y6 (.nd (.nd .e y22 .e) (.int .i64 ((t:Nat):Int)) (.nd .e y30 .e))))),M',[],none⟩]∧Chg id M l M' l'∧Rot t k (k+1) l l':=by
 intro s
 induction s with
 | zero=>
  intro k hk hkn N hN M l h hl xc
  obtain⟨N,rfl⟩:∃M,N=M+1:=⟨N-1,by omega⟩
  obtain rfl:t=k:=by omega
  refine⟨M,l,?_,Chg.refl h,vS (by omega)⟩
  rw [F7]
  simp [Cg,F3,trD,H9,w9,p8,l8]
 | succ s ih=>
  intro k hk hkn N hN M l h hl xc
  obtain⟨N,rfl⟩:∃M,N=M+1:=⟨N-1,by omega⟩
  have hi:k<l.length:=by omega
  have hj:k-1<l.length:=by omega
  obtain⟨m1,m2,s1,s2,hc⟩:=h.swap hi hj
  obtain⟨M',l',g,hc',hr⟩:=ih (k-1) (by omega) (by omega) N (by omega) m2 _ hc.ar (hc.len.trans hl) (.bool true)
  rw [show k-1+1=k from by omega] at hr
  refine⟨M',l',?_,hc.trans hc',Cu (by omega) hi hj rfl hr⟩
  rw [F7,← g]
  have r1:=h.fa.ld hi
  have r2:=h.fa.ld hj
  have g1:=(h.get hi).rf
  have g2:=(h.get hj).rf
  generalize hx:l[k]=x at *
  generalize hy:l[k-1]=y at *
  clear hr hc' ih hc g
  obtain⟨q,hq⟩:∃q,q+1=k:=⟨k-1,by omega⟩
  rw [show k-1=q from by omega] at r2 s2 ⊢
  have e2:=nZ hq (by omega)
  have i1:∀{β:Type} (f:Nat→Option β),idx n (.int .i64 (k:Int)) f=f k:=fun f=>R3 _ _ f (by omega)
  have i2:∀{β:Type} (f:Nat→Option β),idx n (.int .i64 (q:Int)) f=f q:=fun f=>R3 _ _ f (by omega)
  have htk:t<k:=by omega
  simp [Cg,F3,trD,H9,w9,p8,l8,r9,htk,e2,i1,i2,r1,r2,s1,s2,g1,g2,Fct.len]
end Go.Proofs.YtefodipjjofocaaGreatDoor.TT
namespace Go.Proofs.YtefodipjjofocaaGreatDoor.TT
open Go Go.AM
set_option linter.unusedSimpArgs false
set_option linter.unusedVariables false
set_option maxRecDepth 100000
set_option maxHeartbeats 8000000
theorem zH {l:List FR}{a b:Nat}(h:Srt l a b){i j:Nat}(h1:a≤i)(h2:i≤j)(h3:j<b):kAt l i≤kAt l j:=by
 rcases Nat.lt_or_eq_of_le h2 with h' | rfl
 ·exact h i j h1 h' h3
 ·exact Int.le_refl _
theorem Ky {M:Mem}{id:Nat}{l:List FR}(h:Ar M id l)(n0 fu:Nat)(hfu:1000≤fu)(a m b:Nat)(ham:m=a+1)(hmb:m<b)(hb:b≤l.length)(s2:Srt l m b):
  ∃M' l',G9 KW fu (n0+5) (.func 277) [.sliceU id 0 l.length 32,(.int .i64 ((a:Nat):Int)),(.int .i64 ((m:Nat):Int)),(.int .i64 ((b:Nat):Int)),(.func (.func 112) [] [])] M=some [⟨.tuple [],M'⟩]∧Chg id M l M' l'∧Mv a b l l'∧Srt l' a b:=by
 have hbig:=h.big
 obtain⟨t,M1,zh,zr,g1,E1,t1,t2,t3,t4⟩:=DI n0 fu hfu id a m b l.length m b hbig l rfl (fun x=>decide (kAt l x<kAt l a)) hb (by omega) (fun _ _ _=>rfl)
  (fun u v hu huv hv hd=>by
   have:=zH s2 hu huv hv
   simp only [decide_eq_true_eq] at hd ⊢
   omega) (.bool true) .undef .undef .undef .undef .undef .undef .undef .undef .undef .undef .undef .undef .undef .undef .undef .undef .undef .undef .undef .undef .undef .undef .undef (b-m) m b (Nat.le_refl _) (by omega) (Nat.le_refl _) (Nat.le_refl _) (fun k h1 h2=>by omega) (fun k h1 h2=>by omega) fu (by omega) M h .undef .undef .undef
 obtain⟨M2,l',g2,hc,hr⟩:=DL n0 fu id a m b l.length t hbig (by omega) (by omega) (.bool true) (.int .i64 ((t:Nat):Int)) (.bool false) zh zr .undef .undef .undef .undef .undef .undef .undef .undef .undef .undef .undef .undef .undef .undef .undef .undef .undef .undef .undef .undef .undef (t-m) a (by omega) fu (by omega) M1 l (h.ext E1) rfl .undef
 refine⟨M2,l',?_,(Chg.of h E1).trans hc,(hr.mv (by omega) (by omega)).mono (Nat.le_refl _) t2,Gv (by omega) t2 (ham▸s2) (fun k h1 h2=>by simpa using t3 k (by omega) h2) (fun k h1 h2=>by simpa using t4 k h1 h2) hr⟩
 rw [enter (sf:=f277) rfl rfl]
 have e0:w64 ((m:Int)-(a:Int))=1:=by rw [aR (by omega) (by omega)];omega
 simp [f277,F3,trD,H9,w9,p8,l8,e0,g1,g2]
theorem Gy {M:Mem}{id:Nat}{l:List FR}(h:Ar M id l)(n0 fu:Nat)(hfu:1000≤fu)(a m b:Nat)(ham:a+1<m)(hmb:b=m+1)(hb:b≤l.length)(s1:Srt l a m):
  ∃M' l',G9 KW fu (n0+5) (.func 277) [.sliceU id 0 l.length 32,(.int .i64 ((a:Nat):Int)),(.int .i64 ((m:Nat):Int)),(.int .i64 ((b:Nat):Int)),(.func (.func 112) [] [])] M=some [⟨.tuple [],M'⟩]∧Chg id M l M' l'∧Mv a b l l'∧Srt l' a b:=by
 have hbig:=h.big
 obtain⟨t,M1,zh,zr,g1,E1,t1,t2,t3,t4⟩:=DJ n0 fu hfu id a m b l.length a m hbig l rfl (fun x=>!decide (kAt l m<kAt l x)) (by omega) (by omega) (fun _ _ _=>rfl)
  (fun u v hu huv hv hd=>by
   have:=zH s1 hu huv hv
   simp only [Bool.not_eq_true',decide_eq_false_iff_not] at hd ⊢
   omega) (.bool false) .undef .undef .undef .undef .undef .undef .undef (.bool true) .undef .undef .undef .undef .undef .undef .undef .undef .undef .undef .undef .undef .undef .undef .undef (m-a) a m (Nat.le_refl _) (by omega) (Nat.le_refl _) (Nat.le_refl _) (fun k h1 h2=>by omega) (fun k h1 h2=>by omega) fu (by omega) M h .undef .undef .undef
 obtain⟨M2,l',g2,hc,hr⟩:=DN n0 fu id a m b l.length t hbig (.bool false) .undef .undef .undef .undef .undef .undef .undef (.bool true) (.int .i64 ((t:Nat):Int)) (.bool false) zh zr .undef .undef .undef .undef .undef .undef .undef .undef .undef .undef .undef .undef .undef (m-t) m (by omega) (by omega) fu (by omega) M1 l (h.ext E1) rfl .undef
 subst hmb
 refine⟨M2,l',?_,(Chg.of h E1).trans hc,(hr.mv (by omega) (by omega)).mono t1 (Nat.le_refl _),Ct t1 t2 s1 (fun k h1 h2=>by have:=t3 k h1 h2;simp at this;omega) (fun k h1 h2=>by have:=t4 k h1 h2;simp at this;omega) hr⟩
 rw [enter (sf:=f277) rfl rfl]
 obtain⟨p,hp⟩:∃p,p+a=m:=⟨m-a,by omega⟩
 have e0:=R7 hp (by omega)
 have hp1:¬ p=1:=by omega
 have hp1':¬ (p:Int)=1:=by omega
 obtain⟨w,hw⟩:∃w,w=m+1:=⟨_,rfl⟩
 rw [← hw] at g1 g2 ⊢
 have e1:w64 ((w:Int)-(m:Int))=1:=by rw [aR (by omega) (by omega)];omega
 simp [f277,F3,trD,H9,w9,p8,l8,e0,hp1,hp1',e1,g1,g2]
end Go.Proofs.YtefodipjjofocaaGreatDoor.TT
namespace Go.Proofs.YtefodipjjofocaaGreatDoor.TT
open Go Go.AM
set_option linter.unusedSimpArgs false
set_option linter.unusedVariables false
set_option maxRecDepth 100000
set_option maxHeartbeats 16000000
theorem DR {M:Mem}{id:Nat}{l:List FR}(h:Ar M id l)(n0 fu:Nat)(hfu:1000≤fu)(a m b d nn p lo hi:Nat)(ham:a+1<m)(hmb:m+1<b)(hb:b≤l.length)(hd:d=(a+b) / 2)(hnn:nn=d+m)(hp:p+1=nn)
  (hlo:lo=if d<m then nn-b else a) (hhi:hi=if d<m then d else m) (s1:Srt l a m) (s2:Srt l m b) (y22:o8):
  ∃t M1 zh zr,V9 (fun env m k=>rD (G9 KW fu (n0+4)) fu none env m k) fu (.nd (.nd (.nd (.nd (.nd (.nd .e .undef .e) .undef .e) (.func (.func 112) [] []) (.nd .e (.int .i64 ((nn:Nat):Int)) .e)) (.int .i64 ((b:Nat):Int)) (.nd (.nd .e .undef .e) .undef (.nd .e (.int .i64 ((p:Nat):Int)) .e))) (.int .i64 ((a:Nat):Int)) (.nd (.nd (.nd (.nd .e .undef .e) .undef .e) .undef (.nd .e (.int .i64 ((hi:Nat):Int)) .e)) .undef (.nd (.nd .e (.int .i64 ((d:Nat):Int)) .e) (.bool false) (.nd .e .undef .e)))) (.int .i64 ((m:Nat):Int)) (.nd (.nd (.nd (.nd (.nd .e .undef .e) .undef .e) (.sliceU id 0 l.length 32) (.nd .e (.int .i64 ((lo:Nat):Int)) .e)) .undef (.nd (.nd .e .undef .e) .undef (.nd .e .undef .e))) (.bool false) (.nd (.nd (.nd .e .undef .e) .undef (.nd .e .undef .e)) .undef (.nd (.nd .e y22 .e) .undef (.nd .e .undef .e))))) M [] =
     some [⟨.exit 8,(.nd (.nd (.nd (.nd (.nd (.nd .e .undef .e) .undef .e) (.func (.func 112) [] []) (.nd .e (.int .i64 ((nn:Nat):Int)) .e)) (.int .i64 ((b:Nat):Int)) (.nd (.nd .e .undef .e) .undef (.nd .e (.int .i64 ((p:Nat):Int)) .e))) (.int .i64 ((a:Nat):Int)) (.nd (.nd (.nd (.nd .e .undef .e) .undef .e) .undef (.nd .e (.int .i64 ((t:Nat):Int)) .e)) .undef (.nd (.nd .e (.int .i64 ((d:Nat):Int)) .e) (.bool false) (.nd .e zr .e)))) (.int .i64 ((m:Nat):Int)) (.nd (.nd (.nd (.nd (.nd .e .undef .e) .undef .e) (.sliceU id 0 l.length 32) (.nd .e (.int .i64 ((t:Nat):Int)) .e)) .undef (.nd (.nd .e .undef .e) .undef (.nd .e zh .e))) (.bool false) (.nd (.nd (.nd .e .undef .e) .undef (.nd .e (.bool false) .e)) .undef (.nd (.nd .e y22 .e) .undef (.nd .e .undef .e))))),M1,[],none⟩]∧Ext M M1∧
   ∃e,t+e=nn∧a≤t∧t≤m∧t≤d∧m≤e∧e≤b∧d≤e∧(a<t→e<b→kAt l (t-1)≤kAt l e)∧(t<m→m<e→kAt l (e-1)<kAt l t):=by
 have hbig:=h.big
 have hlo1:a≤lo:=by rw [hlo];split<;>omega
 have hlh:lo≤hi:=by rw [hlo,hhi];split<;>omega
 have hhm:hi≤m:=by rw [hhi];split<;>omega
 have hhd:hi≤d:=by rw [hhi];split<;>omega
 have hlb:nn≤lo+b:=by rw [hlo];split<;>omega
 obtain⟨t,M1,zh,zr,g1,E1,t1,t2,t3,t4⟩:=DK n0 fu hfu id a m b l.length lo hi p hbig l rfl (fun x=>!decide (kAt l (p-x)<kAt l x)) (by omega) (fun x hx hx'=>⟨by omega,by omega⟩) (fun _ _ _=>rfl)
  (fun u v hu huv hv hd'=>by
   have c1:=zH s1 (i:=u) (j:=v) (by omega) huv (by omega)
   have c2:=zH s2 (i:=p-v) (j:=p-u) (by omega) (by omega) (by omega)
   simp only [Bool.not_eq_true',decide_eq_false_iff_not] at hd' ⊢
   omega) (.bool false) .undef .undef .undef .undef .undef .undef .undef (.bool false) .undef .undef .undef .undef .undef .undef .undef (.int .i64 ((d:Nat):Int)) y22 (.int .i64 ((nn:Nat):Int)) .undef .undef .undef .undef (hi-lo) lo hi (Nat.le_refl _) hlh (Nat.le_refl _) (Nat.le_refl _) (fun k h1 h2=>by omega) (fun k h1 h2=>by omega) fu (by omega) M h .undef .undef .undef
 refine⟨t,M1,zh,zr,g1,E1,nn-t,by omega,by omega,by omega,by omega,by omega,by omega,by omega,fun hat heb=>?_,fun htm hme=>?_⟩
 ·have hl1:lo≤t-1:=by
   rw [hlo] at t1 hlb ⊢
   split at t1<;>split<;>omega
  have:=t3 (t-1) hl1 (by omega)
  simp only [Bool.not_eq_true',decide_eq_false_iff_not] at this
  rw [show p-(t-1)=nn-t from by omega] at this
  omega
 ·have hl1:t<hi:=by
   rw [hhi] at t2 ⊢
   split at t2<;>split<;>omega
  have:=t4 t (Nat.le_refl _) hl1
  simp only [Bool.not_eq_false',decide_eq_true_eq] at this
  rw [show p-t=nn-t-1 from by omega] at this
  exact this
theorem Pv (fu:Nat)(hfu:1000≤fu)(id:Nat):∀(s:Nat) (M:Mem) (l:List FR),Ar M id l→∀(n0 a m b:Nat),b-a≤s→a<m→m<b→b≤l.length→Srt l a m→Srt l m b→
  ∃M' l',G9 KW fu (n0+s+5) (.func 277) [.sliceU id 0 l.length 32,(.int .i64 ((a:Nat):Int)),(.int .i64 ((m:Nat):Int)),(.int .i64 ((b:Nat):Int)),(.func (.func 112) [] [])] M=some [⟨.tuple [],M'⟩]∧Chg id M l M' l'∧Mv a b l l'∧Srt l' a b:=by
 intro s
 induction s with
 | zero=>intro M l h n0 a m b hs ham hmb;omega
 | succ s ih=>
  intro M l h n0 a m b hs ham hmb hb s1 s2
  by_cases c1:m=a+1
  ·exact Ky h (n0+(s+1)) fu hfu a m b c1 hmb hb s2
  by_cases c2:b=m+1
  ·exact Gy h (n0+(s+1)) fu hfu a m b (by omega) c2 hb s1
  have hbig:=h.big
  obtain⟨d,hd⟩:∃d,d=(a+b) / 2:=⟨_,rfl⟩
  obtain⟨nn,hnn⟩:∃nn,nn=d+m:=⟨_,rfl⟩
  obtain⟨p,hp⟩:∃p,p+1=nn:=⟨nn-1,by omega⟩
  obtain⟨lo,hlo⟩:∃lo,lo=if d<m then nn-b else a:=⟨_,rfl⟩
  obtain⟨hi,hhi⟩:∃hi,hi=if d<m then d else m:=⟨_,rfl⟩
  obtain⟨t,M1,zh,zr,g1,E1,e,te,at1,tm,td,me,eb,de,k1,k2⟩:=DR h (n0+(s+1)) fu hfu a m b d nn p lo hi (by omega) (by omega) hb hd hnn hp hlo hhi s1 s2 (.bool (decide (d<m)))
  have a1:=h.ext E1
  obtain⟨M2,l2,g2,hc2,hr⟩:∃M2 l2,((t<m∧m<e∧G9 KW fu (n0+s+5) (.func 341) [.sliceU id 0 l.length 32,(.int .i64 ((t:Nat):Int)),(.int .i64 ((m:Nat):Int)),(.int .i64 ((e:Nat):Int)),(.func (.func 112) [] [])] M1=some [⟨.tuple [],M2⟩])∨(¬ (t<m∧m<e)∧M2=M1))∧Chg id M1 l M2 l2∧Rot t m e l l2:=by
   by_cases c:t<m∧m<e
   ·obtain⟨M2,l2,g,hc,hr⟩:=Po a1 (n0+s+3) fu hfu t m e c.1 c.2 (by omega) (.func (.func 112) [] [])
    exact⟨M2,l2,.inl ⟨c.1,c.2,g⟩,hc,hr⟩
   ·refine⟨M1,l,.inr ⟨c,rfl⟩,Chg.refl a1,?_⟩
    by_cases ct:t<m
    ·obtain rfl:e=m:=by omega
     exact Gx (by omega)
    ·obtain rfl:t=m:=by omega
     exact vS (by omega)
  have r2f:(t<m∧m<e∧G9 KW fu (n0+s+5) (.func 341) [.sliceU id 0 l.length 32,(.int .i64 ((t:Nat):Int)),(.int .i64 ((m:Nat):Int)),(.int .i64 ((e:Nat):Int)),(.func (.func 112) [] [])] M1=some [⟨.tuple [],M2⟩])∨(t<m∧¬ m<e∧M2=M1)∨(¬ t<m∧M2=M1):=by
   rcases g2 with g2 | ⟨r,g2⟩
   ·exact .inl g2
   ·by_cases c:t<m
    ·exact .inr (.inl ⟨c,fun h=>r ⟨c,h⟩,g2⟩)
    ·exact .inr (.inr ⟨c,g2⟩)
  obtain⟨hx,q1,q2,q3,q4⟩:=Gw (d:=d) at1 tm me eb (by omega) tm s1 s2 k1 k2 hr
  have hl2:=hc2.len
  obtain⟨M3,l3,g3,hc3,hm3,w1⟩:∃M3 l3,((a<t∧t<d∧G9 KW fu (n0+s+5) (.func 277) [.sliceU id 0 l.length 32,(.int .i64 ((a:Nat):Int)),(.int .i64 ((t:Nat):Int)),(.int .i64 ((d:Nat):Int)),(.func (.func 112) [] [])] M2=some [⟨.tuple [],M3⟩])∨(¬ (a<t∧t<d)∧M3=M2))∧Chg id M2 l2 M3 l3∧Mv a d l2 l3∧Srt l3 a d:=by
   by_cases c:a<t∧t<d
   ·obtain⟨M3,l3,g,hc,hm,hs3⟩:=ih M2 l2 hc2.ar n0 a t d (by omega) c.1 c.2 (by omega) q1 q2
    rw [hl2] at g
    exact⟨M3,l3,.inl ⟨c.1,c.2,g⟩,hc,hm,hs3⟩
   ·refine⟨M2,l2,.inr ⟨c,rfl⟩,Chg.refl hc2.ar,Mv.refl _ _ _,?_⟩
    by_cases ct:a<t
    ·obtain rfl:t=d:=by omega
     exact q1
    ·obtain rfl:a=t:=by omega
     exact q2
  have hl3:=hc3.len.trans hl2
  have r3f:(a<t∧t<d∧G9 KW fu (n0+s+5) (.func 277) [.sliceU id 0 l.length 32,(.int .i64 ((a:Nat):Int)),(.int .i64 ((t:Nat):Int)),(.int .i64 ((d:Nat):Int)),(.func (.func 112) [] [])] M2=some [⟨.tuple [],M3⟩])∨(a<t∧¬ t<d∧M3=M2)∨(¬ a<t∧M3=M2):=by
   rcases g3 with g3 | ⟨r,g3⟩
   ·exact .inl g3
   ·by_cases c:a<t
    ·exact .inr (.inl ⟨c,fun h=>r ⟨c,h⟩,g3⟩)
    ·exact .inr (.inr ⟨c,g3⟩)
  obtain⟨M4,l4,g4,hc4,hm4,w2⟩:∃M4 l4,((d<e∧e<b∧G9 KW fu (n0+s+5) (.func 277) [.sliceU id 0 l.length 32,(.int .i64 ((d:Nat):Int)),(.int .i64 ((e:Nat):Int)),(.int .i64 ((b:Nat):Int)),(.func (.func 112) [] [])] M3=some [⟨.tuple [],M4⟩])∨(¬ (d<e∧e<b)∧M4=M3))∧Chg id M3 l3 M4 l4∧Mv d b l3 l4∧Srt l4 d b:=by
   have u1:=Srt.out hm3 q3 (.inr (Nat.le_refl _))
   have u2:=Srt.out hm3 q4 (.inr de)
   by_cases c:d<e∧e<b
   ·obtain⟨M4,l4,g,hc,hm,hs4⟩:=ih M3 l3 hc3.ar n0 d e b (by omega) c.1 c.2 (by omega) u1 u2
    rw [hl3] at g
    exact⟨M4,l4,.inl ⟨c.1,c.2,g⟩,hc,hm,hs4⟩
   ·refine⟨M3,l3,.inr ⟨c,rfl⟩,Chg.refl hc3.ar,Mv.refl _ _ _,?_⟩
    by_cases ct:d<e
    ·obtain rfl:e=b:=by omega
     exact u1
    ·obtain rfl:d=e:=by omega
     exact u2
  have r4f:(d<e∧e<b∧G9 KW fu (n0+s+5) (.func 277) [.sliceU id 0 l.length 32,(.int .i64 ((d:Nat):Int)),(.int .i64 ((e:Nat):Int)),(.int .i64 ((b:Nat):Int)),(.func (.func 112) [] [])] M3=some [⟨.tuple [],M4⟩])∨(d<e∧¬ e<b∧M4=M3)∨(¬ d<e∧M4=M3):=by
   rcases g4 with g4 | ⟨r,g4⟩
   ·exact .inl g4
   ·by_cases c:d<e
    ·exact .inr (.inl ⟨c,fun h=>r ⟨c,h⟩,g4⟩)
    ·exact .inr (.inr ⟨c,g4⟩)
  refine⟨M4,l4,?_,(((Chg.of h E1).trans hc2).trans hc3).trans hc4,(((hr.mv tm me).mono at1 eb).trans (hm3.mono (Nat.le_refl _) (by omega))).trans (hm4.mono (by omega) (Nat.le_refl _)),halves (by omega) (by omega) hx hm3 hm4 w1 w2⟩
  clear ih hx hr hm3 hm4 w1 w2 q1 q2 q3 q4 k1 k2 s1 s2 hc2 hc3 hc4 g2 g3 g4
  rw [enter (sf:=f277) rfl rfl]
  obtain⟨p1,hp1⟩:∃x,x+a=m:=⟨m-a,by omega⟩
  have x0:=R7 hp1 (by omega)
  have x0':¬ (p1:Int)=1:=by omega
  have x0'':¬ p1=1:=by omega
  obtain⟨p2,hp2⟩:∃x,x+m=b:=⟨b-m,by omega⟩
  have x1:=R7 hp2 (by omega)
  have x1':¬ (p2:Int)=1:=by omega
  have x1'':¬ p2=1:=by omega
  obtain⟨w,v1,v2,v3,v4⟩:=qb hd (by omega)
  have x2:=dU hnn (by omega)
  have x3:=nZ hp (by omega)
  have x5:w64 ((nn:Int)-(t:Int))=(e:Int):=R7 (by omega) (by omega)
  have hdepth:n0+(s+1)+4=n0+s+5:=by omega
  rw [hdepth] at g1 ⊢
  by_cases cdm:d<m
  ·rw [if_pos cdm] at hlo hhi
   rw [hlo,hhi] at g1
   obtain⟨q,hq⟩:∃q,q+b=nn:=⟨nn-b,by omega⟩
   have x4:=R7 hq (by omega)
   rw [show nn-b=q from by omega] at g1
   simp only [cdm,decide_true] at g1
   clear hd hnn hp hlo hhi te hdepth
   rcases r2f with⟨r1,r2,g2⟩ | ⟨r1,r2,rfl⟩ | ⟨r1,rfl⟩<;>rcases r3f with⟨r3,r4,g3⟩ | ⟨r3,r4,rfl⟩ | ⟨r3,rfl⟩<;>rcases r4f with⟨r5,r6,g4⟩ | ⟨r5,r6,rfl⟩ | ⟨r5,rfl⟩<;>simp [f277,F3,trD,H9,w9,p8,l8,x0,x0',x0'',x1,x1',x1'',v1,v2,v3,v4,x2,x3,x4,x5,cdm,g1, *]
  ·rw [if_neg cdm] at hlo hhi
   rw [hlo,hhi] at g1
   simp only [cdm,decide_false] at g1
   clear hd hnn hp hlo hhi te hdepth
   rcases r2f with⟨r1,r2,g2⟩ | ⟨r1,r2,rfl⟩ | ⟨r1,rfl⟩<;>rcases r3f with⟨r3,r4,g3⟩ | ⟨r3,r4,rfl⟩ | ⟨r3,rfl⟩<;>rcases r4f with⟨r5,r6,g4⟩ | ⟨r5,r6,rfl⟩ | ⟨r5,rfl⟩<;>simp [f277,F3,trD,H9,w9,p8,l8,x0,x0',x0'',x1,x1',x1'',v1,v2,v3,v4,x2,x3,x5,cdm,g1, *]
end Go.Proofs.YtefodipjjofocaaGreatDoor.TT
namespace Go.Proofs.YtefodipjjofocaaGreatDoor.TT
open Go Go.AM
set_option linter.unusedSimpArgs false
set_option linter.unusedVariables false
set_option maxRecDepth 100000
set_option maxHeartbeats 8000000
theorem DT (n0 fu:Nat)(hfu:1000≤fu)(id a b n i0:Nat)(hn:n≤36)(y3:o8):
  ∀(s j:Nat),a+s=j→j<n→∀(N:Nat),s<N→∀(M:Mem) (l:List FR),Ar M id l→l.length=n→∀(xd:o8),
   ∃t M' l',V9 (fun env m k=>zx (G9 KW fu (n0+4)) fu none env m k) N (.nd (.nd (.nd (.nd .e xd .e) y3 .e) (.int .i64 ((i0:Nat):Int)) (.nd .e (.func (.func 112) [] []) .e)) (.int .i64 ((a:Nat):Int)) (.nd (.nd .e (.int .i64 ((j:Nat):Int)) .e) (.int .i64 ((b:Nat):Int)) (.nd .e (.sliceU id 0 n 32) .e))) M []=some [⟨.exit 2,(.nd (.nd (.nd (.nd .e (.bool false) .e) y3 .e) (.int .i64 ((i0:Nat):Int)) (.nd .e (.func (.func 112) [] []) .e)) (.int .i64 ((a:Nat):Int)) (.nd (.nd .e (.int .i64 ((t:Nat):Int)) .e) (.int .i64 ((b:Nat):Int)) (.nd .e (.sliceU id 0 n 32) .e))),M',[],none⟩]∧Chg id M l M' l'∧Rot t j (j+1) l l'∧a≤t∧t≤j∧
    (∀k,t≤k→k<j→kAt l j<kAt l k)∧(a<t→kAt l (t-1)≤kAt l j):=by
 intro s
 induction s with
 | zero=>
  intro j hj hjn N hN M l h hl xd
  obtain⟨N,rfl⟩:∃M,N=M+1:=⟨N-1,by omega⟩
  obtain rfl:a=j:=by omega
  refine⟨a,M,l,?_,Chg.refl h,vS (by omega),Nat.le_refl _,Nat.le_refl _,fun k h1 h2=>by omega,fun h=>by omega⟩
  rw [F7]
  simp [zx,F3,trD,H9,w9,p8,l8]
 | succ s ih=>
  intro j hj hjn N hN M l h hl xd
  obtain⟨N,rfl⟩:∃M,N=M+1:=⟨N-1,by omega⟩
  have hu:j<l.length:=by omega
  have hv:j-1<l.length:=by omega
  have haj:a<j:=by omega
  obtain⟨M1,g1,E1⟩:=vQ h.ok h.lm n0 fu hfu (h.get hu) (h.get hv)
  have hA:=h.ext E1
  have r1:=h.fa.ld hu
  have r2:=h.fa.ld hv
  have r3:=hA.fa.ld hu
  have r4:=hA.fa.ld hv
  have z1:=(h.get hu).rf
  have z2:=(h.get hv).rf
  have hd:=vR (h.get hu) (h.get hv)
  rw [← eY hu,← eY hv] at hd
  have i1:∀{β:Type} (f:Nat→Option β),idx n (.int .i64 (j:Int)) f=f j:=fun f=>R3 _ _ f (by omega)
  obtain⟨q,hq⟩:∃q,q+1=j:=⟨j-1,by omega⟩
  have hq':j-1=q:=by omega
  have i2:∀{β:Type} (f:Nat→Option β),idx n (.int .i64 (q:Int)) f=f q:=fun f=>R3 _ _ f (by omega)
  have e2:=nZ hq (by omega)
  cases hb:decide (kAt l j<kAt l (j-1)) with
  | false=>
   rw [hb] at hd
   refine⟨j,M1,l,?_,Chg.of h E1,vS (by omega),by omega,Nat.le_refl _,fun k h1 h2=>by omega,fun _=>by simp at hb;exact hb⟩
   generalize hx:l[j]=x at *
   generalize hy:l[j-1]=y at *
   simp only [hq'] at r1 r2 r3 r4 hd
   clear ih
   rw [F7]
   simp [zx,F3,trD,H9,w9,p8,l8,haj,e2,i1,i2,r1,r2,z1,z2,g1,hd]
  | true=>
   rw [hb] at hd
   obtain⟨m1,m2,s1,s2,hc⟩:=hA.swap hu hv
   obtain⟨t,M',l',g,hc',hr,t1,t2,t3,t4⟩:=ih (j-1) (by omega) (by omega) N (by omega) m2 _ hc.ar (hc.len.trans hl) (.bool true)
   rw [show j-1+1=j from by omega] at hr
   have ks:∀k,kAt (swp l j (j-1) hu hv) k=if k=j-1 then kAt l j else if k=j then kAt l (j-1) else kAt l k:=fun k=>by
    by_cases c1:k=j-1
    ·rw [if_pos c1];exact dJ (by rw [swp_get,if_pos c1])
    ·by_cases c2:k=j
     ·rw [if_neg c1,if_pos c2];exact dJ (by rw [swp_get,if_neg c1,if_pos c2])
     ·rw [if_neg c1,if_neg c2];exact dJ (by rw [swp_get,if_neg c1,if_neg c2])
   refine⟨t,M',l',?_,((Chg.of h E1).trans hc).trans hc',Cu (by omega) hu hv rfl hr,t1,by omega,fun k h1 h2=>?_,fun hat=>?_⟩
   ·rw [F7,← g]
    generalize hx:l[j]=x at *
    generalize hy:l[j-1]=y at *
    simp only [hq'] at r1 r2 r3 r4 s2 hd ⊢
    clear ih hr hc hc' t3 t4 g ks hb
    simp [zx,F3,trD,H9,w9,p8,l8,r9,haj,e2,i1,i2,r1,r2,r3,r4,z1,z2,g1,hd,s1,s2,Fct.len]
   ·by_cases hk:k=j-1
    ·subst hk;simpa using hb
    ·have:=t3 k h1 (by omega)
     rw [ks,ks,if_pos rfl,if_neg (by omega),if_neg (by omega)] at this
     exact this
   ·have:=t4 hat
    rw [ks,ks,if_pos rfl,if_neg (by omega),if_neg (by omega)] at this
    exact this
theorem DU (n0 fu:Nat)(hfu:1000≤fu)(id a b n:Nat)(hn:n≤36)(hb:b≤n):
  ∀(s i:Nat),i+s=b→a<i→∀(N:Nat),s<N→∀(M:Mem) (l:List FR),Ar M id l→l.length=n→Srt l a i→∀(y3 y4 y7:o8),
   ∃z4 z7 M' l',V9 (fun env m k=>uw (G9 KW fu (n0+4)) fu none env m k) N (.nd (.nd (.nd (.nd .e y7 .e) y3 .e) (.int .i64 ((i:Nat):Int)) (.nd .e (.func (.func 112) [] []) .e)) (.int .i64 ((a:Nat):Int)) (.nd (.nd .e y4 .e) (.int .i64 ((b:Nat):Int)) (.nd .e (.sliceU id 0 n 32) .e))) M []=some [⟨.exit 0,(.nd (.nd (.nd (.nd .e z7 .e) (.bool false) .e) (.int .i64 ((b:Nat):Int)) (.nd .e (.func (.func 112) [] []) .e)) (.int .i64 ((a:Nat):Int)) (.nd (.nd .e z4 .e) (.int .i64 ((b:Nat):Int)) (.nd .e (.sliceU id 0 n 32) .e))),M',[],none⟩]∧Chg id M l M' l'∧Mv a b l l'∧Srt l' a b:=by
 intro s
 induction s with
 | zero=>
  intro i hi hai N hN M l h hl hs y3 y4 y7
  obtain⟨N,rfl⟩:∃M,N=M+1:=⟨N-1,by omega⟩
  obtain rfl:i=b:=by omega
  refine⟨y4,y7,M,l,?_,Chg.refl h,Mv.refl _ _ _,hs⟩
  rw [F7]
  simp [uw,F3,trD,H9,w9,p8,l8]
 | succ s ih=>
  intro i hi hai N hN M l h hl hs y3 y4 y7
  obtain⟨N,rfl⟩:∃M,N=M+1:=⟨N-1,by omega⟩
  obtain⟨t,M1,l1,g1,hc1,hr,t1,t2,t3,t4⟩:=DT n0 fu hfu id a b n i hn (.bool true) (i-a) i (by omega) (by omega) fu (by omega) M l h hl y7
  have hs1:Srt l1 a (i+1):=Ct t1 t2 hs (fun k h1 h2=>by
   have c:=t4 (by omega)
   exact Int.le_trans (zH hs h1 (by omega:k≤t-1) (by omega)) c) t3 hr
  obtain⟨z4,z7,M2,l2,g2,hc2,hm2,hs2⟩:=ih (i+1) (by omega) (by omega) N (by omega) M1 l1 hc1.ar (hc1.len.trans hl) hs1 (.bool true) (.int .i64 ((t:Nat):Int)) (.bool false)
  refine⟨z4,z7,M2,l2,?_,hc1.trans hc2,((hr.mv (by omega) (by omega)).mono t1 (by omega)).trans hm2,hs2⟩
  obtain⟨q,hq⟩:∃q,q=i+1:=⟨_,rfl⟩
  rw [← hq] at g2
  have e1:=dB hq (by omega)
  have hib:i<b:=by omega
  rw [F7,← g2]
  simp [uw,F3,trD,H9,w9,p8,l8,hib,g1,e1]
theorem Bh {M:Mem}{id:Nat}{l:List FR}(h:Ar M id l)(n0 fu:Nat)(hfu:1000≤fu)(a b:Nat)(hab:a<b)(hb:b≤l.length):
  ∃M' l',G9 KW fu (n0+5) (.func 276) [.sliceU id 0 l.length 32,(.int .i64 ((a:Nat):Int)),(.int .i64 ((b:Nat):Int)),(.func (.func 112) [] [])] M=some [⟨.tuple [],M'⟩]∧Chg id M l M' l'∧Mv a b l l'∧Srt l' a b:=by
 have hbig:=h.big
 obtain⟨z4,z7,M',l',g,hc,hm,hs⟩:=DU n0 fu hfu id a b l.length hbig hb (b-(a+1)) (a+1) (by omega) (by omega) fu (by omega) M l h rfl (fun i j h1 h2 h3=>by omega) .undef .undef .undef
 refine⟨M',l',?_,hc,hm,hs⟩
 rw [enter (sf:=f276) rfl rfl]
 obtain⟨q,hq⟩:∃q,q=a+1:=⟨_,rfl⟩
 rw [← hq] at g
 have e1:=dB hq (by omega)
 simp [f276,F3,trD,H9,w9,p8,l8,e1,g]
theorem Kz (M:Mem)(n0 fu:Nat)(hfu:1000≤fu)(v w:o8):G9 KW fu (n0+1) (.func 276) [v,.int .i64 0,.int .i64 0,w] M=some [⟨.tuple [],M⟩]:=by
 rw [enter (sf:=f276) rfl rfl]
 obtain⟨fu,rfl⟩:∃k,fu=k+1:=⟨fu-1,by omega⟩
 simp [f276,uw,F3,trD,H9,w9,p8,l8,F7,show w64 1=1 from rfl]
end Go.Proofs.YtefodipjjofocaaGreatDoor.TT
namespace Go.Proofs.YtefodipjjofocaaGreatDoor.TT
open Go Go.AM
set_option linter.unusedSimpArgs false
set_option linter.unusedVariables false
set_option maxRecDepth 100000
set_option maxHeartbeats 8000000
theorem Gz (M:Mem)(n0 fu:Nat)(hfu:1000≤fu)(v w:o8)(a b:Nat)(hab:b≤a+1)(ha:a<1000):G9 KW fu (n0+1) (.func 276) [v,(.int .i64 ((a:Nat):Int)),(.int .i64 ((b:Nat):Int)),w] M=some [⟨.tuple [],M⟩]:=by
 rw [enter (sf:=f276) rfl rfl]
 obtain⟨fu,rfl⟩:∃k,fu=k+1:=⟨fu-1,by omega⟩
 obtain⟨q,hq⟩:∃q,q=a+1:=⟨_,rfl⟩
 have e1:=dB hq (by omega)
 have hqb:¬ q<b:=by omega
 simp [f276,uw,F3,trD,H9,w9,p8,l8,F7,e1,hqb]
theorem KA (M:Mem)(n0 fu:Nat)(hfu:1000≤fu)(v w:o8):G9 KW fu (n0+2) (.func 177) [v,.int .i64 0,w] M=some [⟨.tuple [],M⟩]:=by
 rw [enter (sf:=f177) rfl rfl]
 have g:=Kz M n0 fu hfu v w
 obtain⟨fu,rfl⟩:∃k,fu=k+1:=⟨fu-1,by omega⟩
 simp [f177,zw,zq,F3,trD,H9,w9,p8,l8,F7,g]
theorem Pw {M:Mem}{id:Nat}{l:List FR}(h:Ar M id l)(n0 fu:Nat)(hfu:1000≤fu)(h0:0<l.length):
  ∃M' l',G9 KW fu (n0+42) (.func 177) [.sliceU id 0 l.length 32,(.int .i64 ((l.length:Nat):Int)),(.func (.func 112) [] [])] M=some [⟨.tuple [],M'⟩]∧Chg id M l M' l'∧Mv 0 l.length l l'∧Srt l' 0 l.length:=by
 have hbig:=h.big
 obtain⟨fu,rfl⟩:∃k,fu=k+3:=⟨fu-3,by omega⟩
 obtain⟨n,hn⟩:∃n,n=l.length:=⟨_,rfl⟩
 rw [← hn] at h0 hbig ⊢
 by_cases c1:n<20
 ·obtain⟨M1,l1,g1,hc1,hm1,hs1⟩:=Bh h (n0+36) (fu+3) hfu 0 n h0 (by omega)
  refine⟨M1,l1,?_,hc1,hm1,hs1⟩
  rw [← hn] at g1
  simp at g1
  rw [enter (sf:=f177) rfl rfl]
  have d1:¬ (20:Int)≤(n:Int):=by omega
  have d2:¬ (20:Int)<(n:Int):=by omega
  simp [f177,zw,zq,F3,trD,H9,w9,p8,l8,F7,d1,d2,g1]
 ·obtain⟨M1,l1,g1,hc1,hm1,hs1⟩:=Bh h (n0+36) (fu+3) hfu 0 20 (by omega) (by omega)
  rw [← hn] at g1
  simp at g1
  have hl1:=hc1.len.trans hn.symm
  have d1:(20:Int)≤(n:Int):=by omega
  have d3:¬ (40:Int)≤(n:Int):=by omega
  have d4:¬ (40:Int)<(n:Int):=by omega
  have w1:w64 (20+20)=40:=rfl
  have w2:w64 40=40:=rfl
  have w3:w64 20=20:=rfl
  by_cases c2:n=20
  ·have g2:=Gz M1 (n0+40) (fu+3) hfu (.sliceU id 0 n 32) (.func (.func 112) [] []) 20 n (by omega) (by omega)
   refine⟨M1,l1,?_,hc1,by rw [c2];exact hm1,by rw [c2];exact hs1⟩
   rw [enter (sf:=f177) rfl rfl]
   have d2:¬ (20:Int)<(n:Int):=by omega
   simp at g2
   simp [f177,zw,zq,F3,trD,H9,w9,p8,l8,F7,d1,d2,d3,w1,w2,w3,g1,g2]
  ·obtain⟨M2,l2,g2,hc2,hm2,hs2⟩:=Bh hc1.ar (n0+36) (fu+3) hfu 20 n (by omega) (by omega)
   have hl2:=hc2.len.trans hl1
   obtain⟨M3,l3,g3,hc3,hm3,hs3⟩:=Pv (fu+3) hfu id 36 M2 l2 hc2.ar n0 0 20 n (by omega) (by omega) (by omega) (by omega) (Srt.out hm2 hs1 (.inl (Nat.le_refl _))) hs2
   refine⟨M3,l3,?_,(hc1.trans hc2).trans hc3,((hm1.mono (Nat.le_refl _) (by omega)).trans (hm2.mono (by omega) (Nat.le_refl _))).trans hm3,hs3⟩
   rw [hl1] at g2
   rw [hl2] at g3
   simp at g2 g3
   rw [enter (sf:=f177) rfl rfl]
   have d2:(20:Int)<(n:Int):=by omega
   have w4:w64 80=80:=rfl
   simp [f177,zw,zq,LH,F3,trD,H9,w9,p8,l8,F7,d1,d2,d3,d4,w1,w2,w3,w4,g1,g2,g3]
end Go.Proofs.YtefodipjjofocaaGreatDoor.TT
