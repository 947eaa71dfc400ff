/- Merge and its specification, walked, and the law: it answers true on all lists; conditions: the memory holds what the arguments say. -/
import Derived.Test.YtefodipjjofocaaGreatDoorMD4
set_option linter.unusedSimpArgs false
set_option linter.unusedVariables false
namespace Go.Proofs.YtefodipjjofocaaGreatDoor.TT
open Go Go.AM
set_option linter.unusedSimpArgs false
set_option linter.unusedVariables false
set_option maxRecDepth 100000
set_option maxHeartbeats 4000000
theorem dA.lenOf {m:Mem}{v:o8}{fs:List FR}(h:dA m v fs):AM.lenOf v=some fs.length:=by
 rcases h with⟨rfl,rfl⟩ | ⟨id,⟨c,rfl⟩ | rfl,_⟩<;>rfl
def cellsOf (fs:List FR):List (List o8):=fs.map fun r=>r.f.cells
theorem jd (fs:List FR):∀r,r∈cellsOf fs→r.length=32:=fun r hr=>by
 obtain⟨x,_,rfl⟩:=List.mem_map.1 hr
 exact Fct.len x.f
theorem Bj {fs:List FR}(h:∀r,r∈fs→r.Good):Q6 (cellsOf fs).flatten=true:=lu _ fun r hr=>by
 obtain⟨x,hx,rfl⟩:=List.mem_map.1 hr
 exact (h x hx).one
theorem dA.read {m:Mem}{v:o8}{fs:List FR}(h:dA m v fs):U2 m 32 fs.length v=some (cellsOf fs).flatten:=by
 rcases h with⟨rfl,rfl⟩ | ⟨id,h1,h2,h3⟩
 ·rfl
 ·have key:U6 m id 0 (Nat.mul fs.length 32)=some (cellsOf fs).flatten:=by
   rcases h3 with rfl | ⟨c,rows,h4,h5,h6⟩
   ·rfl
   ·cases hn:fs.length with
    | zero=>
     obtain rfl:=List.length_eq_zero_iff.1 hn
     rfl
    | succ k=>
     have e:Nat.mul (k+1) 32=31+k*32+1:=by show (k+1)*32=_;omega
     rw [e]
     show X0 (m.get id) (fun rs k' rows=>O1 rs k' rows (31+k*32+1) 0)=_
     rw [h4,bC]
     have:=iZ (rs:=32) (n:=c) (rows:=rows) (l:=cellsOf fs) (jd fs) (fun i hi=>by
      have hi':i<fs.length:=by simpa [cellsOf] using hi
      rw [h6 i hi'];simp [cellsOf]) (by simpa [cellsOf] using h5) fs.length 0 (by simp [cellsOf])
     rw [Nat.zero_mul,List.drop_zero,hn,show (k+1)*32=31+k*32+1 from by omega] at this
     exact this
  rcases h1 with⟨c,rfl⟩ | rfl<;>exact key
def Own (m0 m:Mem)(v:o8)(l:List FR):Prop:=Ext m0 m∧
 ((v=.nilSlice∧l=[])∨(∃id,v=.slice id 0 0 0∧l=[]∧m0.next≤id∧id<m.next)∨∃id,m0.next≤id∧v=.sliceU id 0 l.length 32∧Ar m id l)
theorem Own.fs {m0 m:Mem}{v:o8}{l:List FR}(h:Own m0 m v l):dA m v l:=by
 obtain⟨_,⟨rfl,rfl⟩ | ⟨id,rfl,rfl,_,h2⟩ | ⟨id,_,rfl,h2⟩⟩:=h
 ·exact .inl ⟨rfl,rfl⟩
 ·exact .inr ⟨id,.inl ⟨0,rfl⟩,h2,.inl rfl⟩
 ·obtain⟨p,hl,c,t,c',h1,h3,h0,h4,h5⟩:=h2.fa
  refine .inr ⟨id,.inr rfl,h2.lt,.inr ⟨c,t,h1,by simpa using h3,fun i hi=>?_⟩⟩
  rw [h5 i (by simpa using hi)];simp
theorem Own.nil {m0 m:Mem}(h:Ext m0 m):Own m0 m .nilSlice []:=⟨h,.inl ⟨rfl,rfl⟩⟩
theorem Own.ext {m0 m m':Mem}{v:o8}{l:List FR}(h:Own m0 m v l)(e:Ext m m'):Own m0 m' v l:=by
 obtain⟨h1,h2⟩:=h
 refine⟨h1.trans e,?_⟩
 rcases h2 with h2 | ⟨id,h3,h4,h5,h6⟩ | ⟨id,h3,h4,h5⟩
 ·exact .inl h2
 ·exact .inr (.inl ⟨id,h3,h4,h5,Nat.lt_of_lt_of_le h6 e.next⟩)
 ·exact .inr (.inr ⟨id,h3,h4,h5.ext e⟩)
theorem zI {n:Nat}(h:n≤36):big n 304 32=true:=by
 show bi (Nat.ble ((2*n+2048)*304) 281474976710656) true false=true
 rw [show Nat.ble ((2*n+2048)*304) 281474976710656=true from Nat.ble_eq_true_of_le (by omega)];rfl
theorem YA {m:Mem}(hm:m.Ok)(hl:m.lim≤m.next){l:List FR}(hg:∀r,r∈l→r.Good)(hb:l.length≤36):Ar (m.new (.cells 32 l.length (T.ofList (cellsOf l)))) m.next l:=by
 have:=NZ hm (rs:=32) (by omega) (jd l)
 rw [show (cellsOf l).length=l.length from by simp [cellsOf]] at this
 exact⟨Mem.Ok.new hm _,this,by simp,by simpa using hl,hg,hb⟩
theorem vT {m:Mem}(l:List FR):grown m 32 l.length (cellsOf l).flatten=some [⟨.sliceU m.next 0 l.length 32,m.new (.cells 32 l.length (T.ofList (cellsOf l)))⟩]:=by
 have:=uq (m:=m) (jd l)
 rwa [show (cellsOf l).length=l.length from by simp [cellsOf]] at this
theorem Bl (a b:List FR):(cellsOf (a++b)).flatten=(cellsOf a).flatten++(cellsOf b).flatten:=by simp [cellsOf]
structure Kp (m m':Mem):Prop where
 next:m.next≤m'.next
 old:∀i,i<m.next→(∀c t,m.get i≠some (.cells 32 c t))→m'.get i=m.get i
theorem Kp.of {m m':Mem}(h:Ext m m'):Kp m m':=⟨h.next,fun i hi _=>h.old i hi⟩
theorem Kp.trans {a b c:Mem}(h:Kp a b)(k:Kp b c):Kp a c:=⟨Nat.le_trans h.next k.next,fun i hi hn=>by
 have e:=h.old i hi hn
 exact (k.old i (Nat.lt_of_lt_of_le hi h.next) (fun x t=>by rw [e];exact hn x t)).trans e⟩
theorem Kp.new {m m':Mem}(h:Kp m m')(hm:m'.Ok)(b:Blk):Kp m (m'.new b):=h.trans (Kp.of ((Ext.refl hm).new b))
theorem iq {m m':Mem}(h:Kp m m'){v:o8}{xs:List Int}(hv:dF m v xs):dF m' v xs:=by
 rcases hv with hv | ⟨id,h1,h2,h3⟩
 ·exact .inl hv
 ·refine .inr ⟨id,h1,Nat.lt_of_lt_of_le h2 h.next,?_⟩
  rcases h3 with h3 | ⟨n,rows,h4,h5,h6⟩
  ·exact .inl h3
  ·exact .inr ⟨n,rows,(h.old id h2 (fun c t=>by rw [h4];intro e;cases e)).trans h4,h5,h6⟩
theorem gB.keep {m m':Mem}(h:Kp m m'){r:FR}(k:gB m r):gB m' r:=⟨iq h k.a,iq h k.b,iq h k.l,k.ga,k.gb,k.nb⟩
theorem zJ {m0 m:Mem}{v:o8}{l fs:List FR}(hm0:m0.lim≤m0.next)(h:Own m0 m v l)(hg:∀r,r∈fs→r.Good)(hb:l.length+fs.length≤36):
  ∃v' m',lX m 32 304 fs.length (cellsOf fs).flatten v=some [⟨v',m'⟩]∧Own m0 m' v' (l++fs)∧Kp m m':=by
 obtain⟨he,h⟩:=h
 have hlm:m.lim≤m.next:=by rw [he.lim];exact Nat.le_trans hm0 he.next
 have mk:∀{M:Mem},Ext m0 M→m0.next≤M.next→∀(k:List FR),(∀r,r∈k→r.Good)→k.length≤36→Own m0 (M.new (.cells 32 k.length (T.ofList (cellsOf k)))) (.sliceU M.next 0 k.length 32) k:=fun {M} hM hn k hk hkb=>
  ⟨hM.new _,.inr (.inr ⟨M.next,hn,rfl,YA hM.ok (by rw [hM.lim];exact Nat.le_trans hm0 hn) hk hkb⟩)⟩
 by_cases hf:fs=[]
 ·subst hf
  refine⟨v,m,?_,⟨he,by simpa using h⟩,Kp.of (Ext.refl he.ok)⟩
  rcases h with⟨rfl,rfl⟩ | ⟨id,rfl,rfl,_,_⟩ | ⟨id,_,rfl,_⟩<;>rfl
 ·obtain⟨k,hk⟩:∃k,fs.length=k+1:=⟨fs.length-1,by have:=List.length_pos_iff.2 hf;omega⟩
  rcases h with⟨rfl,rfl⟩ | ⟨id,rfl,rfl,_,_⟩ | ⟨id,hid,rfl,ha⟩
  ·refine⟨_,_,?_,mk he he.next fs hg (by simpa using hb),Kp.of ((Ext.refl he.ok).new _)⟩
   rw [← vT fs]
   show Es m 32 304 fs.length _=_
   rw [hk]
   show bi (big (k+1) 304 32) _ none=_
   rw [zI (by simp at hb;omega)];rfl
  ·refine⟨_,_,?_,mk he he.next fs hg (by simpa using hb),Kp.of ((Ext.refl he.ok).new _)⟩
   rw [← vT fs]
   show lW m 32 304 fs.length _ id 0 0 0=_
   unfold lW
   rw [show Nat.add 0 fs.length=fs.length from Nat.zero_add _,show Nat.ble fs.length 0=false from by rw [hk];rfl,Y8,zI (by simp at hb;omega),ay]
   rfl
  ·have hgl:∀r,r∈l++fs→r.Good:=fun r hr=>by
    rcases List.mem_append.1 hr with h | h
    ·exact ha.good r h
    ·exact hg r h
   have hd:Ext m0 (m.set id .dead):=he.set ha.lt hid _
   have hkp:∀b,Kp m ((m.set id .dead).new b):=fun b=>Kp.new ⟨by simp,fun i hi hn=>by
    rw [Mem.Z6 ha.ok ha.lt,if_neg]
    rintro rfl
    obtain⟨_,_,c,t,c',h1,_⟩:=ha.fa
    exact hn c t h1⟩ (Mem.Ok.set ha.ok ha.lt _) b
   have hlen:(l++fs).length=l.length+fs.length:=by simp
   obtain⟨p,hl,c,t,c',h1,h3,h0,h4,h5⟩:=ha.fa
   have h3':l.length≤c:=by simpa using h3
   have hl1:Nat.ble m.lim id=true:=Nat.ble_eq_true_of_le ha.lim
   have ho:=Bj hg
   by_cases h1k:fs.length=1
   ·obtain⟨x,rfl⟩:∃x,fs=[x]:=List.length_eq_one_iff.1 h1k
    have hrow:(cellsOf [x]).flatten=x.f.cells:=by simp [cellsOf]
    refine⟨.sliceU m.next 0 (l.length+1) 32,(m.set id .dead).new (.cells 32 (l.length+1) (t.put l.length x.f.cells)),?_,⟨hd.new _,.inr (.inr ⟨m.next,he.next,by simp,?_⟩)⟩,hkp _⟩
    ·show Bv m 32 304 1 _ id 0 l.length 32=_
     show bi (Nat.beq 32 32) (bi (big (l.length+1) 304 32) (bi (Nat.ble m.lim id) (bi (Q6 (cellsOf [x]).flatten) (CB (m.get id) _ _) none) none) none) none=_
     rw [zI (by simp at hb;omega),hl1,ho,h1]
     show bi (bi (Nat.beq 32 32) (bi (Nat.beq 0 0) (bi (Nat.ble l.length c) (bi (Nat.beq 1 1) (Nat.beq (len' (cellsOf [x]).flatten) 32) false) false) false) false) _ _=_
     rw [show Nat.ble l.length c=true from Nat.ble_eq_true_of_le h3',hrow,P8,Fct.len]
     rfl
    ·refine⟨Mem.Ok.new (Mem.Ok.set ha.ok ha.lt _) _,⟨by omega,fun r hr=>jd _ r hr,l.length+1,t.put l.length x.f.cells,?_⟩,by simp,by simpa using hlm,hgl,by simp at hb ⊢;omega⟩
     have hput:∃c'',l.length+1≤c''∧T.Ok (t.put l.length x.f.cells) c'':=by
      by_cases hc:l.length<c'
      ·exact⟨c',hc,T.Ok.put h4 _ _ hc⟩
      ·obtain rfl:c'=l.length:=by omega
       exact⟨l.length+1,Nat.le_refl _,T.Ok.push h4 _⟩
     obtain⟨c'',q1,q2⟩:=hput
     refine⟨c'',by rw [Mem.Y5 (Mem.Ok.set ha.ok ha.lt _)];simp,by simp,q1,q2,fun i hi=>?_⟩
     by_cases hil:i=l.length
     ·subst hil
      rw [T.Y0 h4 _ _ (by omega)]
      simp
     ·have hil':i<l.length:=by simp at hi;omega
      rw [T.aI h4 _ _ _ (by omega) (Ne.symm hil),h5 i (by simpa using hil')]
      simp [List.getElem_append_left,hil']
   ·refine⟨_,_,?_,mk hd (by simpa using he.next) (l++fs) hgl (by simpa using hb),hkp _⟩
    have hrd:=iZ (rs:=32) (n:=c) (rows:=t) (l:=l.map fun r=>r.f.cells) hl h5 h3 l.length 0 (by simp)
    rw [Nat.zero_mul,List.drop_zero] at hrd
    rw [← vT (l++fs),hlen,Bl]
    show Bv m 32 304 fs.length _ id 0 l.length 32=_
    unfold Bv
    rw [hk]
    show bi (Nat.beq 32 32) (bi (big (l.length+(k+1)) 304 32) (bi (Nat.ble m.lim id) (bi (Q6 (cellsOf fs).flatten) (CB (m.get id) _ _) none) none) none) none=_
    rw [zI (by omega),hl1,ho,h1]
    show bi (bi (Nat.beq 32 32) (bi (Nat.beq 0 0) (bi (Nat.ble l.length c) (bi (Nat.beq (k+1) 1) (Nat.beq (len' (cellsOf fs).flatten) 32) false) false) false) false) _ (ob (O1 32 c t (Nat.mul l.length 32) 0) fun old=>grown (m.set id .dead) 32 (Nat.add l.length (k+1)) (gJ old (cellsOf fs).flatten))=_
    rw [show Nat.ble l.length c=true from Nat.ble_eq_true_of_le h3',show Nat.beq (k+1) 1=false from Bool.eq_false_iff.2 fun e=>h1k (by rw [hk];exact Nat.eq_of_beq_eq_true e)]
    rw [show Nat.mul l.length 32=l.length*32 from rfl,show Nat.add l.length (k+1)=l.length+(k+1) from rfl]
    show ob (O1 32 c t (l.length*32) 0) (fun old=>grown (m.set id .dead) 32 (l.length+(k+1)) (gJ old (cellsOf fs).flatten))=_
    rw [hrd,O3,U9]
    rfl
theorem kR {m0 m:Mem}{v x:o8}{l fs:List FR}(hm0:m0.lim≤m0.next)(h:Own m0 m v l)(hx:dA m x fs)(hg:∀r,r∈fs→r.Good)(hb:l.length+fs.length≤36):
  ∃v' m',(∀(s y:OF) (cf:L8) (ls:List o8) (env:T o8),s ls env=v→y ls env=x→dG 32 304 s y cf ls env m=some [⟨v',m'⟩])∧Own m0 m' v' (l++fs)∧Kp m m':=by
 obtain⟨v',m',h1,h2,h3⟩:=zJ hm0 h hg hb
 refine⟨v',m',fun s y cf ls env hs hy=>?_,h2,h3⟩
 show ob (AM.lenOf (y ls env)) (fun n=>ob (U2 m 32 n (y ls env)) fun new=>lX m 32 304 n new (s ls env))=_
 rw [hy,hs,hx.lenOf,O3,hx.read,O3,h1]
end Go.Proofs.YtefodipjjofocaaGreatDoor.TT
namespace Go.Proofs.YtefodipjjofocaaGreatDoor.TT
open Go Go.AM
set_option linter.unusedSimpArgs false
set_option linter.unusedVariables false
set_option maxRecDepth 100000
set_option maxHeartbeats 8000000
theorem Px {m:Mem}{v:o8}{fs:List FR}(hm:m.Ok)(hl:m.lim≤m.next)(hv:dA m v fs)(hg:∀r,r∈fs→r.Good)(hb:fs.length≤36)(n fu:Nat):
  ∃v' m',G9 KW fu (n+1) (.func 110) [v] m=some [⟨v',m'⟩]∧Own m m' v' fs:=by
 rw [enter (sf:=f110) rfl rfl]
 have hB:∀z ls env nid,I6 32 0 z [] ls env nid=some (.slice nid 0 0 0,some (.cells 32 0 (T.ofList []))):=fun _ _ _ _=>rfl
 have E:=G7 hm [.cells 32 0 (T.ofList [])]
 have h1:Own m (ext m [.cells 32 0 (T.ofList [])]) (.slice m.next 0 0 0) []:=⟨E,.inr (.inl ⟨m.next,rfl,rfl,Nat.le_refl _,by simp⟩)⟩
 obtain⟨v',m',hA,ho,_⟩:=kR hl h1 (hv.ext E) hg (by simpa using hb)
 rw [List.nil_append] at ho
 rcases hv with⟨rfl,rfl⟩ | ⟨id,⟨c,rfl⟩ | rfl,h2⟩
 ·refine⟨.nilSlice,m,?_,Own.nil (Ext.refl hm)⟩
  have e:dK .nilSlice .nilSlice=some true:=rfl
  simp [f110,F3,trD,H9,w9,p8,l8,D5,D7,j5 hm,j6 hm,G6 hm hl,x9 hm hl,l9 hm,l5 hm,G5,r9,C8,A8,K4,e]
 ·refine⟨v',m',?_,ho⟩
  have e:∀a b c d,dK (.slice a b c d) .nilSlice=some false:=fun _ _ _ _=>rfl
  simp [f110,F3,trD,H9,w9,p8,l8,D5,D7,j5 hm,j6 hm,G6 hm hl,x9 hm hl,l9 hm,l5 hm,G5,r9,C8,A8,K4,e,hB,hA,ho.fs.pan]
 ·refine⟨v',m',?_,ho⟩
  have e:∀a b c d,dK (.sliceU a b c d) .nilSlice=some false:=fun _ _ _ _=>rfl
  simp [f110,F3,trD,H9,w9,p8,l8,D5,D7,j5 hm,j6 hm,G6 hm hl,x9 hm hl,l9 hm,l5 hm,G5,r9,C8,A8,K4,e,hB,hA,ho.fs.pan]
theorem dA.nil {m:Mem}{v:o8}(h:dA m v []):vSl v (some (o8.int .i64 0)) (fun _ _ n _=>some (.int .i64 n)) (fun _ _ n _=>some (.int .i64 n))=some (.int .i64 0):=h.len
theorem Py {m0 m:Mem}{v:o8}{l:List FR}(h:Own m0 m v l)(n0 fu:Nat)(hfu:1000≤fu):
  ∃m' l',G9 KW fu (n0+43) (.func 111) [v,(.func (.func 112) [] [])] m=some [⟨.tuple [],m'⟩]∧Own m0 m' v l'∧Mv 0 l.length l l'∧l'.length=l.length∧Srt l' 0 l.length:=by
 rw [enter (sf:=f111) rfl rfl]
 have hlen:=h.fs.len
 have hnil:=fun (hl:l=[])=>KA m (n0+40) fu hfu v (.func (.func 112) [] [])
 by_cases hl:l=[]
 ·refine⟨m,l,?_,h,Mv.refl _ _ _,rfl,by rw [hl];exact fun i j _ _ h=>by simp at h⟩
  subst hl
  have g:=hnil rfl
  simp at hlen g
  simp [f111,F3,trD,H9,w9,p8,l8,hlen,g]
 ·obtain⟨he,⟨rfl,h2⟩ | ⟨id,rfl,h2,_,_⟩ | ⟨id,hid,rfl,ha⟩⟩:=h
  ·exact absurd h2 hl
  ·exact absurd h2 hl
  ·obtain⟨m',l',g,hc,hm,hs⟩:=Pw ha n0 fu hfu (List.length_pos_iff.2 hl)
   refine⟨m',l',?_,⟨he.uo hc.ext hid,.inr (.inr ⟨id,hid,by rw [hc.len],hc.ar⟩)⟩,hm,hc.len,hs⟩
   simp [f111,F3,trD,H9,w9,p8,l8,g]
end Go.Proofs.YtefodipjjofocaaGreatDoor.TT
namespace Go.Proofs.YtefodipjjofocaaGreatDoor.TT
open Go Go.AM
set_option linter.unusedSimpArgs false
set_option linter.unusedVariables false
set_option maxRecDepth 100000
set_option maxHeartbeats 8000000
theorem uH {x y:FR}(hx:x.Good)(hy:y.Good):x.P5 y=true↔x.key=y.key:=by
 have h1:-9223372036854775808≤x.f.no∧x.f.no<9223372036854775808:=hx.no
 have h2:-9223372036854775808≤y.f.no∧y.f.no<9223372036854775808:=hy.no
 simp only [FR.P5,Bool.and_eq_true,decide_eq_true_eq,FR.key]
 omega
theorem oh {x y:FR}(hx:x.Good)(hy:y.Good):x.P5 y=decide (x.key=y.key):=by
 rw [Bool.eq_iff_iff,uH hx hy];simp
structure Dp (l0:List FR)(p:Nat)(l:List FR)(k:Nat):Prop where
 st:∀i j,i<j→j<k→kAt l i<kAt l j
 pos:0<k
 top:kAt l (k-1)=kAt l0 (p-1)
 sub:∀i,i<k→∃j,j<p∧l[i]?=l0[j]?
 cov:∀j,j<p→∃i,i<k∧kAt l i=kAt l0 j
theorem Dp.skip {l0 l:List FR}{p k:Nat}(h:Dp l0 p l k)(hp:0<p)(he:kAt l0 p=kAt l0 (p-1)):Dp l0 (p+1) l k:=
 ⟨h.st,h.pos,by rw [h.top,show p+1-1=p from by omega,he],fun i hi=>by
  obtain⟨j,j1,j2⟩:=h.sub i hi
  exact⟨j,by omega,j2⟩,fun j hj=>by
  by_cases hjp:j<p
  ·exact h.cov j hjp
  ·obtain rfl:j=p:=by omega
   rw [he]
   exact h.cov _ (by omega)⟩
theorem Dp.take {l0 l:List FR}{p k:Nat}(h:Dp l0 p l k)(hp:0<p)(hk:k<l.length)(hpl:p<l0.length)(hlt:kAt l0 (p-1)<kAt l0 p):Dp l0 (p+1) (l.set k l0[p]) (k+1):=by
 have hk0:=h.pos
 have e1:(l.set k l0[p])[k]?=l0[p]?:=by rw [List.getElem?_set,if_pos rfl,if_pos hk];simp [hpl]
 have e2:∀i,i<k→(l.set k l0[p])[i]?=l[i]?:=fun i hi=>by rw [List.getElem?_set,if_neg (by omega)]
 have kle:∀i,i<k→kAt l i≤kAt l (k-1):=fun i hi=>by
  by_cases h':i=k-1
  ·rw [h'];exact Int.le_refl _
  ·exact Int.le_of_lt (h.st i (k-1) (by omega) (by omega))
 refine⟨fun i j hij hj=>?_,by omega,?_,fun i hi=>?_,fun j hj=>?_⟩
 ·by_cases hjk:j=k
  ·subst hjk
   rw [dJ (e2 i hij),dJ e1]
   have:=kle i hij
   rw [h.top] at this
   omega
  ·rw [dJ (e2 i (by omega)),dJ (e2 j (by omega))]
   exact h.st i j hij (by omega)
 ·rw [show k+1-1=k from by omega,show p+1-1=p from by omega];exact dJ e1
 ·by_cases hik:i=k
  ·subst hik;exact⟨p,by omega,e1⟩
  ·obtain⟨j,j1,j2⟩:=h.sub i (by omega)
   exact⟨j,by omega,(e2 i (by omega)).trans j2⟩
 ·by_cases hjp:j=p
  ·subst hjp;exact⟨k,by omega,dJ e1⟩
  ·obtain⟨i,i1,i2⟩:=h.cov j (by omega)
   exact⟨i,by omega,(dJ (e2 i i1)).trans i2⟩
theorem DV (n0 fu:Nat)(hfu:1000≤fu)(id n nn k0:Nat)(hn:n≤36)(hnn:nn+k0=n)(l0:List FR)(hl0:l0.length=n)(hsrt:Srt l0 0 n)(c1 y3 y5 y10:o8):
  ∀(s t:Nat),t+s=nn→0<t→∀(N:Nat),s<N→∀(M:Mem) (l:List FR) (k:Nat),Ar M id l→l.length=n→k<k0+t→(∀x,k0+t≤x+1→l[x]?=l0[x]?)→Dp l0 (k0+t) l k→∀(y8 y9:o8),
   ∃k' z9 M' l',V9 (fun env m k=>zm (G9 KW fu (n0+4)) fu none env m k) N (.nd (.nd (.nd (.nd .e (.sliceU id (k0*32) nn 32) .e) y3 .e) c1 (.nd (.nd .e y9 .e) y5 .e)) (.sliceU id 0 n 32) (.nd (.nd (.nd .e y8 .e) (.func (.func 115) [] []) .e) (.int .i64 ((k:Nat):Int)) (.nd (.nd .e y10 .e) (.int .i64 ((t:Nat):Int)) .e))) M []=some [⟨.exit 2,(.nd (.nd (.nd (.nd .e (.sliceU id (k0*32) nn 32) .e) y3 .e) c1 (.nd (.nd .e z9 .e) y5 .e)) (.sliceU id 0 n 32) (.nd (.nd (.nd .e (.bool false) .e) (.func (.func 115) [] []) .e) (.int .i64 ((k':Nat):Int)) (.nd (.nd .e y10 .e) (.int .i64 ((nn:Nat):Int)) .e))),M',[],none⟩]∧Chg id M l M' l'∧k'<n∧Dp l0 n l' k':=by
 intro s
 induction s with
 | zero=>
  intro t ht h0 N hN M l k h hl hk hx hd y8 y9
  obtain⟨N,rfl⟩:∃M,N=M+1:=⟨N-1,by omega⟩
  obtain rfl:t=nn:=by omega
  refine⟨k,y9,M,l,?_,Chg.refl h,by omega,by rw [← hnn,Nat.add_comm];exact hd⟩
  rw [F7]
  simp [zm,F3,trD,H9,w9,p8,l8]
 | succ s ih=>
  intro t ht h0 N hN M l k h hl hk hx hd y8 y9
  obtain⟨N,rfl⟩:∃M,N=M+1:=⟨N-1,by omega⟩
  obtain⟨p,hp⟩:∃p,p=k0+t:=⟨_,rfl⟩
  obtain⟨u,hu⟩:∃u,u+1=t:=⟨t-1,by omega⟩
  obtain⟨q,hq⟩:∃q,q+1=p:=⟨p-1,by omega⟩
  rw [← hp] at hd hk hx
  have hpl:p<l.length:=by omega
  have hql:q<l.length:=by omega
  have hp0:p<l0.length:=by omega
  have hq0:q<l0.length:=by omega
  have ep:l[p]=l0[p]:=by have:=hx p (by omega);simpa [hpl,hp0] using this
  have eq0:l[q]=l0[q]:=by have:=hx q (by omega);simpa [hql,hq0] using this
  obtain⟨M1,g1,E1⟩:=Gu h.ok h.lm n0 fu (h.get hpl) (h.get hql)
  have hA:=h.ext E1
  have r1:=h.fa.ld hpl
  have r2:=h.fa.ld hql
  have r3:=hA.fa.ld hpl
  have z1:=(h.get hpl).rf
  have z2:=(h.get hql).rf
  rw [show p*32=k0*32+t*32 from by omega] at r1 r3
  rw [show q*32=k0*32+u*32 from by omega] at r2
  have hne:=oh (h.get hpl) (h.get hql)
  rw [ep,eq0] at hne
  rw [← eY hp0,← eY hq0] at hne
  have i1:∀{β:Type} (f:Nat→Option β),idx nn (.int .i64 (t:Int)) f=f t:=fun f=>R3 _ _ f (by omega)
  have i2:∀{β:Type} (f:Nat→Option β),idx nn (.int .i64 (u:Int)) f=f u:=fun f=>R3 _ _ f (by omega)
  have e2:=nZ hu (by omega)
  obtain⟨t1,ht1⟩:∃t1,t1=t+1:=⟨_,rfl⟩
  have e3:=dB ht1 (by omega)
  have htn:t<nn:=by omega
  have hgood:=h.get hpl
  cases hb:decide (kAt l0 p=kAt l0 q) with
  | true=>
   rw [hb] at hne
   obtain⟨k',z9,M',l',g,hc,hk',hd'⟩:=ih t1 (by omega) (by omega) N (by omega) M1 l k hA hl (by omega) (fun x hx'=>hx x (by omega)) (by
    rw [ht1,← Nat.add_assoc,← hp]
    exact hd.skip (by omega) (by rw [show p-1=q from by omega];simpa using hb)) (.bool true) (.bool false)
   refine⟨k',z9,M',l',?_,(Chg.of h E1).trans hc,hk',hd'⟩
   rw [ep,eq0] at *
   generalize l0[p]=x at *
   generalize l0[q]=y at *
   clear ih hd hd' hx hc hb hsrt
   rw [F7,← g]
   simp [zm,F3,trD,H9,w9,p8,l8,htn,e2,e3,i1,i2,r1,r2,z1,z2,g1,hne]
  | false=>
   rw [hb] at hne
   have hkl:k<l.length:=by omega
   obtain⟨M2,s1,a2,x2⟩:=hA.store hkl hgood
   have hc1:Chg id M l M2 (l.set k l[p]):=(Chg.of h E1).trans ⟨x2,a2,by simp,fun r hr=>by
    rcases List.mem_or_eq_of_mem_set hr with hr | rfl
    ·exact hr
    ·exact List.getElem_mem hpl⟩
   obtain⟨k1,hk1⟩:∃k1,k1=k+1:=⟨_,rfl⟩
   have e4:=dB hk1 (by omega)
   obtain⟨k',z9,M',l',g,hc,hk',hd'⟩:=ih t1 (by omega) (by omega) N (by omega) M2 (l.set k l[p]) k1 a2 (by simpa using hl) (by omega) (fun x hx'=>by
    rw [List.getElem?_set,if_neg (by omega)]
    exact hx x (by omega)) (by
    rw [ht1,← Nat.add_assoc,← hp,hk1,ep]
    have c:=hsrt q p (by omega) (by omega) (by omega)
    have c':¬ kAt l0 p=kAt l0 q:=by simpa using hb
    exact hd.take (by omega) hkl hp0 (by rw [show p-1=q from by omega];omega)) (.bool true) (.bool true)
   refine⟨k',z9,M',l',?_,hc1.trans hc,hk',hd'⟩
   have i3:∀{β:Type} (f:Nat→Option β),idx n (.int .i64 (k:Int)) f=f k:=fun f=>R3 _ _ f (by omega)
   rw [ep,eq0] at *
   generalize l0[p]=x at *
   generalize l0[q]=y at *
   clear ih hd hd' hx hc hb hsrt hc1 a2 x2
   rw [F7,← g]
   simp [zm,F3,trD,H9,w9,p8,l8,r9,htn,e2,e3,e4,i1,i2,i3,r1,r2,r3,z1,z2,g1,hne,s1,Fct.len]
end Go.Proofs.YtefodipjjofocaaGreatDoor.TT
namespace Go.Proofs.YtefodipjjofocaaGreatDoor.TT
open Go Go.AM
set_option linter.unusedSimpArgs false
set_option linter.unusedVariables false
set_option maxRecDepth 100000
set_option maxHeartbeats 8000000
theorem vU {id n k:Nat}(hk:k<n)(x a:OF)(ls:List o8)(env:T o8)(nid:Nat)(hx:x ls env=.sliceU id 0 n 32)(ha:a ls env=.int .i64 (k:Int)):lSl 32 x (some a) none ls env nid=some (.sliceU id (k*32) (n-k) 32,none):=by
 show kT (a ls env) (fun l=>O7 nid 32 (x ls env) l none)=_
 rw [ha,hx,vI,pX]
 show bi (Nat.ble k n) (bi (Nat.ble n n) (bi (Nat.beq 32 32) (bi (Nat.blt k n) (some (o8.sliceU id (Nat.add 0 (Nat.mul k 32)) (Nat.sub n k) 32,(none:Option Blk))) _) none) none) none=_
 rw [show Nat.ble k n=true from Nat.ble_eq_true_of_le (Nat.le_of_lt hk),show Nat.ble n n=true from Nat.ble_eq_true_of_le (Nat.le_refl _),show Nat.blt k n=true from Nat.blt_eq.mpr hk,show Nat.add 0 (Nat.mul k 32)=k*32 from Nat.zero_add _]
 rfl
theorem GA {id n k:Nat}(hk:k≤n)(hn:0<n)(x a:OF)(ls:List o8)(env:T o8)(nid:Nat)(hx:x ls env=.sliceU id 0 n 32)(ha:a ls env=.int .i64 (k:Int)):lSl 32 x none (some a) ls env nid=some (.sliceU id 0 k 32,none):=by
 show kT (a ls env) (fun h=>O7 nid 32 (x ls env) 0 (some h))=_
 rw [ha,hx,vI,pX]
 show bi (Nat.ble 0 k) (bi (Nat.ble k n) (bi (Nat.beq 32 32) (bi (Nat.blt 0 n) (some (o8.sliceU id (Nat.add 0 (Nat.mul 0 32)) (Nat.sub k 0) 32,(none:Option Blk))) _) none) none) none=_
 rw [show Nat.ble 0 k=true from Nat.ble_eq_true_of_le (Nat.zero_le _),show Nat.ble k n=true from Nat.ble_eq_true_of_le hk,show Nat.blt 0 n=true from Nat.blt_eq.mpr hn]
 rfl
theorem GD (z:List o8)(x:OF)(cf:L8)(ls:List o8)(env:T o8)(m:Mem):om z x cf ls env m=vSl (x ls env) (some [⟨.tuple [],m⟩]) (fun id off len _=>aD m id off (N7 z len) fun m'=>some [⟨.tuple [],m'⟩])
  (fun id off len _=>aD m id off (N7 z len) fun m'=>some [⟨.tuple [],m'⟩]):=id rfl
structure Dd (l l':List FR):Prop where
 st:∀i j,i<j→j<l'.length→kAt l' i<kAt l' j
 sub:∀r,r∈l'→r∈l
 cov:∀r,r∈l→∃s,s∈l'∧s.key=r.key
theorem Dd.of {l0 l:List FR}{k:Nat}(hl:l.length=l0.length)(hk:k≤l.length)(h:Dp l0 l0.length l k):Dd l0 (l.take k):=by
 have e:∀i,i<k→(l.take k)[i]?=l[i]?:=fun i hi=>by rw [List.getElem?_take,if_pos hi]
 refine⟨fun i j hij hj=>?_,fun r hr=>?_,fun r hr=>?_⟩
 ·have hj':j<k:=by simp at hj;omega
  rw [dJ (e i (by omega)),dJ (e j hj')]
  exact h.st i j hij hj'
 ·obtain⟨i,hi,rfl⟩:=List.getElem_of_mem hr
  have hik:i<k:=by simp at hi;omega
  obtain⟨j,j1,j2⟩:=h.sub i hik
  have h1:(l.take k)[i]?=l0[j]?:=(e i hik).trans j2
  rw [List.getElem?_eq_getElem hi,List.getElem?_eq_getElem j1] at h1
  rw [Option.some.inj h1]
  exact List.getElem_mem _
 ·obtain⟨j,hj,rfl⟩:=List.getElem_of_mem hr
  obtain⟨i,i1,i2⟩:=h.cov j hj
  have hi:i<(l.take k).length:=by simp;omega
  refine⟨(l.take k)[i],List.getElem_mem hi,?_⟩
  rw [← eY hi,dJ (e i i1),i2,eY hj]
theorem Dd.self {l:List FR}(h:∀i j,i<j→j<l.length→kAt l i<kAt l j):Dd l l:=⟨h,fun _ h=>h,fun r hr=>⟨r,hr,rfl⟩⟩
theorem Ar.clear {m:Mem}{id:Nat}{l:List FR}(h:Ar m id l){k:Nat}(hk:k≤l.length)(z:List o8)(hz:z.length=32)(ho:Q6 z=true):
  ∃m',(∀{β:Type} (f:Mem→Option β),aD m id (k*32) (N7 z (l.length-k)) f=f m')∧Ar m' id (l.take k)∧sI id m m':=by
 obtain⟨m',h1,h2,h3⟩:=Arr.clear (vs:=N7 z (l.length-k)) h.fa h.ok h.lt h.lim (k:=k) (by simpa using hk) (by
  rw [rz,hz,List.length_map,← Nat.add_mul]
  exact Nat.mul_le_mul_right _ (by omega)) (rA ho _)
 rw [← List.map_take] at h2
 exact⟨m',h1,⟨h3.ok,h2,Nat.lt_of_lt_of_le h.lt h3.next,by rw [h3.lim];exact h.lim,fun r hr=>h.good r (List.mem_of_mem_take hr),by simp;have:=h.big;omega⟩,h3⟩
theorem DW (n0 fu:Nat)(hfu:1000≤fu)(id n:Nat)(hn:n≤36)(l:List FR)(hl:l.length=n)(hsrt:Srt l 0 n)(c1:o8):
  ∀(s k:Nat),k+s=n→0<k→∀(N:Nat),s<N→∀(M:Mem),Ar M id l→(∀i j,i<j→j<k→kAt l i<kAt l j)→∀(y3 y5:o8),
   ∃x k' z3 z5 z6 z7 z8 z9 v10 M',V9 (fun env m k=>zn (G9 KW fu (n0+4)) fu none env m k) N (.nd (.nd (.nd (.nd .e .undef .e) y3 .e) c1 (.nd (.nd .e .undef .e) y5 .e)) (.sliceU id 0 n 32) (.nd (.nd (.nd .e .undef .e) (.func (.func 115) [] []) .e) (.int .i64 ((k:Nat):Int)) (.nd (.nd .e .nilSlice .e) .undef .e))) M []=some [⟨x,(.nd (.nd (.nd (.nd .e z7 .e) z3 .e) c1 (.nd (.nd .e z9 .e) z5 .e)) (.sliceU id 0 n 32) (.nd (.nd (.nd .e z8 .e) (.func (.func 115) [] []) .e) (.int .i64 ((k':Nat):Int)) (.nd (.nd .e v10 .e) z6 .e))),M',[],none⟩]∧
    ((x=.exit 0∧Ext M M'∧(∀i j,i<j→j<n→kAt l i<kAt l j))∨(x=.ret∧∃l',v10=.sliceU id 0 l'.length 32∧sI id M M'∧Ar M' id l'∧Dd l l')):=by
 intro s
 induction s with
 | zero=>
  intro k hk h0 N hN M h hst y3 y5
  obtain⟨N,rfl⟩:∃M,N=M+1:=⟨N-1,by omega⟩
  obtain rfl:k=n:=by omega
  refine⟨.exit 0,k,.bool false,y5,.undef,.undef,.undef,.undef,.nilSlice,M,?_,.inl ⟨rfl,Ext.refl h.ok,hst⟩⟩
  rw [F7]
  simp [zn,F3,trD,H9,w9,p8,l8]
 | succ s ih=>
  intro k hk h0 N hN M h hst y3 y5
  obtain⟨N,rfl⟩:∃M,N=M+1:=⟨N-1,by omega⟩
  obtain⟨q,hq⟩:∃q,q+1=k:=⟨k-1,by omega⟩
  have hkl:k<l.length:=by omega
  have hql:q<l.length:=by omega
  obtain⟨M1,g1,E1⟩:=Gu h.ok h.lm n0 fu (h.get hkl) (h.get hql)
  have hA:=h.ext E1
  have r1:=h.fa.ld hkl
  have r2:=h.fa.ld hql
  have z1:=(h.get hkl).rf
  have z2:=(h.get hql).rf
  have hne:=oh (h.get hkl) (h.get hql)
  rw [← eY hkl,← eY hql] at hne
  have i1:∀{β:Type} (f:Nat→Option β),idx n (.int .i64 (k:Int)) f=f k:=fun f=>R3 _ _ f (by omega)
  have i2:∀{β:Type} (f:Nat→Option β),idx n (.int .i64 (q:Int)) f=f q:=fun f=>R3 _ _ f (by omega)
  have e2:=nZ hq (by omega)
  obtain⟨k1,hk1⟩:∃k1,k1=k+1:=⟨_,rfl⟩
  have e3:=dB hk1 (by omega)
  have hkn:k<n:=by omega
  cases hb:decide (kAt l k=kAt l q) with
  | false=>
   rw [hb] at hne
   have hlt:kAt l q<kAt l k:=by
    have c:=hsrt q k (by omega) (by omega) (by omega)
    have c':¬ kAt l k=kAt l q:=by simpa using hb
    omega
   obtain⟨x,k',z3,z5,z6,z7,z8,z9,v10,M',g,hx⟩:=ih k1 (by omega) (by omega) N (by omega) M1 hA (fun i j hij hj=>by
    by_cases hjk:j=k
    ·subst hjk
     by_cases hiq:i=q
     ·rw [hiq];exact hlt
     ·exact Int.lt_trans (hst i q (by omega) (by omega)) hlt
    ·exact hst i j hij (by omega)) (.bool true) (.bool false)
   refine⟨x,k',z3,z5,z6,z7,z8,z9,v10,M',?_,?_⟩
   ·generalize l[k]=x at *
    generalize l[q]=y at *
    clear ih hx hst hsrt hb
    rw [F7,← g]
    simp [zn,F3,trD,H9,w9,p8,l8,hkn,e2,e3,i1,i2,r1,r2,z1,z2,g1,hne]
   ·rcases hx with⟨h1,h2,h3⟩ | ⟨h1,l',h2,h3,h4⟩
    ·exact .inl ⟨h1,E1.trans h2,h3⟩
    ·exact .inr ⟨h1,l',h2,E1.toB.trans h3,h4⟩
  | true=>
   rw [hb] at hne
   have he:kAt l k=kAt l q:=by simpa using hb
   obtain⟨nn,hnn⟩:∃nn,nn+k=n:=⟨n-k,by omega⟩
   obtain⟨k',z9,M2,l2,g2,hc,hk',hd⟩:=DV n0 fu hfu id n nn k hn hnn l hl hsrt c1 (.bool true) (.bool true) .nilSlice (nn-1) 1 (by omega) (by omega) fu (by omega) M1 l k hA hl (by omega) (fun _ _=>rfl)
    ⟨hst,h0,by rw [show k-1=q from by omega,show k+1-1=k from by omega,he],fun i hi=>⟨i,by omega,rfl⟩,fun j hj=>by
     by_cases hjk:j<k
     ·exact⟨j,hjk,rfl⟩
     ·obtain rfl:j=k:=by omega
      exact⟨q,by omega,he.symm⟩⟩ .undef .undef
   have hl2:=hc.len.trans hl
   have hcl:∀(z:List o8),z.length=32→Q6 z=true→∃m',(∀{β:Type} (f:Mem→Option β),aD M2 id (k'*32) (N7 z (n-k')) f=f m')∧Ar m' id (l2.take k')∧sI id M2 m':=fun z hz ho=>by
    have:=hc.ar.clear (k:=k') (by omega) z hz ho
    rwa [hl2] at this
   have sF:=fun (x a:OF) ls env nid hx ha=>vU (id:=id) hkn x a ls env nid hx ha
   have sF':=fun (x a:OF) ls env nid hx ha=>vU (id:=id) hk' x a ls env nid hx ha
   have sT:=fun (x a:OF) ls env nid hx ha=>GA (id:=id) (Nat.le_of_lt hk') (by omega:0<n) x a ls env nid hx ha
   obtain⟨M3,w1,w2,w3⟩:=hcl [.int .i64 0,.int .i64 0,.int .i64 0,.int .i64 0,.int .i64 0,.int .i64 0,.int .i64 0,.int .i64 0,.int .i64 0,.int .i64 0,.int .i64 0,.int .i64 0,.int .i64 0,.int .i64 0,.int .i64 0,.int .i64 0,.int .i64 0,.int .i64 0,.int .i64 0,.int .i64 0,.int .i64 0,.int .i64 0,.nilSlice,.nilSlice,.int .i64 0,.int .i64 0,.int .i64 0,.int .i64 0,.int .i64 0,.nilSlice,.int .i64 0,.int .i64 0] rfl rfl
   have hlk:(l2.take k').length=k':=by simp;omega
   refine⟨.ret,k',.bool true,.bool true,(.int .i64 ((nn:Nat):Int)),(.sliceU id (k*32) nn 32),.bool false,z9,.sliceU id 0 k' 32,M3,?_,.inr ⟨rfl,l2.take k',by rw [hlk],(E1.toB.trans hc.ext).trans w3,w2,Dd.of (by omega) (by omega) (by rw [hl];exact hd)⟩⟩
   rw [show n-k=nn from by omega] at sF
   rw [show ((1:Nat):Int)=1 from rfl] at g2
   generalize l[k]=x at *
   generalize l[q]=y at *
   clear ih hst hsrt hb hd hc hcl w2 w3 he
   rw [F7]
   simp [zn,F3,trD,H9,w9,p8,l8,hkn,e2,i1,i2,r1,r2,z1,z2,g1,hne,sF,sF',sT,g2,GD,w1]
end Go.Proofs.YtefodipjjofocaaGreatDoor.TT
namespace Go.Proofs.YtefodipjjofocaaGreatDoor.TT
open Go Go.AM
set_option linter.unusedSimpArgs false
set_option linter.unusedVariables false
set_option maxRecDepth 100000
set_option maxHeartbeats 8000000
theorem Pz {m0 m:Mem}{v:o8}{l:List FR}(h:Own m0 m v l)(hs:Srt l 0 l.length)(n0 fu:Nat)(hfu:1000≤fu):
  ∃v' m' l',G9 KW fu (n0+5) (.func 114) [v,(.func (.func 115) [] [])] m=some [⟨v',m'⟩]∧Own m0 m' v' l'∧Dd l l':=by
 rw [enter (sf:=f114) rfl rfl]
 have hlen:=h.fs.len
 by_cases h2:l.length<2
 ·refine⟨v,m,l,?_,h,Dd.self fun i j hij hj=>by omega⟩
  have h2':(l.length:Int)<2:=by omega
  simp [f114,F3,trD,H9,w9,p8,l8,hlen,h2']
 ·have h2':¬ (l.length:Int)<2:=by omega
  obtain⟨he,⟨rfl,h3⟩ | ⟨id,rfl,h3,_,_⟩ | ⟨id,hid,rfl,ha⟩⟩:=h
  ·subst h3;simp at h2
  ·subst h3;simp at h2
  ·obtain⟨x,k',z3,z5,z6,z7,z8,z9,v10,M',g,hx⟩:=DW n0 fu hfu id l.length ha.big l rfl hs (.bool false) (l.length-1) 1 (by omega) (by omega) fu (by have:=ha.big;omega) m ha (fun i j hij hj=>by omega) .undef .undef
   rw [show ((1:Nat):Int)=1 from rfl] at g
   rcases hx with⟨rfl,hE,hst⟩ | ⟨rfl,l',rfl,hE,hA,hd⟩
   ·refine⟨.sliceU id 0 l.length 32,M',l,?_,⟨he.trans hE,.inr (.inr ⟨id,hid,rfl,ha.ext hE⟩)⟩,Dd.self hst⟩
    simp [f114,F3,trD,H9,w9,p8,l8,h2',g]
   ·refine⟨.sliceU id 0 l'.length 32,M',l',?_,⟨he.uo hE hid,.inr (.inr ⟨id,hid,rfl,hA⟩)⟩,hd⟩
    simp [f114,F3,trD,H9,w9,p8,l8,h2',g]
theorem Dd.mv {l l1 l2:List FR}(hl:l1.length=l.length)(hm:Mv 0 l.length l l1)(h:Dd l1 l2):Dd l l2:=by
 have to:∀r,r∈l1→r∈l:=fun r hr=>by
  obtain⟨i,hi,rfl⟩:=List.getElem_of_mem hr
  obtain⟨j,_,j2,j3⟩:=hm.inn i (Nat.zero_le _) (by omega)
  rw [List.getElem?_eq_getElem hi,List.getElem?_eq_getElem j2] at j3
  rw [Option.some.inj j3]
  exact List.getElem_mem _
 have fro:∀r,r∈l→r∈l1:=fun r hr=>by
  obtain⟨i,hi,rfl⟩:=List.getElem_of_mem hr
  obtain⟨k,_,k2,k3⟩:=hm.bak i (Nat.zero_le _) hi
  have hk:k<l1.length:=by omega
  rw [List.getElem?_eq_getElem hi,List.getElem?_eq_getElem hk] at k3
  rw [← Option.some.inj k3]
  exact List.getElem_mem _
 exact⟨h.st,fun r hr=>to r (h.sub r hr),fun r hr=>h.cov r (fro r hr)⟩
theorem YB {m:Mem}{v:o8}{fs:List FR}(hm:m.Ok)(hl:m.lim≤m.next)(hv:dA m v fs)(hg:∀r,r∈fs→r.Good)(hb:fs.length≤36)(n0 fu:Nat)(hfu:1000≤fu):
  ∃v' m' l',G9 KW fu (n0+44) (.func 56) [v] m=some [⟨v',m'⟩]∧Own m m' v' l'∧Dd fs l':=by
 obtain⟨v1,m1,g1,o1⟩:=Px hm hl hv hg hb (n0+42) fu
 obtain⟨m2,l2,g2,o2,hmv,hl2,hs⟩:=Py o1 n0 fu hfu
 rw [← hl2] at hs
 obtain⟨v3,m3,l3,g3,o3,hd⟩:=Pz o2 hs (n0+38) fu hfu
 refine⟨v3,m3,l3,?_,o3,hd.mv hl2 hmv⟩
 rw [enter (sf:=f56) rfl rfl]
 simp [f56,F3,trD,H9,w9,p8,l8,g1,g2,g3,o1.fs.pan,o3.fs.pan]
end Go.Proofs.YtefodipjjofocaaGreatDoor.TT
namespace Go.Proofs.YtefodipjjofocaaGreatDoor.TT
open Go Go.AM
set_option linter.unusedSimpArgs false
set_option linter.unusedVariables false
set_option maxRecDepth 100000
set_option maxHeartbeats 8000000
theorem pE (z:List o8):∀n,N7 z n=(List.replicate n z).flatten
 | 0=>rfl
 | n+1=>by
  show gJ z (N7 z n)=_
  rw [U9,pE z n];rfl
theorem Bn {m:Mem}{z:List o8}(hz:z.length=32)(n:Nat):grown m 32 n (N7 z n)=some [⟨.sliceU m.next 0 n 32,m.new (.cells 32 n (T.ofList (List.replicate n z)))⟩]:=by
 have:=uq (m:=m) (rs:=32) (l:=List.replicate n z) (fun r hr=>by rw [List.eq_of_mem_replicate hr,hz])
 rwa [List.length_replicate,← pE] at this
theorem PD {m:Mem}(hm:m.Ok)(hl:m.lim≤m.next)(k:Nat)(hk:k≤36)(n fu:Nat):
  ∃v' m',G9 KW fu (n+1) (.func 109) [.nilSlice,(.int .i64 ((k:Nat):Int))] m=some [⟨v',m'⟩]∧Own m m' v' []:=by
 rw [enter (sf:=f109) rfl rfl]
 have h1:¬ (k:Int)<0:=by omega
 have e0:w64 (k:Int)=(k:Int):=aR (by omega) (by omega)
 have e1:w64 0=0:=rfl
 by_cases h0:k=0
 ·subst h0
  exact⟨.nilSlice,m,by simp [f109,F3,trD,H9,w9,p8,l8,e1],Own.nil (Ext.refl hm)⟩
 ·have h2:0<k:=by omega
  have hs:∀(x a:OF) ls env nid,x ls env=.nilSlice→a ls env=.int .i64 0→lSl 32 x none (some a) ls env nid=some (.nilSlice,none):=fun x a ls env nid hx ha=>by
   show kT (a ls env) (fun h=>O7 nid 32 (x ls env) 0 (some h))=_
   rw [ha,hx];rfl
  have hA:∀(z:List o8) (s x:OF) (cf:L8) ls env,z.length=32→s ls env=.nilSlice→x ls env=.int .i64 (k:Int)→Et 32 z 304 s x cf ls env m=some [⟨.sliceU m.next 0 k 32,m.new (.cells 32 k (T.ofList (List.replicate k z)))⟩]:=fun z s x cf ls env hz hs hx=>by
   show kT (x ls env) (fun n=>bi (Nat.ble (n*304) 281474976710656) (bi (Nat.blt n 9223372036854775808) (lX m 32 304 n (N7 z n) (s ls env)) none) none)=_
   rw [hx,hs,vI,pX,show Nat.ble (k*304) 281474976710656=true from Nat.ble_eq_true_of_le (by omega),show Nat.blt k 9223372036854775808=true from Nat.blt_eq.mpr (by omega),ay,ay,← Bn hz k]
   show Es m 32 304 k (N7 z k)=_
   obtain⟨j,rfl⟩:∃j,k=j+1:=⟨k-1,by omega⟩
   show bi (big (j+1) 304 32) (grown m 32 (j+1) (N7 z (j+1))) none=_
   rw [zI hk];rfl
  have hT:=fun (x a:OF) ls env nid hx ha=>GA (id:=m.next) (n:=k) (k:=0) (Nat.zero_le _) (by omega) x a ls env nid hx ha
  have hT':∀(x a:OF) ls env nid,x ls env=.sliceU m.next 0 k 32→a ls env=.int .i64 0→lSl 32 x none (some a) ls env nid=some (.sliceU m.next 0 0 32,none):=fun x a ls env nid hx ha=>hT x a ls env nid hx ha
  refine⟨.sliceU m.next 0 0 32,m.new (.cells 32 k (T.ofList (List.replicate k [.int .i64 0,.int .i64 0,.int .i64 0,.int .i64 0,.int .i64 0,.int .i64 0,.int .i64 0,.int .i64 0,.int .i64 0,.int .i64 0,.int .i64 0,.int .i64 0,.int .i64 0,.int .i64 0,.int .i64 0,.int .i64 0,.int .i64 0,.int .i64 0,.int .i64 0,.int .i64 0,.int .i64 0,.int .i64 0,.nilSlice,.nilSlice,.int .i64 0,.int .i64 0,.int .i64 0,.int .i64 0,.int .i64 0,.nilSlice,.int .i64 0,.int .i64 0]))),?_,?_⟩
  ·simp [f109,F3,trD,H9,w9,p8,l8,h1,h2,e0,e1,hs,hA,hT']
  ·refine⟨(Ext.refl hm).new _,.inr (.inr ⟨m.next,Nat.le_refl _,rfl,Mem.Ok.new hm _,⟨by omega,fun r hr=>by simp at hr,k,_,k,by rw [Mem.Y5 hm,if_pos rfl],by simp,Nat.le_refl _,?_,fun i hi=>by simp at hi⟩,by simp,by simpa using hl,fun r hr=>by simp at hr,by simp⟩)⟩
   have:=T.eB (List.replicate k ([.int .i64 0,.int .i64 0,.int .i64 0,.int .i64 0,.int .i64 0,.int .i64 0,.int .i64 0,.int .i64 0,.int .i64 0,.int .i64 0,.int .i64 0,.int .i64 0,.int .i64 0,.int .i64 0,.int .i64 0,.int .i64 0,.int .i64 0,.int .i64 0,.int .i64 0,.int .i64 0,.int .i64 0,.int .i64 0,.nilSlice,.nilSlice,.int .i64 0,.int .i64 0,.int .i64 0,.int .i64 0,.int .i64 0,.nilSlice,.int .i64 0,.int .i64 0]:List o8))
   rwa [List.length_replicate] at this
theorem YC {m:Mem}{va vb:o8}{a b:List FR}(hm:m.Ok)(hl:m.lim≤m.next)(ha:dA m va a)(hb:dA m vb b)(ga:∀r,r∈a→r.Good)(gb:∀r,r∈b→r.Good)(hn:a.length+b.length≤36)(id c:Nat)(rows:T (List o8))(hid:m.get id=some (.cells 1 2 rows))(r0:rows.get 0=some [va])(r1:rows.get 1=some [vb])(n fu:Nat)(hfu:1000≤fu):
  ∃v' m',G9 KW fu (n+2) (.func 54) [.slice id 0 2 c] m=some [⟨v',m'⟩]∧Own m m' v' (a++b):=by
 rw [enter (sf:=f54) rfl rfl]
 obtain⟨fu,rfl⟩:∃k,fu=k+3:=⟨fu-3,by omega⟩
 obtain⟨s,hs⟩:∃s,s=a.length+b.length:=⟨_,rfl⟩
 obtain⟨v1,m1,g1,o1⟩:=PD hm hl s (by omega) n (fu+3)
 have hlt:id<m.next:=Mem.L9 hm hid
 obtain⟨v2,m2,g2,o2,k2⟩:=kR hl o1 (ha.ext o1.1) ga (by simp;omega)
 rw [List.nil_append] at o2
 obtain⟨v3,m3,g3,o3,k3⟩:=kR hl o2 (hb.ext o2.1) gb hn
 have q:∀{M:Mem},Ext m M→ld1 (M.get id) 0=some va∧ld1 (M.get id) 1=some vb:=fun {M} E=>by
  rw [E.old _ hlt,hid]
  exact⟨aS (rs:=1) (n:=2) (rows:=rows) (i:=0) (j:=0) (by omega) (by omega) r0,aS (rs:=1) (n:=2) (rows:=rows) (i:=1) (j:=0) (by omega) (by omega) r1⟩
 obtain⟨p0,p1⟩:=q (Ext.refl hm)
 obtain⟨p2,_⟩:=q o1.1
 obtain⟨_,p3⟩:=q o2.1
 have i0:∀(k:Nat→Option o8),idx 2 (.int .i64 0) k=k 0:=fun k=>R3 2 0 k (by omega)
 have i1:∀(k:Nat→Option o8),idx 2 (.int .i64 1) k=k 1:=fun k=>R3 2 1 k (by omega)
 have la:=ha.len
 have lb:=hb.len
 have e1:w64 (a.length:Int)=(a.length:Int):=aR (by omega) (by omega)
 have e2:=dU hs (by omega)
 have n1:¬ (a.length:Int)<0:=by omega
 have n2:¬ (s:Int)<0:=by omega
 refine⟨v3,m3,?_,o3⟩
 simp [f54,Wd,VZ,F3,trD,H9,w9,p8,l8,F7,i0,i1,p0,p1,p2,p3,la,lb,e1,e2,n1,n2,g1,g2,g3,show w64 1=1 from rfl,show w64 2=2 from rfl,o1.fs.pan,o2.fs.pan,o3.fs.pan]
end Go.Proofs.YtefodipjjofocaaGreatDoor.TT
namespace Go.Proofs.YtefodipjjofocaaGreatDoor.TT
open Go Go.AM
set_option linter.unusedSimpArgs false
set_option linter.unusedVariables false
set_option maxRecDepth 100000
set_option maxHeartbeats 8000000
theorem rH {M:Mem}{id off:Nat}{c:List o8}(hM:M.Ok)(hid:id<M.next)(hl:M.lim≤id)(hg:M.get id=some (D9 c))(ho:off<c.length){v:o8}(h1:K4 v=true):
  ∃N,(∀{β:Type} (k:Mem→Option β),storeAt M id off [v] k=k N)∧N.get id=some (D9 (c.set off v))∧sI id M N:=by
 refine⟨M.set id (D9 (c.set off v)),fun k=>?_,by rw [Mem.Z6 hM hid,if_pos rfl],Mem.Ok.set hM hid _,by simp,rfl,fun j hj hn=>by rw [Mem.Z6 hM hid,if_neg hn]⟩
 have ha:Q6 [v]=true:=by show bi (K4 v) true false=true;rw [h1];rfl
 rw [X7 hl ha,hg,A8 (by simp;omega) ho,O3]
 congr 2
 rw [List.set_eq_take_append_cons_drop,if_pos ho]
 rfl
theorem GH {M:Mem}{id:Nat}{c vs:List o8}(hM:M.Ok)(hid:id<M.next)(hl:M.lim≤id)(hg:M.get id=some (D9 c))(hc:c.length=vs.length)(h0:0<vs.length)(h1:Q6 vs=true):
  ∃N,(∀{β:Type} (k:Mem→Option β),storeAt M id 0 vs k=k N)∧N.get id=some (D9 vs)∧sI id M N:=by
 refine⟨M.set id (D9 vs),fun k=>?_,by rw [Mem.Z6 hM hid,if_pos rfl],Mem.Ok.set hM hid _,by simp,rfl,fun j hj hn=>by rw [Mem.Z6 hM hid,if_neg hn]⟩
 rw [X7 hl h1,hg,A8 (by omega) (by omega),O3]
 congr 2
 rw [List.take_zero,List.drop_of_length_le (by omega)]
 simp
structure Cp (r r':FR):Prop where
 a:r'.a=r.a
 b:r'.b=r.b
 l:r'.l=r.l
 f:∃va vb vl,r'.f={r.f with A:=va,B:=vb,L:=vl}
theorem Cv {M N:Mem}{id:Nat}{c:List o8}(hc:c.length=32)(hg:M.get id=some (D9 c))(X:sI id M N):Kp M N:=⟨X.next,fun i hi hn=>by
 by_cases h:i=id
 ·subst h
  have e:D9 c=.cells 32 1 (.nd .e c .e):=by show Blk.cells (len' c) 1 (.nd .e c .e)=_;rw [P8,hc]
  exact absurd (by rw [hg,e]) (hn 1 (.nd .e c .e))
 ·exact X.old i hi h⟩
theorem YD {m:Mem}{r:FR}(hm:m.Ok)(hl:m.lim≤m.next)(hr:gB m r)(hs:r.small=true)(n0 fu:Nat)(hfu:1000≤fu):
  ∃r' m',G9 KW fu (n0+2) (.func 74) [.agg r.f.cells] m=some [⟨.agg r'.f.cells,m'⟩]∧Ext m m'∧gB m' r'∧Cp r r':=by
 have hs':=hs
 simp only [FR.small,Bool.and_eq_true,decide_eq_true_eq] at hs'
 obtain⟨z,hz⟩:∃z:List o8,z=[.int .i64 0,.int .i64 0,.int .i64 0,.int .i64 0,.int .i64 0,.int .i64 0,.int .i64 0,.int .i64 0,.int .i64 0,.int .i64 0,.int .i64 0,.int .i64 0,.int .i64 0,.int .i64 0,.int .i64 0,.int .i64 0,.int .i64 0,.int .i64 0,.int .i64 0,.int .i64 0,.int .i64 0,.int .i64 0,.nilSlice,.nilSlice,.int .i64 0,.int .i64 0,.int .i64 0,.int .i64 0,.int .i64 0,.nilSlice,.int .i64 0,.int .i64 0]:=⟨_,rfl⟩
 have hzl:z.length=32:=by rw [hz];rfl
 have E0:=G7 hm [D9 r.f.cells,D9 z]
 have lim:∀{M:Mem},Ext m M→M.lim≤M.next:=fun E=>by rw [E.lim];have:=E.next;omega
 obtain⟨va,M1,g1,E1,hva⟩:=vP E0.ok (lim E0) (hr.a.ext E0) (by omega) n0 fu
 have E01:=E0.trans E1
 have q1:M1.get m.next=some (D9 r.f.cells):=by rw [E1.old _ (by simp),j5 hm];rfl
 have w1:M1.get (m.next+1)=some (D9 z):=by rw [E1.old _ (by simp),j6 hm];rfl
 obtain⟨vb,M2,g2,E2,hvb⟩:=vP E01.ok (lim E01) (hr.b.ext E01) (by omega) n0 fu
 have E02:=E01.trans E2
 have n1:m.next+2≤M1.next:=by have:=E1.next;simpa using this
 have n2:m.next+2≤M2.next:=Nat.le_trans n1 E2.next
 have q2:M2.get m.next=some (D9 r.f.cells):=by rw [E2.old _ (by omega)];exact q1
 have w2:M2.get (m.next+1)=some (D9 z):=by rw [E2.old _ (by omega)];exact w1
 have ha2:=hva.ext E2
 obtain⟨N1,s1,q3,X1⟩:=rH (off:=22) E02.ok (by omega) (by rw [E02.lim];exact hl) q2 (by simp) (v:=va) hva.K4
 have F1:=E02.uo X1 (Nat.le_refl _)
 have k1:=Cv (Fct.len _) q2 X1
 have c1:(r.f.cells.set 22 va).length=32:=by simp
 obtain⟨N2,s2,q4,X2⟩:=rH (off:=23) F1.ok (Nat.lt_of_lt_of_le (by omega) X1.next) (by rw [F1.lim];exact hl) q3 (by rw [c1];omega) (v:=vb) hvb.K4
 have F2:=F1.uo X2 (Nat.le_refl _)
 have k2:=Cv c1 q3 X2
 have c2:((r.f.cells.set 22 va).set 23 vb).length=32:=by simp
 have n3:m.next+2≤N2.next:=Nat.le_trans n2 (Nat.le_trans X1.next X2.next)
 have w3:N2.get (m.next+1)=some (D9 z):=by rw [X2.old _ (by have:=X1.next;omega) (by omega),X1.old _ (by omega) (by omega)];exact w2
 obtain⟨vl,M4,g3,E4,hvl⟩:=vP F2.ok (lim F2) (hr.l.ext F2) (by omega) n0 fu
 have F4:=F2.trans E4
 have q5:M4.get m.next=some (D9 ((r.f.cells.set 22 va).set 23 vb)):=by rw [E4.old _ (by omega)];exact q4
 have w4:M4.get (m.next+1)=some (D9 z):=by rw [E4.old _ (by omega)];exact w3
 have n4:m.next+2≤M4.next:=Nat.le_trans n3 E4.next
 obtain⟨N3,s3,q6,X3⟩:=rH (off:=29) F4.ok (by omega) (by rw [F4.lim];exact hl) q5 (by rw [c2];omega) (v:=vl) hvl.K4
 have F5:=F4.uo X3 (Nat.le_refl _)
 have k3:=Cv c2 q5 X3
 let r':FR:=⟨{r.f with A:=va,B:=vb,L:=vl},r.a,r.b,r.l⟩
 have e':((r.f.cells.set 22 va).set 23 vb).set 29 vl=r'.f.cells:=rfl
 rw [e'] at q6
 have w5:N3.get (m.next+1)=some (D9 z):=by rw [X3.old _ (by omega) (by omega)];exact w4
 have hW3:gB N3 r':=⟨iq k3 ((iq k2 (iq k1 ha2)).ext E4),iq k3 ((iq k2 (iq k1 hvb)).ext E4),iq k3 hvl,hr.ga,hr.gb,hr.nb⟩
 obtain⟨m',s4,q7,X4⟩:=GH (vs:=r'.f.cells) F5.ok (Nat.lt_of_lt_of_le (by omega) X3.next) (by rw [F5.lim];omega) w5 (by rw [hzl];simp) (by simp) hW3.one
 have F6:=F5.uo X4 (by omega)
 refine⟨r',m',?_,F6,hW3.keep (Cv hzl w5 X4),rfl,rfl,rfl,va,vb,vl,rfl⟩
 rw [enter (sf:=f74) rfl rfl]
 have pa:=fun {β:Type} (p:o8→β) q=>hva.pan p q
 have pb:=fun {β:Type} (p:o8→β) q=>hvb.pan p q
 have pl:=fun {β:Type} (p:o8→β) q=>hvl.pan p q
 have ca:=hva.cells
 have cb:=hvb.cells
 have cl:=hvl.cells
 have za:cK 100 va va=true:=iY hva 99
 have zb:cK 100 vb vb=true:=iY hvb 99
 have zc:cK 100 r.f.A r.f.A=true:=iY hr.a 99
 have zd:cK 100 r.f.B r.f.B=true:=iY hr.b 99
 have pr:=fun {β:Type} (p:o8→β) q=>hr.a.pan p q
 have pr2:=fun {β:Type} (p:o8→β) q=>hr.b.pan p q
 have ll:r'.f.cells.length=32:=rfl
 subst hz
 clear_value r'
 clear k1 k2 k3 X1 X2 X3 X4 F1 F2 F4 F5 F6 hva hvb hvl ha2 hW3 hs hs' E0 E01 E02 E1 E2 E4
 have u1:ld1 (some (D9 r.f.cells)) 22=some r.f.A:=by rw [vK];exact Fct.c22 _
 have u2:ld1 (some (D9 r.f.cells)) 23=some r.f.B:=by rw [vK];exact Fct.c23 _
 have u3:ld1 (some (D9 ((r.f.cells.set 22 va).set 23 vb))) 29=some r.f.L:=by rw [vK];rfl
 simp [f74,F3,trD,H9,w9,p8,l8,D5,D7,j5 hm,j6 hm,G6 hm hl,x9 hm hl,l9 hm,l5 hm,G5,r9,C8,A8,K4,u1,u2,u3,g1,g2,g3,q1,q4,q6,q7,s1,s2,s3,s4,pa,pb,pl,ca,cb,cl,za,zb,zc,zd,pr,pr2,ll]
end Go.Proofs.YtefodipjjofocaaGreatDoor.TT
namespace Go.Proofs.YtefodipjjofocaaGreatDoor.TT
open Go Go.AM
set_option linter.unusedSimpArgs false
set_option linter.unusedVariables false
set_option maxRecDepth 100000
set_option maxHeartbeats 8000000
theorem Cp.small {r r':FR}(h:Cp r r'):r'.small=r.small:=by simp only [FR.small,h.a,h.b,h.l]
theorem Cp.key {r r':FR}(h:Cp r r'):r'.key=r.key:=by
 obtain⟨_,_,_,va,vb,vl,e⟩:=h
 simp only [FR.key,e]
theorem Cp.no {r r':FR}(h:Cp r r'):r'.f.no=r.f.no:=by
 obtain⟨_,_,_,va,vb,vl,e⟩:=h
 rw [e]
theorem Cp.same {r r':FR}(h:Cp r r'):r'.same r=true:=by
 obtain⟨h1,h2,h3,va,vb,vl,e⟩:=h
 simp [FR.same,Z5,aj,nX,e,h1,h2,h3]
def CpP (l cs:List FR):Prop:=∀j (h:j<cs.length) (h':j<l.length),Cp l[j] cs[j]
theorem CpP.snoc {l cs:List FR}{r:FR}(h:CpP l cs)(hr:∀h':cs.length<l.length,Cp l[cs.length] r):CpP l (cs ++ [r]):=fun j hj hl=>by
 by_cases hc:j<cs.length
 ·rw [List.getElem_append_left hc];exact h j hc hl
 ·obtain rfl:j=cs.length:=by simp at hj;omega
  rw [List.getElem_append_right (by omega)]
  simpa using hr hl
theorem GI {m0:Mem}{x0:o8}{l:List FR}(hm0:m0.Ok)(hl0:m0.lim≤m0.next)(hx:dA m0 x0 l)(hw:∀r,r∈l→gB m0 r)(hg:∀r,r∈l→r.Good)(hs:∀r,r∈l→r.small=true)(hb:l.length≤36)(n0 fu:Nat)(hfu:1000≤fu)(n:Nat)(hn:n=l.length):
  ∀(s i:Nat),i+s=n→∀(N:Nat),s<N→∀(M:Mem) (v:o8) (cs:List FR),Own m0 M v cs→cs.length=i→CpP l cs→(∀c,c∈cs→gB M c)→∀(y3 y6:o8),
   ∃z6 v' M' cs',V9 (fun env m k=>JZ (G9 KW fu (n0+2)) fu none env m k) N (.nd (.nd (.nd (.nd .e .nilSlice .e) y3 .e) (.int .i64 ((i:Nat):Int)) (.nd .e v .e)) x0 (.nd (.nd .e x0 .e) (.int .i64 ((n:Nat):Int)) (.nd .e y6 .e))) M []=some [⟨.exit 0,(.nd (.nd (.nd (.nd .e .nilSlice .e) (.bool false) .e) (.int .i64 ((n:Nat):Int)) (.nd .e v' .e)) x0 (.nd (.nd .e x0 .e) (.int .i64 ((n:Nat):Int)) (.nd .e z6 .e))),M',[],none⟩]∧Own m0 M' v' cs'∧cs'.length=n∧CpP l cs'∧(∀c,c∈cs'→gB M' c):=by
 intro s
 induction s with
 | zero=>
  intro i hi N hN M v cs ho hc hp hf y3 y6
  obtain⟨N,rfl⟩:∃M,N=M+1:=⟨N-1,by omega⟩
  obtain rfl:i=n:=by omega
  refine⟨y6,v,M,cs,?_,ho,hc,hp,hf⟩
  rw [F7]
  simp [JZ,F3,trD,H9,w9,p8,l8]
 | succ s ih=>
  intro i hi N hN M v cs ho hc hp hf y3 y6
  obtain⟨N,rfl⟩:∃M,N=M+1:=⟨N-1,by omega⟩
  have hil:i<l.length:=by omega
  have E0:=ho.1
  have hm:M.Ok:=E0.ok
  have hl:M.lim≤M.next:=by rw [E0.lim];exact Nat.le_trans hl0 E0.next
  obtain⟨id,e1,hid,e2,_⟩:=(hx.ext E0).at hil
  have hr:=hw l[i] (List.getElem_mem hil)
  have hsm:=hs l[i] (List.getElem_mem hil)
  have hgd:=hg l[i] (List.getElem_mem hil)
  have E1:=G7 hm [D9 l[i].f.cells]
  obtain⟨r',M2,g2,E2,hr2,hcp⟩:=YD E1.ok (by simp;omega) ((hr.ext E0).ext E1) hsm n0 fu hfu
  have E3:Ext M2 (M2.new (D9 r'.f.cells)):=(Ext.refl E2.ok).new _
  have ho3:Own m0 (M2.new (D9 r'.f.cells)) v cs:=((ho.ext E1).ext E2).ext E3
  have hgr:r'.Good:=hr2.good (by rw [hcp.small,hsm])
  have hfs:dA (M2.new (D9 r'.f.cells)) (.slice M2.next 0 1 1) [r']:=.inr ⟨M2.next,.inl ⟨1,rfl⟩,by simp,.inr ⟨1,.nd .e r'.f.cells .e,by
   rw [Mem.Y5 E2.ok,if_pos rfl]
   show some (Blk.cells (len' r'.f.cells) 1 (.nd .e r'.f.cells .e))=_
   rw [P8,Fct.len],by simp,fun j hj=>by
   obtain rfl:j=0:=by simp at hj;omega
   rfl⟩⟩
  obtain⟨v',M4,hA,ho4,k4⟩:=kR hl0 ho3 hfs (fun r h=>by simp at h;rw [h];exact hgr) (by simp;omega)
  have hkp:Kp M M4:=((Kp.of E1).trans ((Kp.of E2).trans (Kp.of E3))).trans k4
  obtain⟨q,hq⟩:∃q,q=i+1:=⟨_,rfl⟩
  obtain⟨z6,v5,M5,cs5,g5,ho5,hc5,hp5,hf5⟩:=ih q (by omega) N (by omega) M4 v' (cs ++ [r']) ho4 (by simp;omega) (hp.snoc fun h'=>by
   have e:l[cs.length]=l[i]:=by congr 1
   rw [e];exact hcp) (fun c hc'=>by
   rcases List.mem_append.1 hc' with h | h
   ·exact (hf c h).keep hkp
   ·simp at h;rw [h];exact (hr2.ext E3).keep k4) (.bool true) (.ptr M.next 0)
  refine⟨z6,v5,M5,cs5,?_,ho5,hc5,hp5,hf5⟩
  have e3:=dB hq (by omega)
  have hin:i<n:=by omega
  have hbs:∀z ps ls env nid,List.length z=32→I6 32 1 z ps ls env nid=ob (lay ps ls env z) fun cells=>if cells.length=32 then some (.slice nid 0 1 1,some (D9 cells)) else none:=fun z ps ls env nid h=>Y6 32 z ps ls env nid h
  have hp4:=fun {β:Type} (p:o8→β) q=>ho4.fs.pan p q
  have hgn:=hgd.one
  simp only [D5] at hA
  rw [F7,← g5]
  generalize l[i]=x at *
  clear ih hp hf hp5 hf5 hkp hcp ho ho3 ho5 hr2 hr
  simp [JZ,F3,trD,H9,w9,p8,l8,D5,D7,j5 hm,j6 hm,G6 hm hl,x9 hm hl,l9 hm,l5 hm,G5,r9,C8,A8,K4,hin,e1,e2,e3,g2,hbs,hA,hp4,hgn,Fct.len]
end Go.Proofs.YtefodipjjofocaaGreatDoor.TT
namespace Go.Proofs.YtefodipjjofocaaGreatDoor.TT
open Go Go.AM
set_option linter.unusedSimpArgs false
set_option linter.unusedVariables false
set_option maxRecDepth 100000
set_option maxHeartbeats 16000000
theorem YE {m:Mem}{v:o8}{l:List FR}(hm:m.Ok)(hl:m.lim≤m.next)(hx:dA m v l)(hw:∀r,r∈l→gB m r)(hs:∀r,r∈l→r.small=true)(hb:l.length≤36)(n0 fu:Nat)(hfu:1000≤fu):
  ∃v' m' cs,G9 KW fu (n0+3) (.func 55) [v] m=some [⟨v',m'⟩]∧Own m m' v' cs∧cs.length=l.length∧CpP l cs∧(∀c,c∈cs→gB m' c):=by
 have hlen:=hx.len
 obtain⟨z6,v',m',cs,g,h1,h2,h3,h4⟩:=GI hm hl hx hw (fun r hr=>(hw r hr).good (hs r hr)) hs hb n0 fu hfu l.length rfl l.length 0 (by omega) fu (by omega) m .nilSlice [] (Own.nil (Ext.refl hm)) rfl (fun j h=>by simp at h) (fun c h=>by simp at h) .undef .undef
 refine⟨v',m',cs,?_,h1,h2,h3,h4⟩
 rw [show ((0:Nat):Int)=0 from rfl] at g
 rw [enter (sf:=f55) rfl rfl]
 simp [f55,F3,trD,H9,w9,p8,l8,hlen,g]
theorem nC (es n:Nat)(x i:OF)(ls:List o8)(env:T o8):Bu es n x i ls env=wm (x ls env) fun cs=>idx n (i ls env) fun k=>cs[k*es]?:=by
 show wm (x ls env) (fun cs=>idx n (i ls env) fun k=>vX (Nat.mul k es) cs)=_
 simp only [fM]
 rfl
def MV (a b:List FR)(e:Int):Prop:=(e≠0∧∃i,DF a e i)∨((∃i,DF a 0 i)∧((e≠0∧∃i,DF b e i)∨((∃i,DF b 0 i)∧∃i,DF (a++b) e i)))
theorem MV.uniq {a b:List FR}{e e':Int}(h:MV a b e)(h':MV a b e'):e=e':=by
 rcases h with⟨n,i,h⟩ | ⟨⟨j,h0⟩,h⟩<;>rcases h' with⟨n',i',h'⟩ | ⟨⟨j',h0'⟩,h'⟩
 ·exact (h.uniq h').1
 ·exact absurd (h.uniq h0').1 n
 ·exact absurd (h'.uniq h0).1 n'
 ·rcases h with⟨n,i,h⟩ | ⟨⟨j,h1⟩,i,h⟩<;>rcases h' with⟨n',i',h'⟩ | ⟨⟨j',h1'⟩,i',h'⟩
  ·exact (h.uniq h').1
  ·exact absurd (h.uniq h1').1 n
  ·exact absurd (h'.uniq h1).1 n'
  ·exact (h.uniq h').1
theorem YF {m:Mem}{va vb:o8}{a b:List FR}(hm:m.Ok)(hl:m.lim≤m.next)(ha:dA m va a)(hb:dA m vb b)(wa:∀r,r∈a→gB m r)(wb:∀r,r∈b→gB m r)(sa:∀r,r∈a→r.small=true)(sb:∀r,r∈b→r.small=true)(hn:a.length+b.length≤36)(n0 fu:Nat)(hfu:1000≤fu):
  ∃v' e m',G9 KW fu (n0+45) (.func 22) [va,vb] m=some [⟨.tuple [v',.int .i64 e],m'⟩]∧Ext m m'∧MV a b e∧(e≠0→v'=.nilSlice)∧
   (e=0→∃ds cs,dA m' v' cs∧(∀c,c∈cs→gB m' c)∧Dd (a++b) ds∧cs.length=ds.length∧CpP ds cs):=by
 have wab:∀r,r∈a++b→gB m r:=fun r hr=>by
  rcases List.mem_append.1 hr with h | h
  ·exact wa r h
  ·exact wb r h
 have sab:∀r,r∈a++b→r.small=true:=fun r hr=>by
  rcases List.mem_append.1 hr with h | h
  ·exact sa r h
  ·exact sb r h
 have lim:∀{M:Mem},Ext m M→M.lim≤M.next:=fun E=>by rw [E.lim];have:=E.next;omega
 have hB:∀(ps:List (Nat×Nat×OF)) ls env nid,I6 1 2 [.nilSlice] ps ls env nid=ob (lay ps ls env [.nilSlice,.nilSlice]) fun cells=>dL 1 2 cells fun b=>some (.slice nid 0 2 2,some b):=fun _ _ _ _=>rfl
 have hR:∀(x y:o8) (k:Blk→Option (o8×Option Blk)),dL 1 2 [x,y] k=k (.cells 1 2 (T.ofList [[x],[y]])):=fun _ _ _=>rfl
 have cat:∀{M:Mem},Ext m M→∃v' M',G9 KW fu (n0+44) (.func 54) [.slice M.next 0 2 2] (M.new (.cells 1 2 (T.ofList [[va],[vb]])))=some [⟨v',M'⟩]∧Ext M M'∧dA M' v' (a++b):=fun {M} E=>by
  have E':Ext M (M.new (.cells 1 2 (T.ofList [[va],[vb]]))):=(Ext.refl E.ok).new _
  have EE:=E.trans E'
  obtain⟨v',M',g,o⟩:=YC EE.ok (lim EE) (ha.ext EE) (hb.ext EE) (fun r h=>(wa r h).good (sa r h)) (fun r h=>(wb r h).good (sb r h)) hn M.next 2 _ (by rw [Mem.Y5 E.ok,if_pos rfl]) rfl rfl (n0+42) fu hfu
  exact⟨v',M',g,E'.trans o.1,o.fs⟩
 obtain⟨v1,m1,g1,E1,h1⟩:=cat (Ext.refl hm)
 obtain⟨ca,ia,m2,g2,E2,V2⟩:=Pk E1.ok (lim E1) (ha.ext E1) (fun i h=>(wa _ (List.getElem_mem h)).ext E1) (by omega) (fun i h=>sa _ (List.getElem_mem h)) (n0+32) fu hfu
 have E02:=E1.trans E2
 obtain⟨cb,ib,m3,g3,E3,V3⟩:=Pk E02.ok (lim E02) (hb.ext E02) (fun i h=>(wb _ (List.getElem_mem h)).ext E02) (by omega) (fun i h=>sb _ (List.getElem_mem h)) (n0+32) fu hfu
 have E03:=E02.trans E3
 obtain⟨cc,ic,m4,g4,E4,V4⟩:=Pk E03.ok (lim E03) ((h1.ext E2).ext E3) (fun i h=>(wab _ (List.getElem_mem h)).ext E03) (by simp;omega) (fun i h=>sab _ (List.getElem_mem h)) (n0+32) fu hfu
 have E04:=E03.trans E4
 have la:=ha.cells
 have lb:=hb.cells
 have l1:=h1.cells
 have p1:=fun {β:Type} (p:o8→β) q=>h1.pan p q
 have i0:∀(k:Nat→Option o8),idx 3 (.int .i64 0) k=k 0:=fun k=>R3 3 0 k (by omega)
 have i1:∀(k:Nat→Option o8),idx 3 (.int .i64 1) k=k 1:=fun k=>R3 3 1 k (by omega)
 have i2:∀(k:Nat→Option o8),idx 3 (.int .i64 2) k=k 2:=fun k=>R3 3 2 k (by omega)
 simp only [D5] at g1
 obtain⟨fu,rfl⟩:∃k,fu=k+4:=⟨fu-4,by omega⟩
 by_cases ea:ca=0
 ·subst ea
  by_cases eb:cb=0
  ·subst eb
   by_cases ec:cc=0
   ·subst ec
    obtain⟨v5,m5,g5,E5,h5⟩:=cat E04
    have E05:=E04.trans E5
    obtain⟨v6,m6,ds,g6,o6,hd⟩:=YB E05.ok (lim E05) h5 (fun r h=>(wab r h).good (sab r h)) (by simp;omega) n0 (fu+4) hfu
    have E06:=E05.trans o6.1
    have hdl:ds.length≤36:=by
     obtain⟨_,⟨_,rfl⟩ | ⟨_,_,rfl,_⟩ | ⟨_,_,_,h⟩⟩:=o6
     ·simp
     ·simp
     ·exact h.big
    obtain⟨v7,m7,cs,g7,o7,hc1,hc2,hc3⟩:=YE E06.ok (lim E06) o6.fs (fun r h=>(wab r (hd.sub r h)).ext E06) (fun r h=>sab r (hd.sub r h)) hdl (n0+41) (fu+4) hfu
    refine⟨v7,0,m7,?_,E06.trans o7.1,.inr ⟨⟨_,V2⟩,.inr ⟨⟨_,V3⟩,_,V4⟩⟩,fun h=>absurd rfl h,fun _=>⟨ds,cs,o7.fs,hc3,hd,hc1,hc2⟩⟩
    have p5:=fun {β:Type} (p:o8→β) q=>h5.pan p q
    have p6:=fun {β:Type} (p:o8→β) q=>o6.fs.pan p q
    have p7:=fun {β:Type} (p:o8→β) q=>o7.fs.pan p q
    simp only [D5] at g5
    rw [enter (sf:=f22) rfl rfl]
    simp [f22,FW,F3,trD,H9,w9,p8,l8,D5,G5,F7,hB,hR,nC,i0,i1,i2,g1,g2,g3,g4,g5,g6,g7,la,lb,l1,p1,p5,p6,p7,show w64 1=1 from rfl,show w64 2=2 from rfl,show w64 3=3 from rfl]
   ·refine⟨.nilSlice,cc,m4,?_,E04,.inr ⟨⟨_,V2⟩,.inr ⟨⟨_,V3⟩,_,V4⟩⟩,fun _=>rfl,fun h=>absurd h ec⟩
    rw [enter (sf:=f22) rfl rfl]
    simp [f22,FW,F3,trD,H9,w9,p8,l8,D5,G5,F7,hB,hR,nC,i0,i1,i2,g1,g2,g3,g4,la,lb,l1,p1,ec,show w64 1=1 from rfl,show w64 2=2 from rfl,show w64 3=3 from rfl]
  ·refine⟨.nilSlice,cb,m3,?_,E03,.inr ⟨⟨_,V2⟩,.inl ⟨eb,_,V3⟩⟩,fun _=>rfl,fun h=>absurd h eb⟩
   rw [enter (sf:=f22) rfl rfl]
   simp [f22,FW,F3,trD,H9,w9,p8,l8,D5,G5,F7,hB,hR,nC,i0,i1,i2,g1,g2,g3,la,lb,l1,p1,eb,show w64 1=1 from rfl,show w64 2=2 from rfl,show w64 3=3 from rfl]
 ·refine⟨.nilSlice,ca,m2,?_,E02,.inl ⟨ea,_,V2⟩,fun _=>rfl,fun h=>absurd h ea⟩
  rw [enter (sf:=f22) rfl rfl]
  simp [f22,FW,F3,trD,H9,w9,p8,l8,D5,G5,F7,hB,hR,nC,i0,i1,i2,g1,g2,la,lb,l1,p1,ea,show w64 1=1 from rfl,show w64 2=2 from rfl,show w64 3=3 from rfl]
end Go.Proofs.YtefodipjjofocaaGreatDoor.TT
namespace Go.Proofs.YtefodipjjofocaaGreatDoor.TT
open Go Go.AM
set_option linter.unusedSimpArgs false
set_option linter.unusedVariables false
set_option maxRecDepth 100000
set_option maxHeartbeats 16000000
def Rd (m:Mem)(x:o8)(fs:List FR):Prop:=AM.lenOf x=some fs.length∧U2 m 32 fs.length x=some (cellsOf fs).flatten
theorem dA.rd {m:Mem}{v:o8}{fs:List FR}(h:dA m v fs):Rd m v fs:=⟨h.lenOf,h.read⟩
theorem rJ {m0 m:Mem}{v x:o8}{l fs:List FR}(hm0:m0.lim≤m0.next)(h:Own m0 m v l)(hx:Rd m x fs)(hg:∀r,r∈fs→r.Good)(hb:l.length+fs.length≤36):
  ∃v' m',(∀(s y:OF) (cf:L8) (ls:List o8) (env:T o8),s ls env=v→y ls env=x→dG 32 304 s y cf ls env m=some [⟨v',m'⟩])∧Own m0 m' v' (l++fs)∧Kp m m':=by
 obtain⟨v',m',h1,h2,h3⟩:=zJ hm0 h hg hb
 refine⟨v',m',fun s y cf ls env hs hy=>?_,h2,h3⟩
 show ob (AM.lenOf (y ls env)) (fun n=>ob (U2 m 32 n (y ls env)) fun new=>lX m 32 304 n new (s ls env))=_
 rw [hy,hs,hx.1,O3,hx.2,O3,h1]
theorem Ar.PE {m:Mem}{id:Nat}{l:List FR}(h:Ar m id l){k:Nat}(hk:k<l.length):Rd m (.sliceU id (k*32) (l.length-k) 32) (l.drop k):=by
 refine⟨by show some (l.length-k)=_;simp,?_⟩
 obtain⟨p,hl,c,t,c',h1,h2,h0,h3,h4⟩:=h.fa
 obtain⟨j,hj⟩:∃j,(l.drop k).length=j+1:=⟨l.length-k-1,by simp;omega⟩
 have e:Nat.mul (j+1) 32=31+j*32+1:=by show (j+1)*32=_;omega
 show U6 m id (k*32) (Nat.mul (l.drop k).length 32)=_
 rw [hj,e]
 show X0 (m.get id) (fun rs k' rows=>O1 rs k' rows (31+j*32+1) (k*32))=_
 rw [h1,bC]
 have:=iZ (rs:=32) (n:=c) (rows:=t) (l:=l.map fun r=>r.f.cells) hl h4 h2 (j+1) k (by simp at hj ⊢;omega)
 rw [show (j+1)*32=31+j*32+1 from by omega,← List.map_drop] at this
 exact this
theorem Ar.GJ {m:Mem}{id:Nat}{l:List FR}(h:Ar m id l){k:Nat}(hk:k≤l.length):dA m (.sliceU id 0 k 32) (l.take k):=by
 obtain⟨p,hl,c,t,c',h1,h2,h0,h3,h4⟩:=h.fa
 have e:(l.take k).length=k:=by simp;omega
 refine .inr ⟨id,.inr (by rw [e]),h.lt,.inr ⟨c,t,h1,by rw [e];simp at h2;omega,fun i hi=>?_⟩⟩
 have hi':i<l.length:=by omega
 rw [h4 i (by simpa using hi')];simp
def St (m:Mem)(v:o8)(l:List FR):Prop:=(v=.nilSlice∧l=[])∨∃id,v=.sliceU id 0 l.length 32∧Ar m id l∧0<l.length
theorem St.ext {m m':Mem}{v:o8}{l:List FR}(h:St m v l)(e:Ext m m'):St m' v l:=by
 rcases h with h | ⟨id,h1,h2,h3⟩
 ·exact .inl h
 ·exact .inr ⟨id,h1,h2.ext e,h3⟩
theorem St.fs {m:Mem}{v:o8}{l:List FR}(h:St m v l):dA m v l:=by
 rcases h with⟨rfl,rfl⟩ | ⟨id,rfl,h2,h3⟩
 ·exact .inl ⟨rfl,rfl⟩
 ·have:=h2.GJ (k:=l.length) (Nat.le_refl _)
  rwa [List.take_of_length_le (Nat.le_refl _)] at this
theorem Own.st {m0 m:Mem}{v:o8}{l:List FR}(h:Own m0 m v l)(hl:l≠[]):St m v l:=by
 obtain⟨_,⟨_,h⟩ | ⟨_,_,h,_⟩ | ⟨id,_,h1,h2⟩⟩:=h
 ·exact absurd h hl
 ·exact absurd h hl
 ·exact .inr ⟨id,h1,h2,List.length_pos_iff.2 hl⟩
theorem St.good {m:Mem}{v:o8}{l:List FR}(h:St m v l):∀r,r∈l→r.Good:=by
 rcases h with⟨_,rfl⟩ | ⟨id,_,h2,_⟩
 ·intro r hr;simp at hr
 ·exact h2.good
theorem KC {id n:Nat}(hn:0<n)(x a:OF)(ls:List o8)(env:T o8)(nid:Nat)(hx:x ls env=.sliceU id 0 n 32)(ha:a ls env=.int .i64 (n:Int)):lSl 32 x (some a) none ls env nid=some (.sliceU nid 0 0 32,some (.tail id)):=by
 show kT (a ls env) (fun l=>O7 nid 32 (x ls env) l none)=_
 rw [ha,hx,vI,pX]
 show bi (Nat.ble n n) (bi (Nat.ble n n) (bi (Nat.beq 32 32) (bi (Nat.blt n n) _ (bi (Nat.beq n 0) _ (some (o8.sliceU nid 0 0 32,some (Blk.tail id))))) none) none) none=_
 obtain⟨k,rfl⟩:∃k,n=k+1:=⟨n-1,by omega⟩
 rw [show Nat.ble (k+1) (k+1)=true from Nat.ble_eq_true_of_le (Nat.le_refl _),show Nat.blt (k+1) (k+1)=false from Bool.eq_false_iff.2 fun e=>absurd (Nat.blt_eq.mp e) (Nat.lt_irrefl _)]
 rfl
theorem YG {m:Mem}{v:o8}{l:List FR}{x:FR}(hm:m.Ok)(hl:m.lim≤m.next)(h:St m v l)(hx:x.Good)(k:Nat)(hk:k≤l.length)(hb:l.length+1≤36)(n fu:Nat):
  ∃v' m',G9 KW fu (n+1) (.func 49) [v,(.int .i64 ((k:Nat):Int)),.agg x.f.cells] m=some [⟨v',m'⟩]∧Ext m m'∧St m' v' (l.take k ++ [x]++l.drop k):=by
 rw [enter (sf:=f49) rfl rfl]
 have lim:∀{M:Mem},Ext m M→M.lim≤M.next:=fun E=>by rw [E.lim];have:=E.next;omega
 have hbs:∀z ps ls env nid,List.length z=32→I6 32 1 z ps ls env nid=ob (lay ps ls env z) fun cells=>if cells.length=32 then some (.slice nid 0 1 1,some (D9 cells)) else none:=fun z ps ls env nid h=>Y6 32 z ps ls env nid h
 have hg:=h.good
 have E0:=G7 hm [D9 x.f.cells]
 have hone:∀{M:Mem},M.Ok→dA (M.new (D9 x.f.cells)) (.slice M.next 0 1 1) [x]:=fun {M} hM=>.inr ⟨M.next,.inl ⟨1,rfl⟩,by simp,.inr ⟨1,.nd .e x.f.cells .e,by
   rw [Mem.Y5 hM,if_pos rfl]
   show some (Blk.cells (len' x.f.cells) 1 (.nd .e x.f.cells .e))=_
   rw [P8,Fct.len],by simp,fun j hj=>by
   obtain rfl:j=0:=by simp at hj;omega
   rfl⟩⟩
 have main:∀(w1:o8),dA m w1 (l.take k)→∃u1 M1 u2 M2,(∀(s y:OF) (cf:L8) (ls:List o8) (env:T o8),s ls env=.nilSlice→y ls env=w1→dG 32 304 s y cf ls env (ext m [D9 x.f.cells])=some [⟨u1,M1⟩])∧
   M1.get m.next=some (D9 x.f.cells)∧(∀(s y:OF) (cf:L8) (ls:List o8) (env:T o8),s ls env=u1→y ls env=.slice M1.next 0 1 1→dG 32 304 s y cf ls env (ext M1 [D9 x.f.cells])=some [⟨u2,M2⟩])∧Own (ext m [D9 x.f.cells]) M2 u2 (l.take k ++ [x])∧
   (∀{β:Type} (p:o8→β) q,gW u1 p q=q)∧M1.Ok:=fun w1 hw1=>by
  obtain⟨u1,M1,a1,o1,k1⟩:=rJ (lim E0) (Own.nil (Ext.refl E0.ok)) (hw1.ext E0).rd (fun r hr=>hg r (List.mem_of_mem_take hr)) (by simp;omega)
  rw [List.nil_append] at o1
  have hM1:M1.Ok:=o1.1.ok
  have o1':=o1.ext ((Ext.refl hM1).new (D9 x.f.cells))
  obtain⟨u2,M2,a2,o2,k2⟩:=rJ (lim E0) o1' (hone hM1).rd (fun r hr=>by simp at hr;rw [hr];exact hx) (by simp;omega)
  exact⟨u1,M1,u2,M2,a1,by rw [o1.1.old _ (by simp),j5 hm];rfl,a2,o2,fun p q=>o1.fs.pan p q,hM1⟩
 have hne:l.take k ++ [x]++l.drop k≠[]:=by simp
 rcases h with⟨rfl,rfl⟩ | ⟨id,rfl,ha,hpos⟩
 ·obtain⟨u1,M1,u2,M2,a1,q1,a2,o2,p1,hM1⟩:=main .nilSlice (.inl ⟨rfl,by simp⟩)
  obtain rfl:k=0:=by simpa using hk
  obtain⟨u3,M3,a3,o3,k3⟩:=rJ (x:=.nilSlice) (fs:=[]) (lim E0) o2 ⟨rfl,rfl⟩ (fun r hr=>by simp at hr) (by simp)
  have s1:∀(x a:OF) ls env nid,x ls env=.nilSlice→a ls env=.int .i64 0→lSl 32 x none (some a) ls env nid=some (.nilSlice,none):=fun x a ls env nid hx ha=>by
   show kT (a ls env) (fun h=>O7 nid 32 (x ls env) 0 (some h))=_
   rw [ha,hx];rfl
  have s2:∀(x a:OF) ls env nid,x ls env=.nilSlice→a ls env=.int .i64 0→lSl 32 x (some a) none ls env nid=some (.nilSlice,none):=fun x a ls env nid hx ha=>by
   show kT (a ls env) (fun h=>O7 nid 32 (x ls env) h none)=_
   rw [ha,hx];rfl
  refine⟨u3,M3,?_,E0.trans o3.1,by simpa using o3.st (by simp)⟩
  have p2:=fun {β:Type} (p:o8→β) q=>o2.fs.pan p q
  have p3:=fun {β:Type} (p:o8→β) q=>o3.fs.pan p q
  clear main o2 o3
  simp [f49,F3,trD,H9,w9,p8,l8,D5,D7,j5 hm,j6 hm,G6 hm hl,x9 hm hl,l9 hm,l5 hm,G5,r9,C8,A8,K4,hbs,s1,s2,a1,a2,a3,q1,p1,p2,p3,Fct.len]
 ·obtain⟨u1,M1,u2,M2,a1,q1,a2,o2,p1,hM1⟩:=main _ (ha.GJ hk)
  have hT:=fun (x a:OF) ls env nid hx hy=>GA (id:=id) hk hpos x a ls env nid hx hy
  have p2:=fun {β:Type} (p:o8→β) q=>o2.fs.pan p q
  have E2:=E0.trans o2.1
  by_cases hkl:k<l.length
  ·obtain⟨u3,M3,a3,o3,k3⟩:=rJ (lim E0) o2 ((ha.ext E2).PE hkl) (fun r hr=>hg r (List.mem_of_mem_drop hr)) (by simp;omega)
   have hF:=fun (x a:OF) ls env nid hx hy=>vU (id:=id) hkl x a ls env nid hx hy
   refine⟨u3,M3,?_,E0.trans o3.1,o3.st hne⟩
   have p3:=fun {β:Type} (p:o8→β) q=>o3.fs.pan p q
   clear main o2 o3
   simp [f49,F3,trD,H9,w9,p8,l8,D5,D7,j5 hm,j6 hm,G6 hm hl,x9 hm hl,l9 hm,l5 hm,G5,r9,C8,A8,K4,hbs,hT,hF,a1,a2,a3,q1,p1,p2,p3,Fct.len]
  ·obtain rfl:k=l.length:=by omega
   have o2':=o2.ext ((Ext.refl o2.1.ok).new (.tail id))
   obtain⟨u3,M3,a3,o3,k3⟩:=rJ (x:=.sliceU M2.next 0 0 32) (fs:=[]) (lim E0) o2' ⟨rfl,rfl⟩ (fun r hr=>by simp at hr) (by simp;omega)
   have hF:=fun (x a:OF) ls env nid hx hy=>KC (id:=id) hpos x a ls env nid hx hy
   refine⟨u3,M3,?_,E0.trans o3.1,by simpa using o3.st (by simp)⟩
   have p3:=fun {β:Type} (p:o8→β) q=>o3.fs.pan p q
   simp only [D5] at a3
   clear main o2 o3 o2'
   simp [f49,F3,trD,H9,w9,p8,l8,D5,D7,j5 hm,j6 hm,G6 hm hl,x9 hm hl,l9 hm,l5 hm,G5,r9,C8,A8,K4,hbs,hT,hF,a1,a2,a3,q1,p1,p2,p3,Fct.len]
end Go.Proofs.YtefodipjjofocaaGreatDoor.TT
namespace Go.Proofs.YtefodipjjofocaaGreatDoor.TT
open Go Go.AM
set_option linter.unusedSimpArgs false
set_option linter.unusedVariables false
set_option maxRecDepth 100000
set_option maxHeartbeats 16000000
theorem DX {x y:FR}(hx:x.Good)(hy:y.Good):x.before y=decide (x.key<y.key):=by
 have h1:-9223372036854775808≤x.f.no∧x.f.no<9223372036854775808:=hx.no
 have h2:-9223372036854775808≤y.f.no∧y.f.no<9223372036854775808:=hy.no
 rw [Bool.eq_iff_iff]
 simp only [FR.before,Bool.or_eq_true,Bool.and_eq_true,decide_eq_true_eq]
 unfold FR.key
 constructor
 ·rintro (h | ⟨h,h'⟩)<;>omega
 ·intro h
  by_cases c:x.f.room<y.f.room
  ·exact .inl c
  ·exact .inr ⟨by omega,by omega⟩
theorem GK {x0 x1 vb vo:o8}{l ou:List FR}(hg:∀r,r∈l→r.Good)(ho:∀r,r∈ou→r.Good)(hn:ou.length≤36)(hl:l.length≤36)(n0 fu:Nat)(hfu:1000≤fu)(i:Nat)(hi:i<l.length)(y4 y8:o8):
  ∀(s t:Nat),t+s=ou.length→∀(N:Nat),s<N→∀(M:Mem),M.Ok→M.lim≤M.next→dA M vb l→dA M vo ou→∀(y7:o8),
   ∃t' M',V9 (fun env m k=>FX (G9 KW fu (n0+1)) fu none env m k) N (.nd (.nd (.nd (.nd .e y7 .e) vb .e) x1 (.nd (.nd .e .nilSlice .e) (.int .i64 ((t:Nat):Int)) .e)) x0 (.nd (.nd (.nd .e y8 .e) y4 .e) (.int .i64 ((i:Nat):Int)) (.nd .e vo .e))) M []=some [⟨.exit 2,(.nd (.nd (.nd (.nd .e (.bool false) .e) vb .e) x1 (.nd (.nd .e .nilSlice .e) (.int .i64 ((t':Nat):Int)) .e)) x0 (.nd (.nd (.nd .e y8 .e) y4 .e) (.int .i64 ((i:Nat):Int)) (.nd .e vo .e))),M',[],none⟩]∧Ext M M'∧t≤t'∧t'≤ou.length∧
    (∀k (h:k<ou.length),t≤k→k<t'→ou[k].key<l[i].key)∧(∀h:t'<ou.length,¬ ou[t'].key<l[i].key):=by
 intro s
 induction s with
 | zero=>
  intro t ht N hN M hm hlm hb hv y7
  obtain⟨N,rfl⟩:∃M,N=M+1:=⟨N-1,by omega⟩
  have ll:=hv.len
  have hlt:¬ t<ou.length:=by omega
  refine⟨t,M,?_,Ext.refl hm,Nat.le_refl _,by omega,fun k h h1 h2=>by omega,fun h=>absurd h hlt⟩
  rw [F7]
  simp [FX,F3,trD,H9,w9,p8,l8,ll,hlt]
 | succ s ih=>
  intro t ht N hN M hm hlm hb hv y7
  obtain⟨N,rfl⟩:∃M,N=M+1:=⟨N-1,by omega⟩
  have ll:=hv.len
  have hlt:t<ou.length:=by omega
  obtain⟨p,e1,hp,e2,e3,e4,_⟩:=hv.at hlt
  obtain⟨q,d1,hq,d2,d3,d4,_⟩:=hb.at hi
  have gt:=ho _ (List.getElem_mem hlt)
  have gi:=hg _ (List.getElem_mem hi)
  obtain⟨M1,g1,E1⟩:=Yx hm hlm n0 fu ou[t] l[i]
  have z1:=gt.rf
  have z2:=gi.rf
  have hk:=DX gt gi
  cases hbf:decide (ou[t].key<l[i].key) with
  | false=>
   rw [hbf] at hk
   refine⟨t,M1,?_,E1,Nat.le_refl _,by omega,fun k h h1 h2=>by omega,fun _=>by simpa using hbf⟩
   rw [F7]
   clear ih hbf
   generalize ou[t]=x at *
   generalize l[i]=y at *
   simp [FX,F3,trD,H9,w9,p8,l8,ll,hlt,e1,e2,d1,d2,g1,hk,z1,z2]
  | true=>
   rw [hbf] at hk
   obtain⟨t1,ht1⟩:∃t1,t1=t+1:=⟨_,rfl⟩
   obtain⟨t',M',g,E2,h1,h2,h3,h4⟩:=ih t1 (by omega) N (by omega) M1 E1.ok (by rw [E1.lim];exact Nat.le_trans hlm E1.next) (hb.ext E1) (hv.ext E1) (.bool true)
   refine⟨t',M',?_,E1.trans E2,by omega,h2,fun k h hk1 hk2=>?_,h4⟩
   ·have e5:=dB ht1 (by omega)
    rw [F7,← g]
    clear ih hbf h3 h4
    generalize ou[t]=x at *
    generalize l[i]=y at *
    simp [FX,F3,trD,H9,w9,p8,l8,ll,hlt,e1,e2,d1,d2,g1,hk,z1,z2,e5]
   ·by_cases hkt:k=t
    ·subst hkt;simpa using hbf
    ·exact h3 k h (by omega) hk2
structure Di (l:List FR)(i:Nat)(ou:List FR):Prop where
 st:∀(a b:Nat) (ha:a<ou.length) (hb:b<ou.length),a<b→ou[a].key<ou[b].key
 sub:∀r,r∈ou→r∈l
 cov:∀j (h:j<l.length),j<i→∃s,s∈ou∧s.key=l[j].key
 len:ou.length≤i
theorem Di.skip {l ou:List FR}{i t:Nat}(h:Di l i ou)(hi:i<l.length)(ht:t<ou.length)(he:ou[t].key=l[i].key):Di l (i+1) ou:=
 ⟨h.st,h.sub,fun j hj hji=>by
  by_cases hjj:j=i
  ·subst hjj;exact⟨_,List.getElem_mem ht,he⟩
  ·exact h.cov j hj (by omega),by have:=h.len;omega⟩
theorem Di.put {l ou:List FR}{i t:Nat}(h:Di l i ou)(hi:i<l.length)(ht:t≤ou.length)(h1:∀k (h:k<ou.length),k<t→ou[k].key<l[i].key)(h2:∀h:t<ou.length,l[i].key<ou[t].key):Di l (i+1) (ou.take t ++ [l[i]]++ou.drop t):=by
 have hlen:(ou.take t ++ [l[i]]++ou.drop t).length=ou.length+1:=by simp;omega
 have at':∀k (hk:k<(ou.take t ++ [l[i]]++ou.drop t).length),(k<t∧∃h:k<ou.length,(ou.take t ++ [l[i]]++ou.drop t)[k]=ou[k])∨(k=t∧(ou.take t ++ [l[i]]++ou.drop t)[k]=l[i])∨(t<k∧∃h:k-1<ou.length,(ou.take t ++ [l[i]]++ou.drop t)[k]=ou[k-1]):=fun k hk=>by
  by_cases c1:k<t
  ·refine .inl ⟨c1,by omega,?_⟩
   rw [List.getElem_append_left (by simp;omega),List.getElem_append_left (by simp;omega),List.getElem_take]
  ·by_cases c2:k=t
   ·subst c2
    refine .inr (.inl ⟨rfl,?_⟩)
    rw [List.getElem_append_left (by simp;omega),List.getElem_append_right (by simp;omega)]
    simp
   ·have hk':k-1<ou.length:=by omega
    refine .inr (.inr ⟨by omega,hk',?_⟩)
    rw [List.getElem_append_right (by simp;omega),List.getElem_drop]
    congr 1
    simp;omega
 have ge:∀k (hk:k<ou.length),t≤k→l[i].key<ou[k].key:=fun k hk htk=>by
  have c:=h2 (by omega)
  by_cases hkt:k=t
  ·subst hkt;exact c
  ·exact Int.lt_trans c (h.st t k (by omega) hk (by omega))
 refine⟨fun a b ha hb hab=>?_,fun r hr=>?_,fun j hj hji=>?_,by rw [hlen];have:=h.len;omega⟩
 ·rcases at' a ha with⟨a1,a2,a3⟩ | ⟨a1,a3⟩ | ⟨a1,a2,a3⟩<;>rcases at' b hb with⟨b1,b2,b3⟩ | ⟨b1,b3⟩ | ⟨b1,b2,b3⟩<;>rw [a3,b3]
  ·exact h.st _ _ _ _ hab
  ·exact h1 _ _ a1
  ·exact h.st _ _ _ _ (by omega)
  ·omega
  ·omega
  ·exact ge _ _ (by omega)
  ·omega
  ·omega
  ·exact h.st _ _ _ _ (by omega)
 ·simp only [List.mem_append,List.mem_singleton] at hr
  rcases hr with (hr | rfl) | hr
  ·exact h.sub r (List.mem_of_mem_take hr)
  ·exact List.getElem_mem hi
  ·exact h.sub r (List.mem_of_mem_drop hr)
 ·by_cases hjj:j=i
  ·subst hjj;exact⟨l[j],by simp,rfl⟩
  ·obtain⟨s,s1,s2⟩:=h.cov j hj (by omega)
   refine⟨s,?_,s2⟩
   rw [← List.take_append_drop t ou] at s1
   simp only [List.mem_append] at s1 ⊢
   rcases s1 with s1 | s1
   ·exact .inl (.inl s1)
   ·exact .inr s1
theorem GL {x0 x1 vb:o8}{l:List FR}(hg:∀r,r∈l→r.Good)(hl:l.length≤36)(n0 fu:Nat)(hfu:1000≤fu):
  ∀(s i:Nat),i+s=l.length→∀(N:Nat),s<N→∀(M:Mem) (vo:o8) (ou:List FR),M.Ok→M.lim≤M.next→dA M vb l→St M vo ou→Di l i ou→∀(y4 y5 y7 y8:o8),
   ∃z5 z7 z8 vo' M' ou',V9 (fun env m k=>zl (G9 KW fu (n0+1)) fu none env m k) N (.nd (.nd (.nd (.nd .e y7 .e) vb .e) x1 (.nd (.nd .e .nilSlice .e) y5 .e)) x0 (.nd (.nd (.nd .e y8 .e) y4 .e) (.int .i64 ((i:Nat):Int)) (.nd .e vo .e))) M []=some [⟨.exit 0,(.nd (.nd (.nd (.nd .e z7 .e) vb .e) x1 (.nd (.nd .e .nilSlice .e) z5 .e)) x0 (.nd (.nd (.nd .e z8 .e) (.bool false) .e) (.int .i64 ((l.length:Nat):Int)) (.nd .e vo' .e))),M',[],none⟩]∧Ext M M'∧St M' vo' ou'∧Di l l.length ou':=by
 intro s
 induction s with
 | zero=>
  intro i hi N hN M vo ou hm hlm hb hv hd y4 y5 y7 y8
  obtain⟨N,rfl⟩:∃M,N=M+1:=⟨N-1,by omega⟩
  obtain rfl:i=l.length:=by omega
  have lb:=hb.len
  refine⟨y5,y7,y8,vo,M,ou,?_,Ext.refl hm,hv,hd⟩
  rw [F7]
  simp [zl,F3,trD,H9,w9,p8,l8,lb]
 | succ s ih=>
  intro i hi N hN M vo ou hm hlm hb hv hd y4 y5 y7 y8
  obtain⟨N,rfl⟩:∃M,N=M+1:=⟨N-1,by omega⟩
  have hil:i<l.length:=by omega
  have hou:=hd.len
  have ho:=hv.good
  have lb:=hb.len
  have lo:=hv.fs.len
  obtain⟨t,M1,g1,E1,t0,t1,t2,t3⟩:=GK (x0:=x0) (x1:=x1) (vb:=vb) (vo:=vo) hg ho (by omega) (by omega) n0 fu hfu i hil (.bool true) y8 ou.length 0 (by omega) fu (by omega) M hm hlm hb hv.fs y7
  rw [show ((0:Nat):Int)=0 from rfl] at g1
  have lm1:M1.lim≤M1.next:=by rw [E1.lim];exact Nat.le_trans hlm E1.next
  have hb1:=hb.ext E1
  have hv1:=hv.ext E1
  obtain⟨q,d1,hq,d2,d3,d4,_⟩:=hb1.at hil
  have gi:=hg _ (List.getElem_mem hil)
  have zi:=gi.rf
  obtain⟨i1,hi1⟩:∃i1,i1=i+1:=⟨_,rfl⟩
  have e1:=dB hi1 (by omega)
  have ins:(∀h:t<ou.length,l[i].key<ou[t].key)→∃v2 M2,G9 KW fu (n0+1) (.func 49) [vo,(.int .i64 ((t:Nat):Int)),.agg l[i].f.cells] M1=some [⟨v2,M2⟩]∧(∀{β:Type} (p:o8→β) q,gW v2 p q=q)∧
    ∀(z8:o8),∃z5 z7 z8' vo' M' ou',V9 (fun env m k=>zl (G9 KW fu (n0+1)) fu none env m k) N (.nd (.nd (.nd (.nd .e (.bool false) .e) vb .e) x1 (.nd (.nd .e .nilSlice .e) (.int .i64 ((t:Nat):Int)) .e)) x0 (.nd (.nd (.nd .e z8 .e) (.bool true) .e) (.int .i64 ((i1:Nat):Int)) (.nd .e v2 .e))) M2 []=some [⟨.exit 0,(.nd (.nd (.nd (.nd .e z7 .e) vb .e) x1 (.nd (.nd .e .nilSlice .e) z5 .e)) x0 (.nd (.nd (.nd .e z8' .e) (.bool false) .e) (.int .i64 ((l.length:Nat):Int)) (.nd .e vo' .e))),M',[],none⟩]∧Ext M M'∧St M' vo' ou'∧Di l l.length ou':=fun hgt=>by
   obtain⟨v2,M2,g2,E2,hs2⟩:=YG E1.ok lm1 hv1 gi t t1 (by omega) n0 fu
   refine⟨v2,M2,g2,fun p q=>hs2.fs.pan p q,fun z8=>?_⟩
   have E02:=E1.trans E2
   obtain⟨z5,z7,z8',vo',M',ou',g,E3,h4,h5⟩:=ih i1 (by omega) N (by omega) M2 v2 _ E2.ok (by rw [E02.lim];exact Nat.le_trans hlm E02.next) (hb.ext E02) hs2 (by rw [hi1];exact hd.put hil t1 (fun k h hk=>t2 k h (Nat.zero_le _) hk) hgt) (.bool true) (.int .i64 ((t:Nat):Int)) (.bool false) z8
   exact⟨z5,z7,z8',vo',M',ou',g,E02.trans E3,h4,h5⟩
  by_cases htl:t=ou.length
  ·obtain⟨v2,M2,g2,p2,hr⟩:=ins (fun h=>by omega)
   obtain⟨z5,z7,z8,vo',M',ou',g,E',h4,h5⟩:=hr (.bool true)
   refine⟨z5,z7,z8,vo',M',ou',?_,E',h4,h5⟩
   rw [F7,← g]
   clear ih ins hr t2 t3
   subst htl
   generalize l[i]=x at *
   simp [zl,F3,trD,H9,w9,p8,l8,lb,lo,hil,g1,d1,d2,d3,d4,e1,g2,zi,p2]
  ·have htl':t<ou.length:=by omega
   have htl2:¬ (t:Int)=(ou.length:Int):=by omega
   obtain⟨p,c1,hp,c2,c3,c4,_⟩:=hv1.fs.at htl'
   have gt:=ho _ (List.getElem_mem htl')
   have hle:=t3 htl'
   have hk:=oh gt gi
   cases hne:ou[t].P5 l[i] with
   | true=>
    rw [hne] at hk
    have he:ou[t].key=l[i].key:=by simpa using hk.symm
    obtain⟨z5,z7,z8,vo',M',ou',g,E3,h4,h5⟩:=ih i1 (by omega) N (by omega) M1 vo ou E1.ok lm1 hb1 hv1 (by rw [hi1];exact hd.skip hil htl' he) (.bool true) (.int .i64 ((t:Nat):Int)) (.bool false) (.bool false)
    refine⟨z5,z7,z8,vo',M',ou',?_,E1.trans E3,h4,h5⟩
    simp only [FR.P5,Bool.and_eq_true,decide_eq_true_eq] at hne
    obtain⟨n1,n2⟩:=hne
    rw [F7,← g]
    clear ih ins t2 t3 hk hle he h5
    generalize ou[t]=y at *
    generalize l[i]=x at *
    simp [zl,F3,trD,H9,w9,p8,l8,lb,lo,hil,htl2,g1,c1,c3,c4,d1,d3,d4,e1,n1,n2]
   | false=>
    rw [hne] at hk
    have he:¬ ou[t].key=l[i].key:=by simpa using hk.symm
    obtain⟨v2,M2,g2,p2,hr⟩:=ins (fun _=>by omega)
    obtain⟨z5,z7,z8,vo',M',ou',g,E',h4,h5⟩:=hr (.bool true)
    refine⟨z5,z7,z8,vo',M',ou',?_,E',h4,h5⟩
    rw [F7,← g]
    clear ih ins hr t2 t3 hk hle he h5
    generalize ou[t]=y at *
    generalize l[i]=x at *
    cases n1:decide (y.f.room=x.f.room) with
    | false=>simp [zl,F3,trD,H9,w9,p8,l8,lb,lo,hil,htl2,g1,c1,c3,c4,d1,d2,d3,d4,e1,n1,g2,zi,p2]
    | true=>
     have n2:decide (y.f.no=x.f.no)=false:=by
      simp only [FR.P5,n1,Bool.true_and] at hne;exact hne
     simp [zl,F3,trD,H9,w9,p8,l8,lb,lo,hil,htl2,g1,c1,c3,c4,d1,d2,d3,d4,e1,n1,n2,g2,zi,p2]
end Go.Proofs.YtefodipjjofocaaGreatDoor.TT
namespace Go.Proofs.YtefodipjjofocaaGreatDoor.TT
open Go Go.AM
set_option linter.unusedSimpArgs false
set_option linter.unusedVariables false
set_option maxRecDepth 100000
set_option maxHeartbeats 16000000
theorem GN {m:Mem}{va vb:o8}{a b:List FR}(hm:m.Ok)(hl:m.lim≤m.next)(ha:dA m va a)(hb:dA m vb b)(ga:∀r,r∈a→r.Good)(gb:∀r,r∈b→r.Good)(hn:a.length+b.length≤36):
  ∃u1 m1 u2 m2,(∀(s y:OF) (cf:L8) (ls:List o8) (env:T o8),s ls env=.slice m.next 0 0 0→y ls env=va→dG 32 304 s y cf ls env (ext m [.cells 32 0 (T.ofList [])])=some [⟨u1,m1⟩])∧(∀{β:Type} (p:o8→β) q,gW u1 p q=q)∧
   (∀(s y:OF) (cf:L8) (ls:List o8) (env:T o8),s ls env=u1→y ls env=vb→dG 32 304 s y cf ls env m1=some [⟨u2,m2⟩])∧Ext m m2∧dA m2 u2 (a++b):=by
 have E:=G7 hm [.cells 32 0 (T.ofList [])]
 have h1:Own m (ext m [.cells 32 0 (T.ofList [])]) (.slice m.next 0 0 0) []:=⟨E,.inr (.inl ⟨m.next,rfl,rfl,Nat.le_refl _,by simp⟩)⟩
 obtain⟨u1,m1,a1,o1,_⟩:=kR hl h1 (ha.ext E) ga (by simp;omega)
 rw [List.nil_append] at o1
 obtain⟨u2,m2,a2,o2,_⟩:=kR hl o1 (hb.ext o1.1) gb hn
 exact⟨u1,m1,u2,m2,a1,fun p q=>o1.fs.pan p q,a2,o2.1,o2.fs⟩
theorem YH {m:Mem}{va vb:o8}{a b:List FR}(hm:m.Ok)(hl:m.lim≤m.next)(ha:dA m va a)(hb:dA m vb b)(ga:∀r,r∈a→r.Good)(gb:∀r,r∈b→r.Good)(hn:a.length+b.length≤36)(n0 fu:Nat)(hfu:1000≤fu):
  ∃v' m' us,G9 KW fu (n0+2) (.func 24) [va,vb] m=some [⟨v',m'⟩]∧Ext m m'∧dA m' v' us∧Di (a++b) (a++b).length us:=by
 obtain⟨u1,m1,u2,m2,a1,p1,a2,E2,h2⟩:=GN hm hl ha hb ga gb hn
 have hg:∀r,r∈a++b→r.Good:=fun r hr=>by
  rcases List.mem_append.1 hr with h | h
  ·exact ga r h
  ·exact gb r h
 obtain⟨z5,z7,z8,vo',m3,us,g,E3,h3,hd⟩:=GL (x0:=va) (x1:=vb) hg (by simp;omega) n0 fu hfu (a++b).length 0 (by omega) fu (by simp;omega) m2 .nilSlice [] E2.ok (by rw [E2.lim];exact Nat.le_trans hl E2.next) h2 (.inl ⟨rfl,rfl⟩)
  ⟨fun _ _ h=>by simp at h,fun _ h=>by simp at h,fun _ _ h=>by omega,by simp⟩ .undef .undef .undef .undef
 rw [show ((0:Nat):Int)=0 from rfl] at g
 have hB:∀z ls env nid,I6 32 0 z [] ls env nid=some (.slice nid 0 0 0,some (.cells 32 0 (T.ofList []))):=fun _ _ _ _=>rfl
 have p2:=fun {β:Type} (p:o8→β) q=>h2.pan p q
 refine⟨vo',m3,us,?_,E2.trans E3,h3.fs,hd⟩
 rw [enter (sf:=f24) rfl rfl]
 simp only [List.length_append] at g
 clear hd h3 h2
 simp [f24,F3,trD,H9,w9,p8,l8,D5,D7,j5 hm,j6 hm,G6 hm hl,x9 hm hl,l9 hm,l5 hm,G5,r9,C8,A8,K4,hB,a1,a2,p1,p2,g]
theorem GQ {x y:o8}{cs us:List FR}(hlen:cs.length=us.length)(hn:cs.length≤36)(hsame:∀i (h:i<cs.length)(h':i<us.length),cs[i].same us[i]=true)(sc:∀r,r∈cs→r.small=true)(su:∀r,r∈us→r.small=true)(n0 fu:Nat)(hfu:1000≤fu)(y2:o8):
  ∀(s i:Nat),i+s=cs.length→∀(N:Nat),s<N→∀(M:Mem),M.Ok→dA M x cs→dA M y us→(∀r,r∈cs→gB M r)→(∀r,r∈us→gB M r)→∀(y4 y5 y6:o8),
   ∃z5 z6 M',V9 (fun env m k=>JY (G9 KW fu (n0+3)) fu none env m k) N (.nd (.nd (.nd (.nd .e (.bool false) .e) (.int .i64 ((i:Nat):Int)) .e) y (.nd .e y5 .e)) x (.nd (.nd .e y4 .e) y2 (.nd .e y6 .e))) M []=some [⟨.exit 0,(.nd (.nd (.nd (.nd .e (.bool false) .e) (.int .i64 ((cs.length:Nat):Int)) .e) y (.nd .e z5 .e)) x (.nd (.nd .e (.bool false) .e) y2 (.nd .e z6 .e))),M',[],none⟩]∧Ext M M':=by
 intro s
 induction s with
 | zero=>
  intro i hi N hN M hm hx hy wc wu y4 y5 y6
  obtain⟨N,rfl⟩:∃M,N=M+1:=⟨N-1,by omega⟩
  obtain rfl:i=cs.length:=by omega
  have lx:=hx.len
  refine⟨y5,y6,M,?_,Ext.refl hm⟩
  rw [F7]
  simp [JY,F3,trD,H9,w9,p8,l8,lx]
 | succ s ih=>
  intro i hi N hN M hm hx hy wc wu y4 y5 y6
  obtain⟨N,rfl⟩:∃M,N=M+1:=⟨N-1,by omega⟩
  have lx:=hx.len
  have hic:i<cs.length:=by omega
  have hiu:i<us.length:=by omega
  obtain⟨p,e1,hp,e2,_⟩:=hx.at hic
  obtain⟨q,d1,hq,d2,_⟩:=hy.at hiu
  have mc:=List.getElem_mem hic
  have mu:=List.getElem_mem hiu
  obtain⟨M1,g1,E1⟩:∃M1,G9 KW fu (n0+3) (.func 14) [.agg cs[i].f.cells,.agg us[i].f.cells] M=some [⟨.bool (cs[i].same us[i]),M1⟩]∧Ext M M1:=⟨_,Gl hm ((wc _ mc).at (sc _ mc)) ((wu _ mu).at (su _ mu)) n0 fu hfu,G7 hm _⟩
  rw [hsame i hic hiu] at g1
  have zc:=((wc _ mc).at (sc _ mc)).same
  have zu:=((wu _ mu).at (su _ mu)).same
  obtain⟨i1,hi1⟩:∃i1,i1=i+1:=⟨_,rfl⟩
  have e3:=dB hi1 (by omega)
  obtain⟨z5,z6,M',g,E2⟩:=ih i1 (by omega) N (by omega) M1 E1.ok (hx.ext E1) (hy.ext E1) (fun r h=>(wc r h).ext E1) (fun r h=>(wu r h).ext E1) (.bool true) (.bool true) (.bool false)
  refine⟨z5,z6,M',?_,E1.trans E2⟩
  rw [F7,← g]
  clear ih hsame
  simp [JY,F3,trD,H9,w9,p8,l8,lx,hic,e1,e2,d1,d2,g1,zc,zu,e3]
theorem YI {m:Mem}{x y:o8}{cs us:List FR}(hm:m.Ok)(hx:dA m x cs)(hy:dA m y us)(hlen:cs.length=us.length)(hn:cs.length≤36)(hsame:∀i (h:i<cs.length)(h':i<us.length),cs[i].same us[i]=true)(sc:∀r,r∈cs→r.small=true)(su:∀r,r∈us→r.small=true)
  (wc:∀r,r∈cs→gB m r) (wu:∀r,r∈us→gB m r) (n0 fu:Nat) (hfu:1000≤fu):∃m',G9 KW fu (n0+4) (.func 23) [x,y] m=some [⟨.bool true,m'⟩]∧Ext m m':=by
 have lx:=hx.len
 have ly:=hy.len
 rw [← hlen] at ly
 obtain⟨z5,z6,m',g,E⟩:=GQ hlen hn hsame sc su n0 fu hfu (.bool false) cs.length 0 (by omega) fu (by omega) m hm hx hy wc wu .undef .undef .undef
 rw [show ((0:Nat):Int)=0 from rfl] at g
 refine⟨m',?_,E⟩
 rw [enter (sf:=f23) rfl rfl]
 simp [f23,F3,trD,H9,w9,p8,l8,lx,ly,g]
end Go.Proofs.YtefodipjjofocaaGreatDoor.TT
namespace Go.Proofs.YtefodipjjofocaaGreatDoor.TT
open Go Go.AM
set_option linter.unusedSimpArgs false
set_option linter.unusedVariables false
set_option maxRecDepth 100000
set_option maxHeartbeats 16000000
theorem zK:∀(a b:List Int),a.Pairwise (· < ·)→b.Pairwise (· < ·)→(∀x,x∈a↔x∈b)→a=b
 | [],[],_,_,_=>rfl
 | [],y::b,_,_,h=>absurd ((h y).2 (by simp)) (by simp)
 | x::a,[],_,_,h=>absurd ((h x).1 (by simp)) (by simp)
 | x::a,y::b,ha,hb,h=>by
  obtain⟨a1,a2⟩:=List.pairwise_cons.1 ha
  obtain⟨b1,b2⟩:=List.pairwise_cons.1 hb
  have hxy:x=y:=by
   rcases List.mem_cons.1 ((h x).1 (by simp)) with e | e
   ·exact e
   ·rcases List.mem_cons.1 ((h y).2 (by simp)) with e' | e'
    ·exact e'.symm
    ·have:=b1 x e;have:=a1 y e';omega
  subst hxy
  rw [zK a b a2 b2 fun z=>⟨fun hz=>by
   rcases List.mem_cons.1 ((h z).1 (by simp [hz])) with e | e
   ·subst e;have:=a1 z hz;omega
   ·exact e,fun hz=>by
   rcases List.mem_cons.1 ((h z).2 (by simp [hz])) with e | e
   ·subst e;have:=b1 z hz;omega
   ·exact e⟩]
theorem ajY {l ds us:List FR}(hd:Dd l ds)(hu:Di l l.length us):ds.length=us.length∧∀i (h:i<ds.length) (h':i<us.length),ds[i].key=us[i].key:=by
 have e:ds.map FR.key=us.map FR.key:=by
  refine zK _ _ ?_ ?_ fun x=>?_
  ·rw [List.pairwise_iff_getElem]
   intro i j hi hj hij
   have hi':i<ds.length:=by simpa using hi
   have hj':j<ds.length:=by simpa using hj
   have:=hd.st i j hij hj'
   rw [eY hi',eY hj'] at this
   simpa using this
  ·rw [List.pairwise_iff_getElem]
   intro i j hi hj hij
   have:=hu.st i j (by simpa using hi) (by simpa using hj) hij
   simpa using this
  ·constructor
   ·intro hx
    obtain⟨r,hr,rfl⟩:=List.mem_map.1 hx
    obtain⟨j,hj,hjr⟩:=List.getElem_of_mem (hd.sub r hr)
    obtain⟨s,s1,s2⟩:=hu.cov j hj hj
    exact List.mem_map.2 ⟨s,s1,by rw [s2,hjr]⟩
   ·intro hx
    obtain⟨r,hr,rfl⟩:=List.mem_map.1 hx
    obtain⟨s,s1,s2⟩:=hd.cov r (hu.sub r hr)
    exact List.mem_map.2 ⟨s,s1,s2⟩
 have hl:ds.length=us.length:=by have:=congrArg List.length e;simpa using this
 refine⟨hl,fun i h h'=>?_⟩
 have h1:(ds.map FR.key)[i]?=(us.map FR.key)[i]?:=by rw [e]
 rw [List.getElem?_map,List.getElem?_map,List.getElem?_eq_getElem h,List.getElem?_eq_getElem h'] at h1
 exact Option.some.inj h1
theorem GR {l:List FR}{i:Int}(hv:DF l 0 i)(hg:∀r,r∈l→r.Good){x y:FR}(hx:x∈l)(hy:y∈l)(hk:x.key=y.key):x.same y=true:=by
 have hok:∀t,t<l.length→Ed l t:=by
  rcases hv with⟨_,_,h⟩ | ⟨k,_,hb⟩
  ·exact h
  ·obtain⟨_,_,⟨h,_⟩ | ⟨h,_⟩⟩:=hb<;>exact absurd h (by decide)
 have hn:x.P5 y=true:=(uH (hg x hx) (hg y hy)).2 hk
 obtain⟨i,hi,rfl⟩:=List.getElem_of_mem hx
 obtain⟨j,hj,rfl⟩:=List.getElem_of_mem hy
 rcases Nat.lt_trichotomy i j with h | h | h
 ·obtain⟨_,_,hs⟩:=hok j hj
  exact hs i h hn
 ·subst h;exact FR.Gr _
 ·obtain⟨_,_,hs⟩:=hok i hi
  rw [FR.zC]
  exact hs j h (by rw [FR.gD];exact hn)
theorem ajZ {m:Mem}{va vb:o8}{a b:List FR}(hm:m.Ok)(hl:m.lim≤m.next)(ha:dA m va a)(hb:dA m vb b)(wa:∀i (h:i<a.length),gB m a[i])(wb:∀i (h:i<b.length),gB m b[i])(n fu:Nat)(hfu:1000≤fu):
  ∃m',G9 KW fu (n+46) (.func 5) [va,vb] m=some [⟨.bool true,m'⟩]∧Ext m m':=by
 rw [enter (sf:=f5) rfl rfl]
 have lim:∀{M:Mem},Ext m M→M.lim≤M.next:=fun E=>by rw [E.lim];have:=E.next;omega
 have wa':∀r,r∈a→gB m r:=fun r hr=>by
  obtain⟨i,hi,rfl⟩:=List.getElem_of_mem hr
  exact wa i hi
 have wb':∀r,r∈b→gB m r:=fun r hr=>by
  obtain⟨i,hi,rfl⟩:=List.getElem_of_mem hr
  exact wb i hi
 obtain⟨r1,m1,g1,E1,hr1⟩:=Yp hm ha wa (n+43) fu hfu
 have c8:=fun m=>ajW (n+44) fu m
 cases r1 with
 | false=>exact⟨m1,by simp [f5,F3,trD,H9,w9,p8,l8,g1,c8],E1⟩
 | true=>
 obtain⟨na,sa⟩:=hr1 rfl
 obtain⟨r2,m2,g2,E2,hr2⟩:=Yp E1.ok (hb.ext E1) (fun i h=>(wb i h).ext E1) (n+43) fu hfu
 have E02:=E1.trans E2
 cases r2 with
 | false=>exact⟨m2,by simp [f5,F3,trD,H9,w9,p8,l8,g1,g2,c8],E02⟩
 | true=>
 obtain⟨nb,sb⟩:=hr2 rfl
 have sa':∀r,r∈a→r.small=true:=fun r hr=>by
  obtain⟨i,hi,rfl⟩:=List.getElem_of_mem hr
  exact sa i hi
 have sb':∀r,r∈b→r.small=true:=fun r hr=>by
  obtain⟨i,hi,rfl⟩:=List.getElem_of_mem hr
  exact sb i hi
 have ga:∀r,r∈a→r.Good:=fun r h=>(wa' r h).good (sa' r h)
 have gb:∀r,r∈b→r.Good:=fun r h=>(wb' r h).good (sb' r h)
 have gab:∀r,r∈a++b→r.Good:=fun r hr=>by
  rcases List.mem_append.1 hr with h | h
  ·exact ga r h
  ·exact gb r h
 have wab:∀r,r∈a++b→gB m r:=fun r hr=>by
  rcases List.mem_append.1 hr with h | h
  ·exact wa' r h
  ·exact wb' r h
 have sab:∀r,r∈a++b→r.small=true:=fun r hr=>by
  rcases List.mem_append.1 hr with h | h
  ·exact sa' r h
  ·exact sb' r h
 obtain⟨v3,e,m3,g3,E3,hmv,hnil,hres⟩:=YF E02.ok (lim E02) (ha.ext E02) (hb.ext E02) (fun r h=>(wa' r h).ext E02) (fun r h=>(wb' r h).ext E02) sa' sb' (by omega) n fu hfu
 have E03:=E02.trans E3
 obtain⟨ca,ia,m4,g4,E4,V4⟩:=Gp E03.ok (lim E03) (ha.ext E03) (fun i h=>(wa i h).ext E03) (by omega) sa (n+37) fu hfu
 have E04:=E03.trans E4
 have hB:∀z ls env nid,I6 32 0 z [] ls env nid=some (.slice nid 0 0 0,some (.cells 32 0 (T.ofList []))):=fun _ _ _ _=>rfl
 have bad:∀{w:Int},MV a b w→w≠0→e=w∧v3=.nilSlice:=fun {w} h hw=>by
  have:=hmv.uniq h
  subst this
  exact⟨rfl,hnil hw⟩
 by_cases ea:ca=0
 ·subst ea
  obtain⟨cb,ib,m5,g5,E5,V5⟩:=Gp E04.ok (lim E04) (hb.ext E04) (fun i h=>(wb i h).ext E04) (by omega) sb (n+37) fu hfu
  have E05:=E04.trans E5
  by_cases eb:cb=0
  ·subst eb
   obtain⟨u1,m6,u2,m7,a1,p1,a2,E7,h7⟩:=GN E05.ok (lim E05) (ha.ext E05) (hb.ext E05) ga gb (by omega)
   have E07:=E05.trans E7
   have p2:=fun {β:Type} (p:o8→β) q=>h7.pan p q
   obtain⟨cc,ic,m8,g8,E8,V8⟩:=Gp E07.ok (lim E07) h7 (fun i h=>(wab _ (List.getElem_mem h)).ext E07) (by simp;omega) (fun i h=>sab _ (List.getElem_mem h)) (n+37) fu hfu
   have E08:=E07.trans E8
   by_cases ec:cc=0
   ·subst ec
    obtain rfl:e=0:=hmv.uniq (.inr ⟨⟨_,V4⟩,.inr ⟨⟨_,V5⟩,_,V8⟩⟩)
    obtain⟨ds,cs,h3,wc,hd,hcl,hcp⟩:=hres rfl
    have h3':=((((h3.ext E4).ext E5).ext E7).ext E8)
    obtain⟨v9,m9,us,g9,E9,h9,hu⟩:=YH E08.ok (lim E08) (ha.ext E08) (hb.ext E08) ga gb (by omega) (n+43) fu hfu
    obtain⟨dl,dk⟩:=ajY hd hu
    have E09:=E08.trans E9
    have E39:=((((E4.trans E5).trans E7).trans E8).trans E9)
    have cpm:∀r,r∈cs→∃d,d∈ds∧Cp d r:=fun r hr=>by
     obtain⟨i,hi,rfl⟩:=List.getElem_of_mem hr
     exact⟨ds[i]'(by omega),List.getElem_mem _,hcp i hi (by omega)⟩
    obtain⟨m10,g10,E10⟩:=YI E09.ok (h3'.ext E9) h9 (by omega) (by have:=hu.len;simp at this;omega) (fun i h h'=>by
     have hid:i<ds.length:=by omega
     have c1:=(hcp i h hid).same
     have c2:=GR V8 gab (hd.sub _ (List.getElem_mem hid)) (hu.sub _ (List.getElem_mem h')) (dk i hid h')
     exact FR.nY c1 c2) (fun r hr=>by
     obtain⟨d,d1,d2⟩:=cpm r hr
     rw [d2.small];exact sab d (hd.sub d d1)) (fun r hr=>sab r (hu.sub r hr)) (fun r hr=>(wc r hr).ext E39) (fun r hr=>(wab r (hu.sub r hr)).ext E09) (n+41) fu hfu
    have p9:=fun {β:Type} (p:o8→β) q=>h9.pan p q
    refine⟨m10,?_,E09.trans E10⟩
    clear hmv hnil hres bad hd hu dk hcp cpm wc
    simp [f5,F3,trD,H9,w9,p8,l8,D5,D7,j5 hm,j6 hm,G6 hm hl,x9 hm hl,l9 hm,l5 hm,G5,r9,C8,A8,K4,hB,g1,g2,g3,g4,g5,g8,g9,g10,a1,a2,p1,p2,p9,c8]
   ·obtain⟨rfl,rfl⟩:=bad (.inr ⟨⟨_,V4⟩,.inr ⟨⟨_,V5⟩,_,V8⟩⟩) ec
    refine⟨m8,?_,E08⟩
    clear hmv hnil hres bad
    simp [f5,F3,trD,H9,w9,p8,l8,D5,D7,j5 hm,j6 hm,G6 hm hl,x9 hm hl,l9 hm,l5 hm,G5,r9,C8,A8,K4,hB,g1,g2,g3,g4,g5,g8,a1,a2,p1,p2,c8,ec]
  ·obtain⟨rfl,rfl⟩:=bad (.inr ⟨⟨_,V4⟩,.inl ⟨eb,_,V5⟩⟩) eb
   refine⟨m5,?_,E05⟩
   clear hmv hnil hres bad
   simp [f5,F3,trD,H9,w9,p8,l8,D5,D7,j5 hm,j6 hm,G6 hm hl,x9 hm hl,l9 hm,l5 hm,G5,r9,C8,A8,K4,hB,g1,g2,g3,g4,g5,c8,eb]
 ·obtain⟨rfl,rfl⟩:=bad (.inl ⟨ea,_,V4⟩) ea
  refine⟨m4,?_,E04⟩
  clear hmv hnil hres bad
  simp [f5,F3,trD,H9,w9,p8,l8,D5,D7,j5 hm,j6 hm,G6 hm hl,x9 hm hl,l9 hm,l5 hm,G5,r9,C8,A8,K4,hB,g1,g2,g3,g4,c8,ea]
end Go.Proofs.YtefodipjjofocaaGreatDoor.TT
