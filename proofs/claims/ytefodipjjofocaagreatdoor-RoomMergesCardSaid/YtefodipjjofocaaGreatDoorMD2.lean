/- Functions that the law RoomMerges calls, walked: the check of facts; conditions: the memory holds what the arguments say. -/
import Derived.Test.YtefodipjjofocaaGreatDoorMD1
set_option linter.unusedSimpArgs false
set_option linter.unusedVariables false
namespace Go.Proofs.YtefodipjjofocaaGreatDoor.TT
open Go Go.AM
set_option linter.unusedSimpArgs false
set_option linter.unusedVariables false
set_option maxRecDepth 100000
set_option maxHeartbeats 2000000
theorem Pg {m:Mem}{f:Fct}{p0:Nat}{v:o8}{xs:List Int}(hv:dF m v xs)(hb:xs.length<1000000)(n fu:Nat):
  ∀(j i:Nat),i+j=xs.length→∀(N:Nat),j<N→∀(a0 a1:o8),
   ∃x k b0 b1,V9 (fun env m k=>vN (G9 KW fu (n+5)) fu none env m k) N (.nd (.nd (.nd (.nd (.nd .e a1 .e) (.bool false) .e) (.bool false) (.nd .e (.bool true) .e)) (.ptr p0 0) (.nd (.nd (.nd .e (.bool false) .e) .undef .e) (.bool false) (.nd .e v .e))) (.agg f.cells) (.nd (.nd (.nd (.nd .e .undef .e) .undef .e) (.bool false) (.nd .e (.int .i64 ((i:Nat):Int)) .e)) (.int .i64 6) (.nd (.nd .e .undef .e) (.bool false) (.nd .e a0 .e)))) m []=some [⟨x,(.nd (.nd (.nd (.nd (.nd .e b1 .e) (.bool false) .e) (.bool false) (.nd .e (.bool true) .e)) (.ptr p0 0) (.nd (.nd (.nd .e (.bool false) .e) .undef .e) (.bool false) (.nd .e v .e))) (.agg f.cells) (.nd (.nd (.nd (.nd .e .undef .e) .undef .e) (.bool false) (.nd .e (.int .i64 ((k:Nat):Int)) .e)) (.int .i64 6) (.nd (.nd .e .undef .e) (.bool false) (.nd .e b0 .e)))),m,[],none⟩]∧x=(bif P9 (okB xs) j i then X5.exit 1 else .ret):=by
 intro j
 induction j with
 | zero=>
  intro i hi N hN a0 a1
  obtain⟨N,rfl⟩:∃M,N=M+1:=⟨N-1,by omega⟩
  refine⟨.exit 1,i,.bool false,a1,?_,rfl⟩
  rw [F7]
  have h:¬ i<xs.length:=by omega
  have l1:=hv.len
  simp [vN,F3,trD,H9,w9,p8,l8,h,l1]
 | succ j ih=>
  intro i hi N hN a0 a1
  obtain⟨N,rfl⟩:∃M,N=M+1:=⟨N-1,by omega⟩
  have h:i<xs.length:=by omega
  have l1:=hv.len
  obtain⟨p,e1,_,e2⟩:=hv.at h
  have hg:=eP h
  have good:okB xs i=true→∃x k b0 b1,V9 (fun env m k=>vN (G9 KW fu (n+5)) fu none env m k) (N+1) (.nd (.nd (.nd (.nd (.nd .e a1 .e) (.bool false) .e) (.bool false) (.nd .e (.bool true) .e)) (.ptr p0 0) (.nd (.nd (.nd .e (.bool false) .e) .undef .e) (.bool false) (.nd .e v .e))) (.agg f.cells) (.nd (.nd (.nd (.nd .e .undef .e) .undef .e) (.bool false) (.nd .e (.int .i64 ((i:Nat):Int)) .e)) (.int .i64 6) (.nd (.nd .e .undef .e) (.bool false) (.nd .e a0 .e)))) m []=some [⟨x,(.nd (.nd (.nd (.nd (.nd .e b1 .e) (.bool false) .e) (.bool false) (.nd .e (.bool true) .e)) (.ptr p0 0) (.nd (.nd (.nd .e (.bool false) .e) .undef .e) (.bool false) (.nd .e v .e))) (.agg f.cells) (.nd (.nd (.nd (.nd .e .undef .e) .undef .e) (.bool false) (.nd .e (.int .i64 ((k:Nat):Int)) .e)) (.int .i64 6) (.nd (.nd .e .undef .e) (.bool false) (.nd .e b0 .e)))),m,[],none⟩]∧x=(bif P9 (okB xs) (j+1) i then X5.exit 1 else .ret):=by
   intro hok
   obtain⟨x,k,b0,b1,g1,g2⟩:=ih (i+1) (by omega) N (by omega) (.bool true) (.bool false)
   refine⟨x,k,b0,b1,?_,by rw [g2];simp [P9,hok]⟩
   rw [F7,← g1]
   simp only [okB,hg,Bool.and_eq_true,Bool.or_eq_true,decide_eq_true_eq] at hok
   obtain⟨⟨h1,h2⟩,h3⟩:=hok
   by_cases h0:i=0
   ·have h4:¬ 0<i:=by omega
    simp [vN,F3,trD,H9,w9,p8,l8,h,l1,e1,e2,h1,h2,h4,U8,U1 (i:=i) (by omega)]
   ·have hp:i-1<xs.length:=by omega
    obtain⟨q,e3,_,e4⟩:=hv.at hp
    have h3:=h3.resolve_left h0
    rw [eP hp] at h3
    have h4:0<i:=by omega
    have h5:¬ xs[i]≤xs[i-1]:=by omega
    simp [vN,F3,trD,H9,w9,p8,l8,h,l1,e1,e2,e3,e4,h1,h2,h4,h5,U8,U1 (i:=i) (by omega),gV (i:=i) h4 (by omega)]
  cases hok:okB xs i with
  | true=>exact good hok
  | false=>
   refine⟨.ret,i,.bool true,.bool true,?_,by simp [P9,hok]⟩
   rw [F7]
   simp only [okB,hg] at hok
   by_cases h0:i=0
   ·have hr:(decide (1≤xs[i])&&decide (xs[i]≤1099511627776))=false:=by simpa [h0] using hok
    simp [vN,F3,trD,H9,w9,p8,l8,h,l1,e1,e2,hr,U8]
   ·have hp:i-1<xs.length:=by omega
    obtain⟨q,e3,_,e4⟩:=hv.at hp
    have h4:0<i:=by omega
    rw [eP hp,show decide (i=0)=false from decide_eq_false h0,Bool.false_or] at hok
    cases hr:(decide (1≤xs[i])&&decide (xs[i]≤1099511627776)) with
    | false=>simp [vN,F3,trD,H9,w9,p8,l8,h,l1,e1,e2,hr,U8]
    | true=>
     rw [hr,Bool.true_and] at hok
     have h5:xs[i]≤xs[i-1]:=by simpa using hok
     simp [vN,F3,trD,H9,w9,p8,l8,h,l1,e1,e2,e3,e4,hr,h4,h5,U8,gV (i:=i) h4 (by omega)]
def zB (f:Fct)(a b l:List Int):Bool:=if f.kind=1 then Dy f else if f.kind=2 then O9 f else if f.kind=3 then Mc f else if f.kind=4 then nA f else if f.kind=5 then aU f a b else if f.kind=6 then IZ f l else if f.kind=7 then wdB f else false
theorem ajG {m:Mem}{f:Fct}{a b l:List Int}(hm:m.Ok)(hl:m.lim≤m.next)(hf:W9 m f a b l)(n fu:Nat)(hfu:1000≤fu)(hk:f.kind=1):∃m',G9 KW fu (n+6) (.func 38) [.agg f.cells] m=some [⟨.bool (Dy f),m'⟩]∧Ext m m':=by
 rw [enter (sf:=f38) rfl rfl]
 have c1:=Gc (n+4) fu f.flo f.fhi 0 1000000 (ext m [D9 f.cells]) (K5 hm _)
 exact⟨ext m [D9 f.cells,D9 [.int .i64 f.flo,.int .i64 f.fhi]],by simp [f38,F3,trD,H9,w9,p8,l8,D5,D7,j5 hm,j6 hm,l9 hm,l5 hm,G5,r9,C8,A8,K4,hk,c1,Dy],G7 hm _⟩
theorem ajH {m:Mem}{f:Fct}{a b l:List Int}(hm:m.Ok)(hl:m.lim≤m.next)(hf:W9 m f a b l)(n fu:Nat)(hfu:1000≤fu)(ha:gF f.gn)(hb:gF f.gd)(hk:f.kind=2):∃m',G9 KW fu (n+6) (.func 38) [.agg f.cells] m=some [⟨.bool (O9 f),m'⟩]∧Ext m m':=by
 rw [enter (sf:=f38) rfl rfl]
 obtain⟨m1,g1,E1⟩:=Yj f ha hb n fu hfu (ext m [D9 f.cells,D9 f.gau]) (K5 hm _) (by simp;omega) (m.next+1) (by simp) (by rw [j6 hm];rfl)
 refine⟨m1,?_,(G7 hm _).trans E1⟩
 simp only [K7] at g1
 cases hgb:O9 f<;>rw [hgb] at g1<;>simp [f38,F3,trD,H9,w9,p8,l8,D5,D7,j5 hm,j6 hm,l9 hm,l5 hm,G5,r9,C8,A8,K4,hk,Y6,g1]
theorem ajI {m:Mem}{f:Fct}{a b l:List Int}(hm:m.Ok)(hl:m.lim≤m.next)(hf:W9 m f a b l)(n fu:Nat)(hfu:1000≤fu)(hk:f.kind=3):∃m',G9 KW fu (n+6) (.func 38) [.agg f.cells] m=some [⟨.bool (Mc f),m'⟩]∧Ext m m':=by
 rw [enter (sf:=f38) rfl rfl]
 cases h0:(decide (1≤f.ug)&&decide (f.ug≤1099511627776)) with
 | true=>
  cases h1:(decide (0≤f.ud)&&decide (f.ud≤20000)) with
  | true=>
   exact⟨ext m [D9 f.cells],by simp [f38,F3,trD,H9,w9,p8,l8,D5,D7,j5 hm,j6 hm,l9 hm,l5 hm,G5,r9,C8,A8,K4,hk,U8,bX,Mc,h0,h1],G7 hm _⟩
  | false=>exact⟨ext m [D9 f.cells],by simp [f38,F3,trD,H9,w9,p8,l8,D5,D7,j5 hm,j6 hm,l9 hm,l5 hm,G5,r9,C8,A8,K4,hk,U8,bX,Mc,h0,h1],G7 hm _⟩
 | false=>exact⟨ext m [D9 f.cells],by simp [f38,F3,trD,H9,w9,p8,l8,D5,D7,j5 hm,j6 hm,l9 hm,l5 hm,G5,r9,C8,A8,K4,hk,U8,bX,Mc,h0],G7 hm _⟩
theorem ajJ {m:Mem}{f:Fct}{a b l:List Int}(hm:m.Ok)(hl:m.lim≤m.next)(hf:W9 m f a b l)(n fu:Nat)(hfu:1000≤fu)(hk:f.kind=4):∃m',G9 KW fu (n+6) (.func 38) [.agg f.cells] m=some [⟨.bool (nA f),m'⟩]∧Ext m m':=by
 rw [enter (sf:=f38) rfl rfl]
 have c1:=Gc (n+4) fu f.ll f.lh 0 20000 (ext m [D9 f.cells]) (K5 hm _)
 cases h0:(decide (1≤f.lg)&&decide (f.lg≤1099511627776)) with
 | true=>
  cases h1:(decide (0≤f.ll)&&decide (f.ll≤f.lh)&&decide (f.lh≤20000)) with
  | true=>
   cases h2:(decide (0≤f.lw)&&decide (f.lw≤1048576)) with
   | true=>
    exact⟨ext m [D9 f.cells,D9 [.int .i64 f.ll,.int .i64 f.lh]],by simp [f38,F3,trD,H9,w9,p8,l8,D5,D7,j5 hm,j6 hm,l9 hm,l5 hm,G5,r9,C8,A8,K4,hk,c1,U8,nA,h0,h1,h2],G7 hm _⟩
   | false=>exact⟨ext m [D9 f.cells,D9 [.int .i64 f.ll,.int .i64 f.lh]],by simp [f38,F3,trD,H9,w9,p8,l8,D5,D7,j5 hm,j6 hm,l9 hm,l5 hm,G5,r9,C8,A8,K4,hk,c1,U8,nA,h0,h1,h2],G7 hm _⟩
  | false=>exact⟨ext m [D9 f.cells,D9 [.int .i64 f.ll,.int .i64 f.lh]],by simp [f38,F3,trD,H9,w9,p8,l8,D5,D7,j5 hm,j6 hm,l9 hm,l5 hm,G5,r9,C8,A8,K4,hk,c1,U8,nA,h0,h1],G7 hm _⟩
 | false=>exact⟨ext m [D9 f.cells],by simp [f38,F3,trD,H9,w9,p8,l8,D5,D7,j5 hm,j6 hm,l9 hm,l5 hm,G5,r9,C8,A8,K4,hk,c1,U8,nA,h0],G7 hm _⟩
theorem ajK {m:Mem}{f:Fct}{a b l:List Int}(hm:m.Ok)(hl:m.lim≤m.next)(hf:W9 m f a b l)(n fu:Nat)(hfu:1000≤fu)(hk:f.kind=5):∃m',G9 KW fu (n+6) (.func 38) [.agg f.cells] m=some [⟨.bool (aU f a b),m'⟩]∧Ext m m':=by
 rw [enter (sf:=f38) rfl rfl]
 have o1:=hf.a.K4
 have o2:=hf.b.K4
 have o3:Q6 f.cmp=true:=by simp [Fct.cmp,o1,o2,show ∀k x,K4 (.int k x)=true from fun _ _=>rfl,-Fct.O8]
 have hf2:=hf.ext (G7 hm [D9 f.cells,D9 f.cmp])
 have p1:=Ma hf2.a hf.la (n+3) fu hfu
 have p2:=Ma hf2.b hf.lb (n+3) fu hfu
 rw [show (P9 (okB a) a.length 0&&decide (a.length≤6))=ny a from rfl] at p1
 rw [show (P9 (okB b) b.length 0&&decide (b.length≤6))=ny b from rfl] at p2
 have c1:=Gc (n+4) fu f.hlo f.hhi (-10000) 10000 (ext m [D9 f.cells,D9 f.cmp]) (K5 hm _)
 cases h0:decide (f.cid=0) with
 | true=>
  cases h1:(decide (0≤f.cday)&&decide (f.cday≤20000)) with
  | true=>
   cases h2:(decide (-1125899906842624≤f.diff)&&decide (f.diff≤1125899906842624)) with
   | true=>
    cases h3:(decide (0≤f.err)&&decide (f.err≤1073741824)) with
    | true=>
     cases h4:(decide (-10000≤f.hlo)&&decide (f.hlo≤f.hhi)&&decide (f.hhi≤10000)) with
     | true=>
      cases h5:ny a with
      | true=>
       cases h6:ny b with
       | true=>
        exact⟨ext m [D9 f.cells,D9 f.cmp,D9 [.int .i64 f.hlo,.int .i64 f.hhi]],by simp [f38,F3,trD,H9,w9,p8,l8,D5,D7,j5 hm,j6 hm,G6 hm hl,x9 hm hl,l9 hm,l5 hm,G5,r9,C8,A8,K4,hk,o1,o2,o3,p1,p2,c1,U8,bX,aU,h0,h1,h2,h3,h4,h5,h6],G7 hm _⟩
       | false=>exact⟨ext m [D9 f.cells,D9 f.cmp,D9 [.int .i64 f.hlo,.int .i64 f.hhi]],by simp [f38,F3,trD,H9,w9,p8,l8,D5,D7,j5 hm,j6 hm,G6 hm hl,x9 hm hl,l9 hm,l5 hm,G5,r9,C8,A8,K4,hk,o1,o2,o3,p1,p2,c1,U8,bX,aU,h0,h1,h2,h3,h4,h5,h6],G7 hm _⟩
      | false=>exact⟨ext m [D9 f.cells,D9 f.cmp,D9 [.int .i64 f.hlo,.int .i64 f.hhi]],by simp [f38,F3,trD,H9,w9,p8,l8,D5,D7,j5 hm,j6 hm,G6 hm hl,x9 hm hl,l9 hm,l5 hm,G5,r9,C8,A8,K4,hk,o1,o2,o3,p1,p2,c1,U8,bX,aU,h0,h1,h2,h3,h4,h5],G7 hm _⟩
     | false=>exact⟨ext m [D9 f.cells,D9 f.cmp,D9 [.int .i64 f.hlo,.int .i64 f.hhi]],by simp [f38,F3,trD,H9,w9,p8,l8,D5,D7,j5 hm,j6 hm,G6 hm hl,x9 hm hl,l9 hm,l5 hm,G5,r9,C8,A8,K4,hk,o1,o2,o3,p1,p2,c1,U8,bX,aU,h0,h1,h2,h3,h4],G7 hm _⟩
    | false=>exact⟨ext m [D9 f.cells,D9 f.cmp],by simp [f38,F3,trD,H9,w9,p8,l8,D5,D7,j5 hm,j6 hm,G6 hm hl,x9 hm hl,l9 hm,l5 hm,G5,r9,C8,A8,K4,hk,o1,o2,o3,p1,p2,c1,U8,bX,aU,h0,h1,h2,h3],G7 hm _⟩
   | false=>exact⟨ext m [D9 f.cells,D9 f.cmp],by simp [f38,F3,trD,H9,w9,p8,l8,D5,D7,j5 hm,j6 hm,G6 hm hl,x9 hm hl,l9 hm,l5 hm,G5,r9,C8,A8,K4,hk,o1,o2,o3,p1,p2,c1,U8,bX,aU,h0,h1,h2],G7 hm _⟩
  | false=>exact⟨ext m [D9 f.cells,D9 f.cmp],by simp [f38,F3,trD,H9,w9,p8,l8,D5,D7,j5 hm,j6 hm,G6 hm hl,x9 hm hl,l9 hm,l5 hm,G5,r9,C8,A8,K4,hk,o1,o2,o3,p1,p2,c1,U8,bX,aU,h0,h1],G7 hm _⟩
 | false=>exact⟨ext m [D9 f.cells,D9 f.cmp],by simp [f38,F3,trD,H9,w9,p8,l8,D5,D7,j5 hm,j6 hm,G6 hm hl,x9 hm hl,l9 hm,l5 hm,G5,r9,C8,A8,K4,hk,o1,o2,o3,p1,p2,c1,U8,bX,aU,h0],G7 hm _⟩
theorem ajL {m:Mem}{f:Fct}{a b l:List Int}(hm:m.Ok)(hl:m.lim≤m.next)(hf:W9 m f a b l)(n fu:Nat)(hfu:1000≤fu)(hk:f.kind=6):∃m',G9 KW fu (n+6) (.func 38) [.agg f.cells] m=some [⟨.bool (IZ f l),m'⟩]∧Ext m m':=by
 rw [enter (sf:=f38) rfl rfl]
 have hf2:=hf.ext (G7 hm [D9 f.cells])
 have hv:=hf2.l
 have l1:=hv.len
 obtain⟨x,k,b0,b1,g1,g2⟩:=Pg (f:=f) (p0:=m.next) hv (by have:=hf.ll;omega) n fu l.length 0 (by omega) fu (by have:=hf.ll;omega) .undef .undef
 have c2:decide (2≤((l.length:Nat):Int))=decide (2≤l.length):=by rw [Bool.eq_iff_iff];simp;omega
 have c3:decide (((l.length:Nat):Int)≤5)=decide (l.length≤5):=by rw [Bool.eq_iff_iff];simp;omega
 refine⟨ext m [D9 f.cells],?_,G7 hm _⟩
 cases ha:P9 (okB l) l.length 0 with
 | false=>
  rw [ha] at g2;simp only [cond_false] at g2;subst g2
  simp [F3,trD,H9,w9,p8,l8,D5,D7,j5 hm,j6 hm,l9 hm,l5 hm,G5,r9,C8,A8,K4,l1] at g1
  simp [f38,F3,trD,H9,w9,p8,l8,D5,D7,j5 hm,j6 hm,l9 hm,l5 hm,G5,r9,C8,A8,K4,hk,g1,IZ,ha]
 | true=>
  rw [ha] at g2;simp only [cond_true] at g2;subst g2
  simp [F3,trD,H9,w9,p8,l8,D5,D7,j5 hm,j6 hm,l9 hm,l5 hm,G5,r9,C8,A8,K4,l1] at g1
  cases h1:(decide (0≤f.mday)&&decide (f.mday≤19999)) with
  | true=>simp [f38,F3,trD,H9,w9,p8,l8,D5,D7,j5 hm,j6 hm,l9 hm,l5 hm,G5,r9,C8,A8,K4,hk,g1,l1,IZ,ha,U8,h1,c2,c3]
  | false=>simp [f38,F3,trD,H9,w9,p8,l8,D5,D7,j5 hm,j6 hm,l9 hm,l5 hm,G5,r9,C8,A8,K4,hk,g1,l1,IZ,ha,U8,h1]
theorem ajM {m:Mem}{f:Fct}{a b l:List Int}(hm:m.Ok)(hl:m.lim≤m.next)(hf:W9 m f a b l)(n fu:Nat)(hfu:1000≤fu)(hk:f.kind=7):∃m',G9 KW fu (n+6) (.func 38) [.agg f.cells] m=some [⟨.bool (wdB f),m'⟩]∧Ext m m':=by
 rw [enter (sf:=f38) rfl rfl]
 cases h0:(decide (1≤f.tr)&&decide (f.tr≤6)) with
 | true=>
  cases h1:(decide (1≤f.tn)&&decide (f.tn≤60)) with
  | true=>
   cases h2:decide (f.tr=f.room) with
   | true=>
    cases h3:decide (f.tn=f.no) with
    | true=>
     exact⟨ext m [D9 f.cells],by simp [f38,F3,trD,H9,w9,p8,l8,D5,D7,j5 hm,j6 hm,l9 hm,l5 hm,G5,r9,C8,A8,K4,hk,U8,wdB,h0,h1,h2,h3],G7 hm _⟩
    | false=>exact⟨ext m [D9 f.cells],by simp [f38,F3,trD,H9,w9,p8,l8,D5,D7,j5 hm,j6 hm,l9 hm,l5 hm,G5,r9,C8,A8,K4,hk,U8,wdB,h0,h1,h2,h3],G7 hm _⟩
   | false=>exact⟨ext m [D9 f.cells],by simp [f38,F3,trD,H9,w9,p8,l8,D5,D7,j5 hm,j6 hm,l9 hm,l5 hm,G5,r9,C8,A8,K4,hk,U8,wdB,h0,h1,h2],G7 hm _⟩
  | false=>exact⟨ext m [D9 f.cells],by simp [f38,F3,trD,H9,w9,p8,l8,D5,D7,j5 hm,j6 hm,l9 hm,l5 hm,G5,r9,C8,A8,K4,hk,U8,wdB,h0,h1],G7 hm _⟩
 | false=>exact⟨ext m [D9 f.cells],by simp [f38,F3,trD,H9,w9,p8,l8,D5,D7,j5 hm,j6 hm,l9 hm,l5 hm,G5,r9,C8,A8,K4,hk,U8,wdB,h0],G7 hm _⟩
theorem ajN {m:Mem}{f:Fct}{a b l:List Int}(hm:m.Ok)(hl:m.lim≤m.next)(hf:W9 m f a b l)(n fu:Nat)(hfu:1000≤fu)(h1:f.kind≠1)(h2:f.kind≠2)(h3:f.kind≠3)(h4:f.kind≠4)(h5:f.kind≠5)(h6:f.kind≠6)(h7:f.kind≠7):∃m',G9 KW fu (n+6) (.func 38) [.agg f.cells] m=some [⟨.bool false,m'⟩]∧Ext m m':=by
 rw [enter (sf:=f38) rfl rfl]
 exact⟨ext m [D9 f.cells],by simp [f38,F3,trD,H9,w9,p8,l8,D5,D7,j5 hm,j6 hm,l9 hm,l5 hm,G5,r9,C8,A8,K4,h1,h2,h3,h4,h5,h6,h7],G7 hm _⟩
theorem Yk {m:Mem}{f:Fct}{a b l:List Int}(hm:m.Ok)(hl:m.lim≤m.next)(hf:W9 m f a b l)(n fu:Nat)(hfu:1000≤fu)(ha:gF f.gn)(hb:gF f.gd):∃m',G9 KW fu (n+6) (.func 38) [.agg f.cells] m=some [⟨.bool (zB f a b l),m'⟩]∧Ext m m':=by
 unfold zB
 by_cases h1:f.kind=1
 ·rw [if_pos h1];exact ajG hm hl hf n fu hfu h1
 rw [if_neg h1]
 by_cases h2:f.kind=2
 ·rw [if_pos h2];exact ajH hm hl hf n fu hfu ha hb h2
 rw [if_neg h2]
 by_cases h3:f.kind=3
 ·rw [if_pos h3];exact ajI hm hl hf n fu hfu h3
 rw [if_neg h3]
 by_cases h4:f.kind=4
 ·rw [if_pos h4];exact ajJ hm hl hf n fu hfu h4
 rw [if_neg h4]
 by_cases h5:f.kind=5
 ·rw [if_pos h5];exact ajK hm hl hf n fu hfu h5
 rw [if_neg h5]
 by_cases h6:f.kind=6
 ·rw [if_pos h6];exact ajL hm hl hf n fu hfu h6
 rw [if_neg h6]
 by_cases h7:f.kind=7
 ·rw [if_pos h7];exact ajM hm hl hf n fu hfu h7
 rw [if_neg h7]
 exact ajN hm hl hf n fu hfu h1 h2 h3 h4 h5 h6 h7
end Go.Proofs.YtefodipjjofocaaGreatDoor.TT
namespace Go.Proofs.YtefodipjjofocaaGreatDoor.TT
open Go Go.AM
set_option linter.unusedSimpArgs false
set_option linter.unusedVariables false
set_option maxRecDepth 100000
set_option maxHeartbeats 2000000
def Ph (f:Fct)(a b l:List Int):Bool:=Z5 f (O0 f) a b l (if f.kind=5 then a else []) (if f.kind=5 then b else []) (if f.kind=6 then l else [])
def V7 (f:Fct):Bool:=(decide (1≤f.room)&&decide (f.room≤6))&&((decide (1≤f.no)&&decide (f.no≤60))&&(decide (0≤f.known)&&decide (f.known≤1099511627776)))
def jZ (f:Fct)(a b l:List Int):Bool:=V7 f&&(zB f a b l&&Ph f a b l)
theorem Yl {m:Mem}{f:Fct}{a b l:List Int}(hm:m.Ok)(hl:m.lim≤m.next)(hf:W9 m f a b l)(n fu:Nat)(hfu:1000≤fu)(ha:gF f.gn)(hb:gF f.gd):∃m',G9 KW fu (n+7) (.func 12) [.agg f.cells] m=some [⟨.bool (jZ f a b l),m'⟩]∧Ext m m':=by
 rw [enter (sf:=f12) rfl rfl]
 have hf1:=hf.ext (G7 hm [D9 f.cells])
 obtain⟨m1,g1,E1⟩:=Yk (K5 hm [D9 f.cells]) (by simp;omega) hf1 n fu hfu ha hb
 have k1:m1.Ok:=E1.ok
 have E01:=(G7 hm [D9 f.cells]).trans E1
 have l1:m1.lim≤m1.next:=by rw [E01.lim];have:=E01.next;omega
 have q1:m1.get m.next=some (D9 f.cells):=by rw [E1.old _ (by simp),j5 hm];rfl
 have q2:∀bs,(ext m1 bs).get m.next=some (D9 f.cells):=fun bs=>by rw [H7 k1 _ (by have:=E1.next;simp at this;omega)];exact q1
 have hf2:=hf.ext E01
 have g2:=XY k1 l1 hf2 (n+5) fu
 have B:=[D9 f.cells,D9 (O0 f).cells,D9 (O0 f).cells]
 have hf3:=hf2.ext (G7 k1 [D9 f.cells,D9 (O0 f).cells,D9 (O0 f).cells])
 have g3:=Gl (K5 k1 _) hf3 (jY hf3) (n+3) fu hfu
 have q3:=q2 [D9 f.cells,D9 (O0 f).cells,D9 (O0 f).cells]
 cases h0:(decide (1≤f.room)&&decide (f.room≤6)) with
 | true=>
  cases h1:(decide (1≤f.no)&&decide (f.no≤60)) with
  | true=>
   cases h2:(decide (0≤f.known)&&decide (f.known≤1099511627776)) with
   | true=>
    cases hF:zB f a b l with
    | false=>
     rw [hF] at g1
     exact⟨m1,by simp [f12,F3,trD,H9,w9,p8,l8,D5,D7,j5 hm,j6 hm,G6 hm hl,x9 hm hl,l9 hm,l5 hm,G5,r9,C8,A8,K4,U8,zA,jZ,V7,h0,h1,h2,hF,g1,q1],E01⟩
    | true=>
     rw [hF] at g1
     exact⟨ext m1 ([D9 f.cells,D9 (O0 f).cells,D9 (O0 f).cells] ++ [D9 f.cells,D9 (O0 f).cells,D9 f.cmp,D9 (O0 f).cmp]),by simp [f12,F3,trD,H9,w9,p8,l8,D5,D7,j5 hm,j6 hm,G6 hm hl,x9 hm hl,l9 hm,l5 hm,G5,r9,C8,A8,K4,U8,zA,jZ,V7,h0,h1,h2,hF,g1,q1,g2,q3,g3,hf.same,Ph],E01.trans (G7 k1 ([D9 f.cells,D9 (O0 f).cells,D9 (O0 f).cells] ++ [D9 f.cells,D9 (O0 f).cells,D9 f.cmp,D9 (O0 f).cmp]))⟩
   | false=>exact⟨ext m [D9 f.cells],by simp [f12,F3,trD,H9,w9,p8,l8,D5,D7,j5 hm,j6 hm,l9 hm,l5 hm,G5,r9,C8,A8,K4,U8,zA,jZ,V7,h0,h1,h2],G7 hm _⟩
  | false=>exact⟨ext m [D9 f.cells],by simp [f12,F3,trD,H9,w9,p8,l8,D5,D7,j5 hm,j6 hm,l9 hm,l5 hm,G5,r9,C8,A8,K4,U8,zA,jZ,V7,h0,h1],G7 hm _⟩
 | false=>exact⟨ext m [D9 f.cells],by simp [f12,F3,trD,H9,w9,p8,l8,D5,D7,j5 hm,j6 hm,l9 hm,l5 hm,G5,r9,C8,A8,K4,U8,zA,jZ,V7,h0],G7 hm _⟩
end Go.Proofs.YtefodipjjofocaaGreatDoor.TT
namespace Go.Proofs.YtefodipjjofocaaGreatDoor.TT
open Go Go.AM
set_option linter.unusedSimpArgs false
set_option linter.unusedVariables false
set_option maxRecDepth 100000
set_option maxHeartbeats 2000000
theorem P6 (f:EqF)(k:o8)(e:o8×o8)(es:List (o8×o8))(i:Nat):findKey f k (e::es) i=ob (f k e.1) fun b=>bi b (some (some (i,e.2))) (findKey f k es (i+1)):=rfl
theorem Q5 (f:EqF)(k:o8)(i:Nat):findKey f k [] i=some none:=rfl
noncomputable def fieldMap:List (o8×o8):=[(.int .i64 1,.agg [.func (.func 135) [] [],.func (.func 137) [] []]),(.int .i64 2,.agg [.func (.func 138) [] [],.func (.func 139) [] []]),(.int .i64 3,.agg [.func (.func 140) [] [],.func (.func 142) [] []]),(.int .i64 4,.agg [.func (.func 143) [] [],.func (.func 144) [] []]),(.int .i64 5,.agg [.func (.func 145) [] [],.func (.func 147) [] []]),(.int .i64 6,.agg [.func (.func 148) [] [],.func (.func 150) [] []]),(.int .i64 7,.agg [.func (.func 151) [] [],.func (.func 152) [] []])]
theorem dY (f:EqF)(n:Nat)(zero:o8)(ok:Bool)(mp k:OF)(ls:List o8)(env:T o8)(m:Mem)(id:Nat)(es:List (o8×o8))(h:mp ls env=.map id)(hg:m.get id=some (.map es)):
  bB f n zero ok mp k ls env m=ob (R8 f n (k ls env) es) fun r=>found ok zero r:=by
 show wo (mp ls env) _ _=_
 rw [h]
 show vEs (m.get id) _=_
 rw [hg];rfl
theorem pz (n fu:Nat)(m:Mem)(hm:m.Ok)(hl:m.lim≤m.next):G9 KW fu (n+1) (.func 68) [] m=some [⟨.map m.next,ext m [.map fieldMap]⟩]:=by
 rw [enter (sf:=f68) rfl rfl]
 have hbl:Nat.blt m.next m.lim=false:=by have:=ze hl [];rwa [gu] at this
 simp [f68,F3,trD,H9,w9,p8,l8,D5,D7,j5 hm,j6 hm,G6 hm hl,x9 hm hl,l9 hm,l5 hm,G5,r9,C8,A8,K4,kQ,hbl,vM,oW,V6,P6,Q5,Y2,fieldMap]
end Go.Proofs.YtefodipjjofocaaGreatDoor.TT
namespace Go.Proofs.YtefodipjjofocaaGreatDoor.TT
open Go Go.AM
set_option linter.unusedSimpArgs false
set_option linter.unusedVariables false
set_option maxRecDepth 100000
set_option maxHeartbeats 2000000
theorem gy (f:Fct):Q6 (Q0 f).cells=true:=rfl
def lS (f:Fct)(a b l:List Int):Bool:=Z5 (O0 f) f (if f.kind=5 then a else []) (if f.kind=5 then b else []) (if f.kind=6 then l else []) a b l
theorem ajO {m:Mem}{f:Fct}{a b l:List Int}(hm:m.Ok)(hl:m.lim≤m.next)(hf:W9 m f a b l)(n fu:Nat)(hfu:1000≤fu)(ha:gF f.gn)(hb:gF f.gd)(h1:f.kind≠1)(h2:f.kind≠2)(h3:f.kind≠3)(h4:f.kind≠4)(h5:f.kind≠5)(h6:f.kind≠6)(h7:f.kind≠7):∃m',G9 KW fu (n+11) (.func 34) [.agg f.cells] m=some [⟨.bool false,m'⟩]∧Ext m m':=by
 rw [enter (sf:=f34) rfl rfl]
 have c68:=pz (n+9) fu (ext m [D9 f.cells,.void]) (K5 hm _) (by simp;omega)
 have hlook:∀(mp k:OF) ls env,mp ls env=.map (m.next+2)→k ls env=.int .i64 f.kind→bB X9 1 (.agg [.nilFunc,.nilFunc]) true mp k ls env (ext m [D9 f.cells,.void,.map fieldMap])=some (.tuple [.agg [.nilFunc,.nilFunc],.bool false]):=by
  intro mp k ls env e1 e2
  rw [dY _ _ _ _ _ _ _ _ _ _ fieldMap e1 (by rw [j6 hm];rfl),e2]
  simp [fieldMap,V6,P6,Q5,Y2,h1,h2,h3,h4,h5,h6,h7]
  rfl
 exact⟨ext m [D9 f.cells,D9 [.nilFunc,.nilFunc],.map fieldMap],by simp [f34,F3,trD,H9,w9,p8,l8,D5,D7,j5 hm,j6 hm,G6 hm hl,x9 hm hl,l9 hm,l5 hm,G5,r9,C8,A8,K4,c68,hlook,K6,isVoid,Nat.add_assoc],G7 hm _⟩
theorem ajP {m:Mem}{f:Fct}{a b l:List Int}(hm:m.Ok)(hl:m.lim≤m.next)(hf:W9 m f a b l)(n fu:Nat)(hfu:1000≤fu)(ha:gF f.gn)(hb:gF f.gd)(hk:f.kind=1):∃m',G9 KW fu (n+11) (.func 34) [.agg f.cells] m=some [⟨.bool (V7 f&&(Dy f&&lS f a b l)),m'⟩]∧Ext m m':=by
 rw [enter (sf:=f34) rfl rfl]
 have c68:=pz (n+9) fu (ext m [D9 f.cells,.void]) (K5 hm _) (by simp;omega)
 have hlook:∀(mp k:OF) ls env,mp ls env=.map (m.next+2)→k ls env=.int .i64 1→bB X9 1 (.agg [.nilFunc,.nilFunc]) true mp k ls env (ext m [D9 f.cells,.void,.map fieldMap])=some (.tuple [.agg [.func (.func 135) [] [],.func (.func 137) [] []],.bool true]):=by
  intro mp k ls env e1 e2
  rw [dY _ _ _ _ _ _ _ _ _ _ fieldMap e1 (by rw [j6 hm];rfl),e2]
  simp [fieldMap,V6,P6,Q5,Y2]
  rfl
 have hf3:=hf.ext (G7 hm [D9 f.cells,D9 [.func (.func 135) [] [],.func (.func 137) [] []],.map fieldMap])
 have E0:=G7 hm [D9 f.cells,D9 [.func (.func 135) [] [],.func (.func 137) [] []],.map fieldMap]
 obtain⟨m1,g1,E1⟩:∃m1,G9 KW fu (n+10) (.func 135) [.agg f.cells] (ext m [D9 f.cells,D9 [.func (.func 135) [] [],.func (.func 137) [] []],.map fieldMap])=some [⟨.bool (Dy f),m1⟩]∧Ext (ext m [D9 f.cells,D9 [.func (.func 135) [] [],.func (.func 137) [] []],.map fieldMap]) m1:=Od (n+8) fu f _ (K5 hm _) (by simp;omega)
 have k1:m1.Ok:=E1.ok
 have E01:=E0.trans E1
 have n1:m.next+3≤m1.next:=by have:=E1.next;simpa using this
 have l1:m1.lim≤m1.next:=by rw [E01.lim];omega
 have q1:m1.get m.next=some (D9 f.cells):=by rw [E1.old _ (by simp),j5 hm];rfl
 have q2:m1.get (m.next+1)=some (D9 [.func (.func 135) [] [],.func (.func 137) [] []]):=by rw [E1.old _ (by simp),j6 hm];rfl
 have q1':(ext m1 [D9 (Q0 f).cells]).get m.next=some (D9 f.cells):=by rw [H7 k1 _ (by omega)];exact q1
 have q2':(ext m1 [D9 (Q0 f).cells]).get (m.next+1)=some (D9 [.func (.func 135) [] [],.func (.func 137) [] []]):=by rw [H7 k1 _ (by omega)];exact q2
 obtain⟨m2,g2,k2,lm2,n2,o2,p2⟩:=Ow (g:=Q0 f) (p:=m1.next) (K5 k1 [D9 (Q0 f).cells]) (by simp;omega) (by simp) ((hf.ext E01).ext (G7 k1 _)) (by rw [j5 k1];rfl) (n+9) fu
 have n2':m1.next+1≤m2.next:=by simpa using n2
 have E02:Ext m m2:=⟨k2,by omega,by rw [lm2,gu];exact E01.lim,fun i hi=>by rw [o2 i (by simp;omega) (by omega),H7 k1 _ (by omega)];exact E01.old i hi⟩
 have q3:m2.get m.next=some (D9 f.cells):=by rw [o2 _ (by simp;omega) (by omega)];exact q1'
 have hbF:({Q0 f with flo:=f.flo,fhi:=f.fhi}:Fct)=O0 f:=by simp [O0,hk]
 rw [hbF] at p2
 have hfz:=hf.ext E02
 have g3:=pq k2 (by rw [E02.lim];omega) (jY hfz) hfz (n+7) fu hfu
 have hz:[o8.int .i64 f.room,.int .i64 f.no,.int .i64 f.known,.int .i64 1,.int .i64 0,.int .i64 0,.int .i64 0,.int .i64 0,.int .i64 0,.int .i64 0,.int .i64 0,.int .i64 0,.int .i64 0,.int .i64 0,.int .i64 0,.int .i64 0,.int .i64 0,.int .i64 0,.int .i64 0,.int .i64 0,.int .i64 0,.int .i64 0,.nilSlice,.nilSlice,.int .i64 0,.int .i64 0,.int .i64 0,.int .i64 0,.int .i64 0,.nilSlice,.int .i64 0,.int .i64 0]=(Q0 f).cells:=by simp [Q0,Fct.cells,hk,-Fct.O8]
 have hz1:=gy f
 cases h0:(decide (1≤f.room)&&decide (f.room≤6)) with
 | true=>
  cases h1:(decide (1≤f.no)&&decide (f.no≤60)) with
  | true=>
   cases h2:(decide (0≤f.known)&&decide (f.known≤1099511627776)) with
   | true=>
    cases hF:Dy f with
    | false=>
     rw [hF] at g1
     exact⟨m1,by simp [f34,F3,trD,H9,w9,p8,l8,D5,D7,j5 hm,j6 hm,G6 hm hl,x9 hm hl,l9 hm,l5 hm,G5,r9,C8,A8,K4,c68,hlook,K6,isVoid,Nat.add_assoc,hk,N9,U5,V7,h0,h1,h2,hF,g1,q1],E01⟩
    | true=>
     rw [hF] at g1
     exact⟨_,by simp [f34,F3,trD,H9,w9,p8,l8,D5,D7,j5 hm,j5 k1,j6 hm,j6 k1,G6 hm hl,G6 k1 l1,x9 k1 l1,x9 hm hl,l9 hm,l9 k1,l5 hm,l5 k1,G5,r9,C8,A8,K4,c68,hlook,K6,isVoid,Nat.add_assoc,hk,N9,U5,V7,h0,h1,h2,hF,g1,q1,q2,hz,hz1,q1',q2',g2,q3,p2,g3,lS],E02.trans (G7 k2 ([D9 (O0 f).cells,D9 f.cells,D9 (O0 f).cells,(O0 f).nm,D9 f.cells,f.nm]++(bif aj (O0 f) f then [D9 (O0 f).cmp,D9 f.cmp] else [])))⟩
   | false=>exact⟨ext m [D9 f.cells,D9 [.func (.func 135) [] [],.func (.func 137) [] []],.map fieldMap],by simp [f34,F3,trD,H9,w9,p8,l8,D5,D7,j5 hm,j6 hm,G6 hm hl,x9 hm hl,l9 hm,l5 hm,G5,r9,C8,A8,K4,c68,hlook,K6,isVoid,Nat.add_assoc,hk,N9,U5,V7,h0,h1,h2],E0⟩
  | false=>exact⟨ext m [D9 f.cells,D9 [.func (.func 135) [] [],.func (.func 137) [] []],.map fieldMap],by simp [f34,F3,trD,H9,w9,p8,l8,D5,D7,j5 hm,j6 hm,G6 hm hl,x9 hm hl,l9 hm,l5 hm,G5,r9,C8,A8,K4,c68,hlook,K6,isVoid,Nat.add_assoc,hk,N9,U5,V7,h0,h1],E0⟩
 | false=>exact⟨ext m [D9 f.cells,D9 [.func (.func 135) [] [],.func (.func 137) [] []],.map fieldMap],by simp [f34,F3,trD,H9,w9,p8,l8,D5,D7,j5 hm,j6 hm,G6 hm hl,x9 hm hl,l9 hm,l5 hm,G5,r9,C8,A8,K4,c68,hlook,K6,isVoid,Nat.add_assoc,hk,N9,U5,V7,h0],E0⟩
theorem ajQ {m:Mem}{f:Fct}{a b l:List Int}(hm:m.Ok)(hl:m.lim≤m.next)(hf:W9 m f a b l)(n fu:Nat)(hfu:1000≤fu)(ha:gF f.gn)(hb:gF f.gd)(hk:f.kind=2):∃m',G9 KW fu (n+11) (.func 34) [.agg f.cells] m=some [⟨.bool (V7 f&&(O9 f&&lS f a b l)),m'⟩]∧Ext m m':=by
 rw [enter (sf:=f34) rfl rfl]
 have c68:=pz (n+9) fu (ext m [D9 f.cells,.void]) (K5 hm _) (by simp;omega)
 have hlook:∀(mp k:OF) ls env,mp ls env=.map (m.next+2)→k ls env=.int .i64 2→bB X9 1 (.agg [.nilFunc,.nilFunc]) true mp k ls env (ext m [D9 f.cells,.void,.map fieldMap])=some (.tuple [.agg [.func (.func 138) [] [],.func (.func 139) [] []],.bool true]):=by
  intro mp k ls env e1 e2
  rw [dY _ _ _ _ _ _ _ _ _ _ fieldMap e1 (by rw [j6 hm];rfl),e2]
  simp [fieldMap,V6,P6,Q5,Y2]
  rfl
 have hf3:=hf.ext (G7 hm [D9 f.cells,D9 [.func (.func 138) [] [],.func (.func 139) [] []],.map fieldMap])
 have E0:=G7 hm [D9 f.cells,D9 [.func (.func 138) [] [],.func (.func 139) [] []],.map fieldMap]
 obtain⟨m1,g1,E1⟩:∃m1,G9 KW fu (n+10) (.func 138) [.agg f.cells] (ext m [D9 f.cells,D9 [.func (.func 138) [] [],.func (.func 139) [] []],.map fieldMap])=some [⟨.bool (O9 f),m1⟩]∧Ext (ext m [D9 f.cells,D9 [.func (.func 138) [] [],.func (.func 139) [] []],.map fieldMap]) m1:=OW ha hb (K5 hm _) (by simp;omega) (n+1) fu hfu
 have k1:m1.Ok:=E1.ok
 have E01:=E0.trans E1
 have n1:m.next+3≤m1.next:=by have:=E1.next;simpa using this
 have l1:m1.lim≤m1.next:=by rw [E01.lim];omega
 have q1:m1.get m.next=some (D9 f.cells):=by rw [E1.old _ (by simp),j5 hm];rfl
 have q2:m1.get (m.next+1)=some (D9 [.func (.func 138) [] [],.func (.func 139) [] []]):=by rw [E1.old _ (by simp),j6 hm];rfl
 have q1':(ext m1 [D9 (Q0 f).cells]).get m.next=some (D9 f.cells):=by rw [H7 k1 _ (by omega)];exact q1
 have q2':(ext m1 [D9 (Q0 f).cells]).get (m.next+1)=some (D9 [.func (.func 138) [] [],.func (.func 139) [] []]):=by rw [H7 k1 _ (by omega)];exact q2
 obtain⟨m2,g2,k2,lm2,n2,o2,p2⟩:=Ox (g:=Q0 f) (p:=m1.next) (K5 k1 [D9 (Q0 f).cells]) (by simp;omega) (by simp) ((hf.ext E01).ext (G7 k1 _)) (by rw [j5 k1];rfl) (n+9) fu
 have n2':m1.next+1≤m2.next:=by simpa using n2
 have E02:Ext m m2:=⟨k2,by omega,by rw [lm2,gu];exact E01.lim,fun i hi=>by rw [o2 i (by simp;omega) (by omega),H7 k1 _ (by omega)];exact E01.old i hi⟩
 have q3:m2.get m.next=some (D9 f.cells):=by rw [o2 _ (by simp;omega) (by omega)];exact q1'
 have hbF:({Q0 f with gid:=f.gid,made:=f.made,nom:=f.nom,tlo:=f.tlo,thi:=f.thi,gn:=f.gn,gd:=f.gd,wear:=f.wear}:Fct)=O0 f:=by simp [O0,hk]
 rw [hbF] at p2
 have hfz:=hf.ext E02
 have g3:=pq k2 (by rw [E02.lim];omega) (jY hfz) hfz (n+7) fu hfu
 have hz:[o8.int .i64 f.room,.int .i64 f.no,.int .i64 f.known,.int .i64 2,.int .i64 0,.int .i64 0,.int .i64 0,.int .i64 0,.int .i64 0,.int .i64 0,.int .i64 0,.int .i64 0,.int .i64 0,.int .i64 0,.int .i64 0,.int .i64 0,.int .i64 0,.int .i64 0,.int .i64 0,.int .i64 0,.int .i64 0,.int .i64 0,.nilSlice,.nilSlice,.int .i64 0,.int .i64 0,.int .i64 0,.int .i64 0,.int .i64 0,.nilSlice,.int .i64 0,.int .i64 0]=(Q0 f).cells:=by simp [Q0,Fct.cells,hk,-Fct.O8]
 have hz1:=gy f
 cases h0:(decide (1≤f.room)&&decide (f.room≤6)) with
 | true=>
  cases h1:(decide (1≤f.no)&&decide (f.no≤60)) with
  | true=>
   cases h2:(decide (0≤f.known)&&decide (f.known≤1099511627776)) with
   | true=>
    cases hF:O9 f with
    | false=>
     rw [hF] at g1
     exact⟨m1,by simp [f34,F3,trD,H9,w9,p8,l8,D5,D7,j5 hm,j6 hm,G6 hm hl,x9 hm hl,l9 hm,l5 hm,G5,r9,C8,A8,K4,c68,hlook,K6,isVoid,Nat.add_assoc,hk,N9,U5,V7,h0,h1,h2,hF,g1,q1],E01⟩
    | true=>
     rw [hF] at g1
     exact⟨_,by simp [f34,F3,trD,H9,w9,p8,l8,D5,D7,j5 hm,j5 k1,j6 hm,j6 k1,G6 hm hl,G6 k1 l1,x9 k1 l1,x9 hm hl,l9 hm,l9 k1,l5 hm,l5 k1,G5,r9,C8,A8,K4,c68,hlook,K6,isVoid,Nat.add_assoc,hk,N9,U5,V7,h0,h1,h2,hF,g1,q1,q2,hz,hz1,q1',q2',g2,q3,p2,g3,lS],E02.trans (G7 k2 ([D9 (O0 f).cells,D9 f.cells,D9 (O0 f).cells,(O0 f).nm,D9 f.cells,f.nm]++(bif aj (O0 f) f then [D9 (O0 f).cmp,D9 f.cmp] else [])))⟩
   | false=>exact⟨ext m [D9 f.cells,D9 [.func (.func 138) [] [],.func (.func 139) [] []],.map fieldMap],by simp [f34,F3,trD,H9,w9,p8,l8,D5,D7,j5 hm,j6 hm,G6 hm hl,x9 hm hl,l9 hm,l5 hm,G5,r9,C8,A8,K4,c68,hlook,K6,isVoid,Nat.add_assoc,hk,N9,U5,V7,h0,h1,h2],E0⟩
  | false=>exact⟨ext m [D9 f.cells,D9 [.func (.func 138) [] [],.func (.func 139) [] []],.map fieldMap],by simp [f34,F3,trD,H9,w9,p8,l8,D5,D7,j5 hm,j6 hm,G6 hm hl,x9 hm hl,l9 hm,l5 hm,G5,r9,C8,A8,K4,c68,hlook,K6,isVoid,Nat.add_assoc,hk,N9,U5,V7,h0,h1],E0⟩
 | false=>exact⟨ext m [D9 f.cells,D9 [.func (.func 138) [] [],.func (.func 139) [] []],.map fieldMap],by simp [f34,F3,trD,H9,w9,p8,l8,D5,D7,j5 hm,j6 hm,G6 hm hl,x9 hm hl,l9 hm,l5 hm,G5,r9,C8,A8,K4,c68,hlook,K6,isVoid,Nat.add_assoc,hk,N9,U5,V7,h0],E0⟩
theorem ajR {m:Mem}{f:Fct}{a b l:List Int}(hm:m.Ok)(hl:m.lim≤m.next)(hf:W9 m f a b l)(n fu:Nat)(hfu:1000≤fu)(ha:gF f.gn)(hb:gF f.gd)(hk:f.kind=3):∃m',G9 KW fu (n+11) (.func 34) [.agg f.cells] m=some [⟨.bool (V7 f&&(Mc f&&lS f a b l)),m'⟩]∧Ext m m':=by
 rw [enter (sf:=f34) rfl rfl]
 have c68:=pz (n+9) fu (ext m [D9 f.cells,.void]) (K5 hm _) (by simp;omega)
 have hlook:∀(mp k:OF) ls env,mp ls env=.map (m.next+2)→k ls env=.int .i64 3→bB X9 1 (.agg [.nilFunc,.nilFunc]) true mp k ls env (ext m [D9 f.cells,.void,.map fieldMap])=some (.tuple [.agg [.func (.func 140) [] [],.func (.func 142) [] []],.bool true]):=by
  intro mp k ls env e1 e2
  rw [dY _ _ _ _ _ _ _ _ _ _ fieldMap e1 (by rw [j6 hm];rfl),e2]
  simp [fieldMap,V6,P6,Q5,Y2]
  rfl
 have hf3:=hf.ext (G7 hm [D9 f.cells,D9 [.func (.func 140) [] [],.func (.func 142) [] []],.map fieldMap])
 have E0:=G7 hm [D9 f.cells,D9 [.func (.func 140) [] [],.func (.func 142) [] []],.map fieldMap]
 obtain⟨m1,g1,E1⟩:∃m1,G9 KW fu (n+10) (.func 140) [.agg f.cells] (ext m [D9 f.cells,D9 [.func (.func 140) [] [],.func (.func 142) [] []],.map fieldMap])=some [⟨.bool (Mc f),m1⟩]∧Ext (ext m [D9 f.cells,D9 [.func (.func 140) [] [],.func (.func 142) [] []],.map fieldMap]) m1:=Oe (n+7) fu f _ (K5 hm _) (by simp;omega)
 have k1:m1.Ok:=E1.ok
 have E01:=E0.trans E1
 have n1:m.next+3≤m1.next:=by have:=E1.next;simpa using this
 have l1:m1.lim≤m1.next:=by rw [E01.lim];omega
 have q1:m1.get m.next=some (D9 f.cells):=by rw [E1.old _ (by simp),j5 hm];rfl
 have q2:m1.get (m.next+1)=some (D9 [.func (.func 140) [] [],.func (.func 142) [] []]):=by rw [E1.old _ (by simp),j6 hm];rfl
 have q1':(ext m1 [D9 (Q0 f).cells]).get m.next=some (D9 f.cells):=by rw [H7 k1 _ (by omega)];exact q1
 have q2':(ext m1 [D9 (Q0 f).cells]).get (m.next+1)=some (D9 [.func (.func 140) [] [],.func (.func 142) [] []]):=by rw [H7 k1 _ (by omega)];exact q2
 obtain⟨m2,g2,k2,lm2,n2,o2,p2⟩:=Oy (g:=Q0 f) (p:=m1.next) (K5 k1 [D9 (Q0 f).cells]) (by simp;omega) (by simp) ((hf.ext E01).ext (G7 k1 _)) (by rw [j5 k1];rfl) (n+9) fu
 have n2':m1.next+1≤m2.next:=by simpa using n2
 have E02:Ext m m2:=⟨k2,by omega,by rw [lm2,gu];exact E01.lim,fun i hi=>by rw [o2 i (by simp;omega) (by omega),H7 k1 _ (by omega)];exact E01.old i hi⟩
 have q3:m2.get m.next=some (D9 f.cells):=by rw [o2 _ (by simp;omega) (by omega)];exact q1'
 have hbF:({Q0 f with ug:=f.ug,ud:=f.ud}:Fct)=O0 f:=by simp [O0,hk]
 rw [hbF] at p2
 have hfz:=hf.ext E02
 have g3:=pq k2 (by rw [E02.lim];omega) (jY hfz) hfz (n+7) fu hfu
 have hz:[o8.int .i64 f.room,.int .i64 f.no,.int .i64 f.known,.int .i64 3,.int .i64 0,.int .i64 0,.int .i64 0,.int .i64 0,.int .i64 0,.int .i64 0,.int .i64 0,.int .i64 0,.int .i64 0,.int .i64 0,.int .i64 0,.int .i64 0,.int .i64 0,.int .i64 0,.int .i64 0,.int .i64 0,.int .i64 0,.int .i64 0,.nilSlice,.nilSlice,.int .i64 0,.int .i64 0,.int .i64 0,.int .i64 0,.int .i64 0,.nilSlice,.int .i64 0,.int .i64 0]=(Q0 f).cells:=by simp [Q0,Fct.cells,hk,-Fct.O8]
 have hz1:=gy f
 cases h0:(decide (1≤f.room)&&decide (f.room≤6)) with
 | true=>
  cases h1:(decide (1≤f.no)&&decide (f.no≤60)) with
  | true=>
   cases h2:(decide (0≤f.known)&&decide (f.known≤1099511627776)) with
   | true=>
    cases hF:Mc f with
    | false=>
     rw [hF] at g1
     exact⟨m1,by simp [f34,F3,trD,H9,w9,p8,l8,D5,D7,j5 hm,j6 hm,G6 hm hl,x9 hm hl,l9 hm,l5 hm,G5,r9,C8,A8,K4,c68,hlook,K6,isVoid,Nat.add_assoc,hk,N9,U5,V7,h0,h1,h2,hF,g1,q1],E01⟩
    | true=>
     rw [hF] at g1
     exact⟨_,by simp [f34,F3,trD,H9,w9,p8,l8,D5,D7,j5 hm,j5 k1,j6 hm,j6 k1,G6 hm hl,G6 k1 l1,x9 k1 l1,x9 hm hl,l9 hm,l9 k1,l5 hm,l5 k1,G5,r9,C8,A8,K4,c68,hlook,K6,isVoid,Nat.add_assoc,hk,N9,U5,V7,h0,h1,h2,hF,g1,q1,q2,hz,hz1,q1',q2',g2,q3,p2,g3,lS],E02.trans (G7 k2 ([D9 (O0 f).cells,D9 f.cells,D9 (O0 f).cells,(O0 f).nm,D9 f.cells,f.nm]++(bif aj (O0 f) f then [D9 (O0 f).cmp,D9 f.cmp] else [])))⟩
   | false=>exact⟨ext m [D9 f.cells,D9 [.func (.func 140) [] [],.func (.func 142) [] []],.map fieldMap],by simp [f34,F3,trD,H9,w9,p8,l8,D5,D7,j5 hm,j6 hm,G6 hm hl,x9 hm hl,l9 hm,l5 hm,G5,r9,C8,A8,K4,c68,hlook,K6,isVoid,Nat.add_assoc,hk,N9,U5,V7,h0,h1,h2],E0⟩
  | false=>exact⟨ext m [D9 f.cells,D9 [.func (.func 140) [] [],.func (.func 142) [] []],.map fieldMap],by simp [f34,F3,trD,H9,w9,p8,l8,D5,D7,j5 hm,j6 hm,G6 hm hl,x9 hm hl,l9 hm,l5 hm,G5,r9,C8,A8,K4,c68,hlook,K6,isVoid,Nat.add_assoc,hk,N9,U5,V7,h0,h1],E0⟩
 | false=>exact⟨ext m [D9 f.cells,D9 [.func (.func 140) [] [],.func (.func 142) [] []],.map fieldMap],by simp [f34,F3,trD,H9,w9,p8,l8,D5,D7,j5 hm,j6 hm,G6 hm hl,x9 hm hl,l9 hm,l5 hm,G5,r9,C8,A8,K4,c68,hlook,K6,isVoid,Nat.add_assoc,hk,N9,U5,V7,h0],E0⟩
theorem ajS {m:Mem}{f:Fct}{a b l:List Int}(hm:m.Ok)(hl:m.lim≤m.next)(hf:W9 m f a b l)(n fu:Nat)(hfu:1000≤fu)(ha:gF f.gn)(hb:gF f.gd)(hk:f.kind=4):∃m',G9 KW fu (n+11) (.func 34) [.agg f.cells] m=some [⟨.bool (V7 f&&(nA f&&lS f a b l)),m'⟩]∧Ext m m':=by
 rw [enter (sf:=f34) rfl rfl]
 have c68:=pz (n+9) fu (ext m [D9 f.cells,.void]) (K5 hm _) (by simp;omega)
 have hlook:∀(mp k:OF) ls env,mp ls env=.map (m.next+2)→k ls env=.int .i64 4→bB X9 1 (.agg [.nilFunc,.nilFunc]) true mp k ls env (ext m [D9 f.cells,.void,.map fieldMap])=some (.tuple [.agg [.func (.func 143) [] [],.func (.func 144) [] []],.bool true]):=by
  intro mp k ls env e1 e2
  rw [dY _ _ _ _ _ _ _ _ _ _ fieldMap e1 (by rw [j6 hm];rfl),e2]
  simp [fieldMap,V6,P6,Q5,Y2]
  rfl
 have hf3:=hf.ext (G7 hm [D9 f.cells,D9 [.func (.func 143) [] [],.func (.func 144) [] []],.map fieldMap])
 have E0:=G7 hm [D9 f.cells,D9 [.func (.func 143) [] [],.func (.func 144) [] []],.map fieldMap]
 obtain⟨m1,g1,E1⟩:∃m1,G9 KW fu (n+10) (.func 143) [.agg f.cells] (ext m [D9 f.cells,D9 [.func (.func 143) [] [],.func (.func 144) [] []],.map fieldMap])=some [⟨.bool (nA f),m1⟩]∧Ext (ext m [D9 f.cells,D9 [.func (.func 143) [] [],.func (.func 144) [] []],.map fieldMap]) m1:=Oo (n+7) fu f _ (K5 hm _) (by simp;omega)
 have k1:m1.Ok:=E1.ok
 have E01:=E0.trans E1
 have n1:m.next+3≤m1.next:=by have:=E1.next;simpa using this
 have l1:m1.lim≤m1.next:=by rw [E01.lim];omega
 have q1:m1.get m.next=some (D9 f.cells):=by rw [E1.old _ (by simp),j5 hm];rfl
 have q2:m1.get (m.next+1)=some (D9 [.func (.func 143) [] [],.func (.func 144) [] []]):=by rw [E1.old _ (by simp),j6 hm];rfl
 have q1':(ext m1 [D9 (Q0 f).cells]).get m.next=some (D9 f.cells):=by rw [H7 k1 _ (by omega)];exact q1
 have q2':(ext m1 [D9 (Q0 f).cells]).get (m.next+1)=some (D9 [.func (.func 143) [] [],.func (.func 144) [] []]):=by rw [H7 k1 _ (by omega)];exact q2
 obtain⟨m2,g2,k2,lm2,n2,o2,p2⟩:=Oz (g:=Q0 f) (p:=m1.next) (K5 k1 [D9 (Q0 f).cells]) (by simp;omega) (by simp) ((hf.ext E01).ext (G7 k1 _)) (by rw [j5 k1];rfl) (n+9) fu
 have n2':m1.next+1≤m2.next:=by simpa using n2
 have E02:Ext m m2:=⟨k2,by omega,by rw [lm2,gu];exact E01.lim,fun i hi=>by rw [o2 i (by simp;omega) (by omega),H7 k1 _ (by omega)];exact E01.old i hi⟩
 have q3:m2.get m.next=some (D9 f.cells):=by rw [o2 _ (by simp;omega) (by omega)];exact q1'
 have hbF:({Q0 f with lg:=f.lg,ll:=f.ll,lh:=f.lh,lw:=f.lw}:Fct)=O0 f:=by simp [O0,hk]
 rw [hbF] at p2
 have hfz:=hf.ext E02
 have g3:=pq k2 (by rw [E02.lim];omega) (jY hfz) hfz (n+7) fu hfu
 have hz:[o8.int .i64 f.room,.int .i64 f.no,.int .i64 f.known,.int .i64 4,.int .i64 0,.int .i64 0,.int .i64 0,.int .i64 0,.int .i64 0,.int .i64 0,.int .i64 0,.int .i64 0,.int .i64 0,.int .i64 0,.int .i64 0,.int .i64 0,.int .i64 0,.int .i64 0,.int .i64 0,.int .i64 0,.int .i64 0,.int .i64 0,.nilSlice,.nilSlice,.int .i64 0,.int .i64 0,.int .i64 0,.int .i64 0,.int .i64 0,.nilSlice,.int .i64 0,.int .i64 0]=(Q0 f).cells:=by simp [Q0,Fct.cells,hk,-Fct.O8]
 have hz1:=gy f
 cases h0:(decide (1≤f.room)&&decide (f.room≤6)) with
 | true=>
  cases h1:(decide (1≤f.no)&&decide (f.no≤60)) with
  | true=>
   cases h2:(decide (0≤f.known)&&decide (f.known≤1099511627776)) with
   | true=>
    cases hF:nA f with
    | false=>
     rw [hF] at g1
     exact⟨m1,by simp [f34,F3,trD,H9,w9,p8,l8,D5,D7,j5 hm,j6 hm,G6 hm hl,x9 hm hl,l9 hm,l5 hm,G5,r9,C8,A8,K4,c68,hlook,K6,isVoid,Nat.add_assoc,hk,N9,U5,V7,h0,h1,h2,hF,g1,q1],E01⟩
    | true=>
     rw [hF] at g1
     exact⟨_,by simp [f34,F3,trD,H9,w9,p8,l8,D5,D7,j5 hm,j5 k1,j6 hm,j6 k1,G6 hm hl,G6 k1 l1,x9 k1 l1,x9 hm hl,l9 hm,l9 k1,l5 hm,l5 k1,G5,r9,C8,A8,K4,c68,hlook,K6,isVoid,Nat.add_assoc,hk,N9,U5,V7,h0,h1,h2,hF,g1,q1,q2,hz,hz1,q1',q2',g2,q3,p2,g3,lS],E02.trans (G7 k2 ([D9 (O0 f).cells,D9 f.cells,D9 (O0 f).cells,(O0 f).nm,D9 f.cells,f.nm]++(bif aj (O0 f) f then [D9 (O0 f).cmp,D9 f.cmp] else [])))⟩
   | false=>exact⟨ext m [D9 f.cells,D9 [.func (.func 143) [] [],.func (.func 144) [] []],.map fieldMap],by simp [f34,F3,trD,H9,w9,p8,l8,D5,D7,j5 hm,j6 hm,G6 hm hl,x9 hm hl,l9 hm,l5 hm,G5,r9,C8,A8,K4,c68,hlook,K6,isVoid,Nat.add_assoc,hk,N9,U5,V7,h0,h1,h2],E0⟩
  | false=>exact⟨ext m [D9 f.cells,D9 [.func (.func 143) [] [],.func (.func 144) [] []],.map fieldMap],by simp [f34,F3,trD,H9,w9,p8,l8,D5,D7,j5 hm,j6 hm,G6 hm hl,x9 hm hl,l9 hm,l5 hm,G5,r9,C8,A8,K4,c68,hlook,K6,isVoid,Nat.add_assoc,hk,N9,U5,V7,h0,h1],E0⟩
 | false=>exact⟨ext m [D9 f.cells,D9 [.func (.func 143) [] [],.func (.func 144) [] []],.map fieldMap],by simp [f34,F3,trD,H9,w9,p8,l8,D5,D7,j5 hm,j6 hm,G6 hm hl,x9 hm hl,l9 hm,l5 hm,G5,r9,C8,A8,K4,c68,hlook,K6,isVoid,Nat.add_assoc,hk,N9,U5,V7,h0],E0⟩
theorem ajT {m:Mem}{f:Fct}{a b l:List Int}(hm:m.Ok)(hl:m.lim≤m.next)(hf:W9 m f a b l)(n fu:Nat)(hfu:1000≤fu)(ha:gF f.gn)(hb:gF f.gd)(hk:f.kind=5):∃m',G9 KW fu (n+11) (.func 34) [.agg f.cells] m=some [⟨.bool (V7 f&&(aU f a b&&lS f a b l)),m'⟩]∧Ext m m':=by
 rw [enter (sf:=f34) rfl rfl]
 have c68:=pz (n+9) fu (ext m [D9 f.cells,.void]) (K5 hm _) (by simp;omega)
 have hlook:∀(mp k:OF) ls env,mp ls env=.map (m.next+2)→k ls env=.int .i64 5→bB X9 1 (.agg [.nilFunc,.nilFunc]) true mp k ls env (ext m [D9 f.cells,.void,.map fieldMap])=some (.tuple [.agg [.func (.func 145) [] [],.func (.func 147) [] []],.bool true]):=by
  intro mp k ls env e1 e2
  rw [dY _ _ _ _ _ _ _ _ _ _ fieldMap e1 (by rw [j6 hm];rfl),e2]
  simp [fieldMap,V6,P6,Q5,Y2]
  rfl
 have hf3:=hf.ext (G7 hm [D9 f.cells,D9 [.func (.func 145) [] [],.func (.func 147) [] []],.map fieldMap])
 have E0:=G7 hm [D9 f.cells,D9 [.func (.func 145) [] [],.func (.func 147) [] []],.map fieldMap]
 obtain⟨m1,g1,E1⟩:∃m1,G9 KW fu (n+10) (.func 145) [.agg f.cells] (ext m [D9 f.cells,D9 [.func (.func 145) [] [],.func (.func 147) [] []],.map fieldMap])=some [⟨.bool (aU f a b),m1⟩]∧Ext (ext m [D9 f.cells,D9 [.func (.func 145) [] [],.func (.func 147) [] []],.map fieldMap]) m1:=Ot (K5 hm _) (by simp;omega) hf3 n fu hfu
 have k1:m1.Ok:=E1.ok
 have E01:=E0.trans E1
 have n1:m.next+3≤m1.next:=by have:=E1.next;simpa using this
 have l1:m1.lim≤m1.next:=by rw [E01.lim];omega
 have q1:m1.get m.next=some (D9 f.cells):=by rw [E1.old _ (by simp),j5 hm];rfl
 have q2:m1.get (m.next+1)=some (D9 [.func (.func 145) [] [],.func (.func 147) [] []]):=by rw [E1.old _ (by simp),j6 hm];rfl
 have q1':(ext m1 [D9 (Q0 f).cells]).get m.next=some (D9 f.cells):=by rw [H7 k1 _ (by omega)];exact q1
 have q2':(ext m1 [D9 (Q0 f).cells]).get (m.next+1)=some (D9 [.func (.func 145) [] [],.func (.func 147) [] []]):=by rw [H7 k1 _ (by omega)];exact q2
 obtain⟨m2,g2,k2,lm2,n2,o2,p2⟩:=OA (g:=Q0 f) (p:=m1.next) (K5 k1 [D9 (Q0 f).cells]) (by simp;omega) (by simp) ((hf.ext E01).ext (G7 k1 _)) (by rw [j5 k1];rfl) (n+9) fu
 have n2':m1.next+1≤m2.next:=by simpa using n2
 have E02:Ext m m2:=⟨k2,by omega,by rw [lm2,gu];exact E01.lim,fun i hi=>by rw [o2 i (by simp;omega) (by omega),H7 k1 _ (by omega)];exact E01.old i hi⟩
 have q3:m2.get m.next=some (D9 f.cells):=by rw [o2 _ (by simp;omega) (by omega)];exact q1'
 have hbF:({Q0 f with cid:=f.cid,cday:=f.cday,A:=f.A,B:=f.B,diff:=f.diff,err:=f.err,hlo:=f.hlo,hhi:=f.hhi}:Fct)=O0 f:=by simp [O0,hk]
 rw [hbF] at p2
 have hfz:=hf.ext E02
 have g3:=pq k2 (by rw [E02.lim];omega) (jY hfz) hfz (n+7) fu hfu
 have hz:[o8.int .i64 f.room,.int .i64 f.no,.int .i64 f.known,.int .i64 5,.int .i64 0,.int .i64 0,.int .i64 0,.int .i64 0,.int .i64 0,.int .i64 0,.int .i64 0,.int .i64 0,.int .i64 0,.int .i64 0,.int .i64 0,.int .i64 0,.int .i64 0,.int .i64 0,.int .i64 0,.int .i64 0,.int .i64 0,.int .i64 0,.nilSlice,.nilSlice,.int .i64 0,.int .i64 0,.int .i64 0,.int .i64 0,.int .i64 0,.nilSlice,.int .i64 0,.int .i64 0]=(Q0 f).cells:=by simp [Q0,Fct.cells,hk,-Fct.O8]
 have hz1:=gy f
 cases h0:(decide (1≤f.room)&&decide (f.room≤6)) with
 | true=>
  cases h1:(decide (1≤f.no)&&decide (f.no≤60)) with
  | true=>
   cases h2:(decide (0≤f.known)&&decide (f.known≤1099511627776)) with
   | true=>
    cases hF:aU f a b with
    | false=>
     rw [hF] at g1
     exact⟨m1,by simp [f34,F3,trD,H9,w9,p8,l8,D5,D7,j5 hm,j6 hm,G6 hm hl,x9 hm hl,l9 hm,l5 hm,G5,r9,C8,A8,K4,c68,hlook,K6,isVoid,Nat.add_assoc,hk,N9,U5,V7,h0,h1,h2,hF,g1,q1],E01⟩
    | true=>
     rw [hF] at g1
     exact⟨_,by simp [f34,F3,trD,H9,w9,p8,l8,D5,D7,j5 hm,j5 k1,j6 hm,j6 k1,G6 hm hl,G6 k1 l1,x9 k1 l1,x9 hm hl,l9 hm,l9 k1,l5 hm,l5 k1,G5,r9,C8,A8,K4,c68,hlook,K6,isVoid,Nat.add_assoc,hk,N9,U5,V7,h0,h1,h2,hF,g1,q1,q2,hz,hz1,q1',q2',g2,q3,p2,g3,lS],E02.trans (G7 k2 ([D9 (O0 f).cells,D9 f.cells,D9 (O0 f).cells,(O0 f).nm,D9 f.cells,f.nm]++(bif aj (O0 f) f then [D9 (O0 f).cmp,D9 f.cmp] else [])))⟩
   | false=>exact⟨ext m [D9 f.cells,D9 [.func (.func 145) [] [],.func (.func 147) [] []],.map fieldMap],by simp [f34,F3,trD,H9,w9,p8,l8,D5,D7,j5 hm,j6 hm,G6 hm hl,x9 hm hl,l9 hm,l5 hm,G5,r9,C8,A8,K4,c68,hlook,K6,isVoid,Nat.add_assoc,hk,N9,U5,V7,h0,h1,h2],E0⟩
  | false=>exact⟨ext m [D9 f.cells,D9 [.func (.func 145) [] [],.func (.func 147) [] []],.map fieldMap],by simp [f34,F3,trD,H9,w9,p8,l8,D5,D7,j5 hm,j6 hm,G6 hm hl,x9 hm hl,l9 hm,l5 hm,G5,r9,C8,A8,K4,c68,hlook,K6,isVoid,Nat.add_assoc,hk,N9,U5,V7,h0,h1],E0⟩
 | false=>exact⟨ext m [D9 f.cells,D9 [.func (.func 145) [] [],.func (.func 147) [] []],.map fieldMap],by simp [f34,F3,trD,H9,w9,p8,l8,D5,D7,j5 hm,j6 hm,G6 hm hl,x9 hm hl,l9 hm,l5 hm,G5,r9,C8,A8,K4,c68,hlook,K6,isVoid,Nat.add_assoc,hk,N9,U5,V7,h0],E0⟩
theorem ajU {m:Mem}{f:Fct}{a b l:List Int}(hm:m.Ok)(hl:m.lim≤m.next)(hf:W9 m f a b l)(n fu:Nat)(hfu:1000≤fu)(ha:gF f.gn)(hb:gF f.gd)(hk:f.kind=6):∃m',G9 KW fu (n+11) (.func 34) [.agg f.cells] m=some [⟨.bool (V7 f&&(IZ f l&&lS f a b l)),m'⟩]∧Ext m m':=by
 rw [enter (sf:=f34) rfl rfl]
 have c68:=pz (n+9) fu (ext m [D9 f.cells,.void]) (K5 hm _) (by simp;omega)
 have hlook:∀(mp k:OF) ls env,mp ls env=.map (m.next+2)→k ls env=.int .i64 6→bB X9 1 (.agg [.nilFunc,.nilFunc]) true mp k ls env (ext m [D9 f.cells,.void,.map fieldMap])=some (.tuple [.agg [.func (.func 148) [] [],.func (.func 150) [] []],.bool true]):=by
  intro mp k ls env e1 e2
  rw [dY _ _ _ _ _ _ _ _ _ _ fieldMap e1 (by rw [j6 hm];rfl),e2]
  simp [fieldMap,V6,P6,Q5,Y2]
  rfl
 have hf3:=hf.ext (G7 hm [D9 f.cells,D9 [.func (.func 148) [] [],.func (.func 150) [] []],.map fieldMap])
 have E0:=G7 hm [D9 f.cells,D9 [.func (.func 148) [] [],.func (.func 150) [] []],.map fieldMap]
 obtain⟨m1,g1,E1⟩:∃m1,G9 KW fu (n+10) (.func 148) [.agg f.cells] (ext m [D9 f.cells,D9 [.func (.func 148) [] [],.func (.func 150) [] []],.map fieldMap])=some [⟨.bool (IZ f l),m1⟩]∧Ext (ext m [D9 f.cells,D9 [.func (.func 148) [] [],.func (.func 150) [] []],.map fieldMap]) m1:=Ou (K5 hm _) (by simp;omega) hf3 (n+6) fu hfu
 have k1:m1.Ok:=E1.ok
 have E01:=E0.trans E1
 have n1:m.next+3≤m1.next:=by have:=E1.next;simpa using this
 have l1:m1.lim≤m1.next:=by rw [E01.lim];omega
 have q1:m1.get m.next=some (D9 f.cells):=by rw [E1.old _ (by simp),j5 hm];rfl
 have q2:m1.get (m.next+1)=some (D9 [.func (.func 148) [] [],.func (.func 150) [] []]):=by rw [E1.old _ (by simp),j6 hm];rfl
 have q1':(ext m1 [D9 (Q0 f).cells]).get m.next=some (D9 f.cells):=by rw [H7 k1 _ (by omega)];exact q1
 have q2':(ext m1 [D9 (Q0 f).cells]).get (m.next+1)=some (D9 [.func (.func 148) [] [],.func (.func 150) [] []]):=by rw [H7 k1 _ (by omega)];exact q2
 obtain⟨m2,g2,k2,lm2,n2,o2,p2⟩:=OB (g:=Q0 f) (p:=m1.next) (K5 k1 [D9 (Q0 f).cells]) (by simp;omega) (by simp) ((hf.ext E01).ext (G7 k1 _)) (by rw [j5 k1];rfl) (n+9) fu
 have n2':m1.next+1≤m2.next:=by simpa using n2
 have E02:Ext m m2:=⟨k2,by omega,by rw [lm2,gu];exact E01.lim,fun i hi=>by rw [o2 i (by simp;omega) (by omega),H7 k1 _ (by omega)];exact E01.old i hi⟩
 have q3:m2.get m.next=some (D9 f.cells):=by rw [o2 _ (by simp;omega) (by omega)];exact q1'
 have hbF:({Q0 f with mday:=f.mday,L:=f.L}:Fct)=O0 f:=by simp [O0,hk]
 rw [hbF] at p2
 have hfz:=hf.ext E02
 have g3:=pq k2 (by rw [E02.lim];omega) (jY hfz) hfz (n+7) fu hfu
 have hz:[o8.int .i64 f.room,.int .i64 f.no,.int .i64 f.known,.int .i64 6,.int .i64 0,.int .i64 0,.int .i64 0,.int .i64 0,.int .i64 0,.int .i64 0,.int .i64 0,.int .i64 0,.int .i64 0,.int .i64 0,.int .i64 0,.int .i64 0,.int .i64 0,.int .i64 0,.int .i64 0,.int .i64 0,.int .i64 0,.int .i64 0,.nilSlice,.nilSlice,.int .i64 0,.int .i64 0,.int .i64 0,.int .i64 0,.int .i64 0,.nilSlice,.int .i64 0,.int .i64 0]=(Q0 f).cells:=by simp [Q0,Fct.cells,hk,-Fct.O8]
 have hz1:=gy f
 cases h0:(decide (1≤f.room)&&decide (f.room≤6)) with
 | true=>
  cases h1:(decide (1≤f.no)&&decide (f.no≤60)) with
  | true=>
   cases h2:(decide (0≤f.known)&&decide (f.known≤1099511627776)) with
   | true=>
    cases hF:IZ f l with
    | false=>
     rw [hF] at g1
     exact⟨m1,by simp [f34,F3,trD,H9,w9,p8,l8,D5,D7,j5 hm,j6 hm,G6 hm hl,x9 hm hl,l9 hm,l5 hm,G5,r9,C8,A8,K4,c68,hlook,K6,isVoid,Nat.add_assoc,hk,N9,U5,V7,h0,h1,h2,hF,g1,q1],E01⟩
    | true=>
     rw [hF] at g1
     exact⟨_,by simp [f34,F3,trD,H9,w9,p8,l8,D5,D7,j5 hm,j5 k1,j6 hm,j6 k1,G6 hm hl,G6 k1 l1,x9 k1 l1,x9 hm hl,l9 hm,l9 k1,l5 hm,l5 k1,G5,r9,C8,A8,K4,c68,hlook,K6,isVoid,Nat.add_assoc,hk,N9,U5,V7,h0,h1,h2,hF,g1,q1,q2,hz,hz1,q1',q2',g2,q3,p2,g3,lS],E02.trans (G7 k2 ([D9 (O0 f).cells,D9 f.cells,D9 (O0 f).cells,(O0 f).nm,D9 f.cells,f.nm]++(bif aj (O0 f) f then [D9 (O0 f).cmp,D9 f.cmp] else [])))⟩
   | false=>exact⟨ext m [D9 f.cells,D9 [.func (.func 148) [] [],.func (.func 150) [] []],.map fieldMap],by simp [f34,F3,trD,H9,w9,p8,l8,D5,D7,j5 hm,j6 hm,G6 hm hl,x9 hm hl,l9 hm,l5 hm,G5,r9,C8,A8,K4,c68,hlook,K6,isVoid,Nat.add_assoc,hk,N9,U5,V7,h0,h1,h2],E0⟩
  | false=>exact⟨ext m [D9 f.cells,D9 [.func (.func 148) [] [],.func (.func 150) [] []],.map fieldMap],by simp [f34,F3,trD,H9,w9,p8,l8,D5,D7,j5 hm,j6 hm,G6 hm hl,x9 hm hl,l9 hm,l5 hm,G5,r9,C8,A8,K4,c68,hlook,K6,isVoid,Nat.add_assoc,hk,N9,U5,V7,h0,h1],E0⟩
 | false=>exact⟨ext m [D9 f.cells,D9 [.func (.func 148) [] [],.func (.func 150) [] []],.map fieldMap],by simp [f34,F3,trD,H9,w9,p8,l8,D5,D7,j5 hm,j6 hm,G6 hm hl,x9 hm hl,l9 hm,l5 hm,G5,r9,C8,A8,K4,c68,hlook,K6,isVoid,Nat.add_assoc,hk,N9,U5,V7,h0],E0⟩
theorem ajV {m:Mem}{f:Fct}{a b l:List Int}(hm:m.Ok)(hl:m.lim≤m.next)(hf:W9 m f a b l)(n fu:Nat)(hfu:1000≤fu)(ha:gF f.gn)(hb:gF f.gd)(hk:f.kind=7):∃m',G9 KW fu (n+11) (.func 34) [.agg f.cells] m=some [⟨.bool (V7 f&&(wdB f&&lS f a b l)),m'⟩]∧Ext m m':=by
 rw [enter (sf:=f34) rfl rfl]
 have c68:=pz (n+9) fu (ext m [D9 f.cells,.void]) (K5 hm _) (by simp;omega)
 have hlook:∀(mp k:OF) ls env,mp ls env=.map (m.next+2)→k ls env=.int .i64 7→bB X9 1 (.agg [.nilFunc,.nilFunc]) true mp k ls env (ext m [D9 f.cells,.void,.map fieldMap])=some (.tuple [.agg [.func (.func 151) [] [],.func (.func 152) [] []],.bool true]):=by
  intro mp k ls env e1 e2
  rw [dY _ _ _ _ _ _ _ _ _ _ fieldMap e1 (by rw [j6 hm];rfl),e2]
  simp [fieldMap,V6,P6,Q5,Y2]
  rfl
 have hf3:=hf.ext (G7 hm [D9 f.cells,D9 [.func (.func 151) [] [],.func (.func 152) [] []],.map fieldMap])
 have E0:=G7 hm [D9 f.cells,D9 [.func (.func 151) [] [],.func (.func 152) [] []],.map fieldMap]
 obtain⟨m1,g1,E1⟩:∃m1,G9 KW fu (n+10) (.func 151) [.agg f.cells] (ext m [D9 f.cells,D9 [.func (.func 151) [] [],.func (.func 152) [] []],.map fieldMap])=some [⟨.bool (wdB f),m1⟩]∧Ext (ext m [D9 f.cells,D9 [.func (.func 151) [] [],.func (.func 152) [] []],.map fieldMap]) m1:=Ov (K5 hm _) (by simp;omega) hf3 (n+8) fu
 have k1:m1.Ok:=E1.ok
 have E01:=E0.trans E1
 have n1:m.next+3≤m1.next:=by have:=E1.next;simpa using this
 have l1:m1.lim≤m1.next:=by rw [E01.lim];omega
 have q1:m1.get m.next=some (D9 f.cells):=by rw [E1.old _ (by simp),j5 hm];rfl
 have q2:m1.get (m.next+1)=some (D9 [.func (.func 151) [] [],.func (.func 152) [] []]):=by rw [E1.old _ (by simp),j6 hm];rfl
 have q1':(ext m1 [D9 (Q0 f).cells]).get m.next=some (D9 f.cells):=by rw [H7 k1 _ (by omega)];exact q1
 have q2':(ext m1 [D9 (Q0 f).cells]).get (m.next+1)=some (D9 [.func (.func 151) [] [],.func (.func 152) [] []]):=by rw [H7 k1 _ (by omega)];exact q2
 obtain⟨m2,g2,k2,lm2,n2,o2,p2⟩:=OC (g:=Q0 f) (p:=m1.next) (K5 k1 [D9 (Q0 f).cells]) (by simp;omega) (by simp) ((hf.ext E01).ext (G7 k1 _)) (by rw [j5 k1];rfl) (n+9) fu
 have n2':m1.next+1≤m2.next:=by simpa using n2
 have E02:Ext m m2:=⟨k2,by omega,by rw [lm2,gu];exact E01.lim,fun i hi=>by rw [o2 i (by simp;omega) (by omega),H7 k1 _ (by omega)];exact E01.old i hi⟩
 have q3:m2.get m.next=some (D9 f.cells):=by rw [o2 _ (by simp;omega) (by omega)];exact q1'
 have hbF:({Q0 f with tr:=f.tr,tn:=f.tn}:Fct)=O0 f:=by simp [O0,hk]
 rw [hbF] at p2
 have hfz:=hf.ext E02
 have g3:=pq k2 (by rw [E02.lim];omega) (jY hfz) hfz (n+7) fu hfu
 have hz:[o8.int .i64 f.room,.int .i64 f.no,.int .i64 f.known,.int .i64 7,.int .i64 0,.int .i64 0,.int .i64 0,.int .i64 0,.int .i64 0,.int .i64 0,.int .i64 0,.int .i64 0,.int .i64 0,.int .i64 0,.int .i64 0,.int .i64 0,.int .i64 0,.int .i64 0,.int .i64 0,.int .i64 0,.int .i64 0,.int .i64 0,.nilSlice,.nilSlice,.int .i64 0,.int .i64 0,.int .i64 0,.int .i64 0,.int .i64 0,.nilSlice,.int .i64 0,.int .i64 0]=(Q0 f).cells:=by simp [Q0,Fct.cells,hk,-Fct.O8]
 have hz1:=gy f
 cases h0:(decide (1≤f.room)&&decide (f.room≤6)) with
 | true=>
  cases h1:(decide (1≤f.no)&&decide (f.no≤60)) with
  | true=>
   cases h2:(decide (0≤f.known)&&decide (f.known≤1099511627776)) with
   | true=>
    cases hF:wdB f with
    | false=>
     rw [hF] at g1
     exact⟨m1,by simp [f34,F3,trD,H9,w9,p8,l8,D5,D7,j5 hm,j6 hm,G6 hm hl,x9 hm hl,l9 hm,l5 hm,G5,r9,C8,A8,K4,c68,hlook,K6,isVoid,Nat.add_assoc,hk,N9,U5,V7,h0,h1,h2,hF,g1,q1],E01⟩
    | true=>
     rw [hF] at g1
     exact⟨_,by simp [f34,F3,trD,H9,w9,p8,l8,D5,D7,j5 hm,j5 k1,j6 hm,j6 k1,G6 hm hl,G6 k1 l1,x9 k1 l1,x9 hm hl,l9 hm,l9 k1,l5 hm,l5 k1,G5,r9,C8,A8,K4,c68,hlook,K6,isVoid,Nat.add_assoc,hk,N9,U5,V7,h0,h1,h2,hF,g1,q1,q2,hz,hz1,q1',q2',g2,q3,p2,g3,lS],E02.trans (G7 k2 ([D9 (O0 f).cells,D9 f.cells,D9 (O0 f).cells,(O0 f).nm,D9 f.cells,f.nm]++(bif aj (O0 f) f then [D9 (O0 f).cmp,D9 f.cmp] else [])))⟩
   | false=>exact⟨ext m [D9 f.cells,D9 [.func (.func 151) [] [],.func (.func 152) [] []],.map fieldMap],by simp [f34,F3,trD,H9,w9,p8,l8,D5,D7,j5 hm,j6 hm,G6 hm hl,x9 hm hl,l9 hm,l5 hm,G5,r9,C8,A8,K4,c68,hlook,K6,isVoid,Nat.add_assoc,hk,N9,U5,V7,h0,h1,h2],E0⟩
  | false=>exact⟨ext m [D9 f.cells,D9 [.func (.func 151) [] [],.func (.func 152) [] []],.map fieldMap],by simp [f34,F3,trD,H9,w9,p8,l8,D5,D7,j5 hm,j6 hm,G6 hm hl,x9 hm hl,l9 hm,l5 hm,G5,r9,C8,A8,K4,c68,hlook,K6,isVoid,Nat.add_assoc,hk,N9,U5,V7,h0,h1],E0⟩
 | false=>exact⟨ext m [D9 f.cells,D9 [.func (.func 151) [] [],.func (.func 152) [] []],.map fieldMap],by simp [f34,F3,trD,H9,w9,p8,l8,D5,D7,j5 hm,j6 hm,G6 hm hl,x9 hm hl,l9 hm,l5 hm,G5,r9,C8,A8,K4,c68,hlook,K6,isVoid,Nat.add_assoc,hk,N9,U5,V7,h0],E0⟩
end Go.Proofs.YtefodipjjofocaaGreatDoor.TT
namespace Go.Proofs.YtefodipjjofocaaGreatDoor.TT
open Go Go.AM
set_option linter.unusedSimpArgs false
set_option linter.unusedVariables false
set_option maxRecDepth 100000
set_option maxHeartbeats 2000000
theorem N8 {α:Type} [DecidableEq α](x y:α):decide (x=y)=decide (y=x):=by
 rw [Bool.eq_iff_iff];simp [eq_comm]
theorem Dz (f g:Fct):aj f g=aj g f:=by
 simp only [aj,N8 f.room g.room,N8 f.no g.no,N8 f.known g.known,N8 f.kind g.kind,N8 f.flo g.flo,N8 f.fhi g.fhi,N8 f.gid g.gid,N8 f.made g.made,N8 f.nom g.nom,N8 f.tlo g.tlo,N8 f.thi g.thi,N8 f.gn g.gn,N8 f.gd g.gd,N8 f.wear g.wear,N8 f.ug g.ug,N8 f.ud g.ud,N8 f.lg g.lg,N8 f.ll g.ll,N8 f.lh g.lh,N8 f.lw g.lw,N8 f.tr g.tr,N8 f.tn g.tn]
theorem uE (f g:Fct)(a b l a' b' l':List Int):Z5 f g a b l a' b' l'=Z5 g f a' b' l' a b l:=by
 simp only [Z5,Dz f g,nX,N8 f.cid g.cid,N8 f.cday g.cday,N8 f.diff g.diff,N8 f.err g.err,N8 f.hlo g.hlo,N8 f.hhi g.hhi,N8 f.mday g.mday,N8 a a',N8 b b',N8 l l']
theorem Kr (f:Fct)(a b l:List Int):lS f a b l=Ph f a b l:=uE ..
theorem Ym {m:Mem}{f:Fct}{a b l:List Int}(hm:m.Ok)(hl:m.lim≤m.next)(hf:W9 m f a b l)(n fu:Nat)(hfu:1000≤fu)(ha:gF f.gn)(hb:gF f.gd):∃m',G9 KW fu (n+11) (.func 34) [.agg f.cells] m=some [⟨.bool (jZ f a b l),m'⟩]∧Ext m m':=by
 unfold jZ zB
 rw [← Kr]
 by_cases h1:f.kind=1
 ·rw [if_pos h1];exact ajP hm hl hf n fu hfu ha hb h1
 by_cases h2:f.kind=2
 ·rw [if_neg h1];rw [if_pos h2];exact ajQ hm hl hf n fu hfu ha hb h2
 by_cases h3:f.kind=3
 ·rw [if_neg h1];rw [if_neg h2];rw [if_pos h3];exact ajR hm hl hf n fu hfu ha hb h3
 by_cases h4:f.kind=4
 ·rw [if_neg h1];rw [if_neg h2];rw [if_neg h3];rw [if_pos h4];exact ajS hm hl hf n fu hfu ha hb h4
 by_cases h5:f.kind=5
 ·rw [if_neg h1];rw [if_neg h2];rw [if_neg h3];rw [if_neg h4];rw [if_pos h5];exact ajT hm hl hf n fu hfu ha hb h5
 by_cases h6:f.kind=6
 ·rw [if_neg h1];rw [if_neg h2];rw [if_neg h3];rw [if_neg h4];rw [if_neg h5];rw [if_pos h6];exact ajU hm hl hf n fu hfu ha hb h6
 by_cases h7:f.kind=7
 ·rw [if_neg h1];rw [if_neg h2];rw [if_neg h3];rw [if_neg h4];rw [if_neg h5];rw [if_neg h6];rw [if_pos h7];exact ajV hm hl hf n fu hfu ha hb h7
 rw [if_neg h1];rw [if_neg h2];rw [if_neg h3];rw [if_neg h4];rw [if_neg h5];rw [if_neg h6];rw [if_neg h7];rw [Bool.false_and,Bool.and_false]
 exact ajO hm hl hf n fu hfu ha hb h1 h2 h3 h4 h5 h6 h7
end Go.Proofs.YtefodipjjofocaaGreatDoor.TT
namespace Go.Proofs.YtefodipjjofocaaGreatDoor.TT
open Go Go.AM
set_option linter.unusedSimpArgs false
set_option linter.unusedVariables false
set_option maxRecDepth 100000
set_option maxHeartbeats 2000000
structure FR where
 f:Fct
 a:List Int
 b:List Int
 l:List Int
structure gB (m:Mem)(r:FR):Prop where
 a:dF m r.f.A r.a
 b:dF m r.f.B r.b
 l:dF m r.f.L r.l
 ga:gF r.f.gn
 gb:gF r.f.gd
 nb:gF r.f.no
theorem gB.ext {m m':Mem}(h:Ext m m'){r:FR}(k:gB m r):gB m' r:=⟨k.a.ext h,k.b.ext h,k.l.ext h,k.ga,k.gb,k.nb⟩
def FR.small (r:FR):Bool:=decide (r.a.length≤9)&&(decide (r.b.length≤9)&&decide (r.l.length≤9))
theorem gB.at {m:Mem}{r:FR}(k:gB m r)(h:r.small=true):W9 m r.f r.a r.b r.l:=by
 simp only [FR.small,Bool.and_eq_true,decide_eq_true_eq] at h
 exact⟨k.a,k.b,k.l,by omega,by omega,by omega⟩
theorem Yn {m:Mem}{r:FR}(hm:m.Ok)(hf:gB m r)(n fu:Nat):
  G9 KW fu (n+1) (.func 7) [.agg r.f.cells] m=some [⟨.bool r.small,ext m [D9 r.f.cells]⟩]:=by
 rw [enter (sf:=f7) rfl rfl]
 have l1:=hf.a.len
 have l2:=hf.b.len
 have l3:=hf.l.len
 have e1:decide (((r.a.length:Nat):Int)≤9)=decide (r.a.length≤9):=by rw [Bool.eq_iff_iff];simp;omega
 have e2:decide (((r.b.length:Nat):Int)≤9)=decide (r.b.length≤9):=by rw [Bool.eq_iff_iff];simp;omega
 have e3:decide (((r.l.length:Nat):Int)≤9)=decide (r.l.length≤9):=by rw [Bool.eq_iff_iff];simp;omega
 cases h0:decide (r.a.length≤9) with
 | true=>
  cases h1:decide (r.b.length≤9) with
  | true=>
   cases h2:decide (r.l.length≤9) with
   | true=>
    simp [f7,F3,trD,H9,w9,p8,l8,D5,D7,j5 hm,j6 hm,l9 hm,l5 hm,G5,r9,C8,A8,K4,l1,l2,l3,e1,e2,e3,FR.small,h0,h1,h2]
   | false=>simp [f7,F3,trD,H9,w9,p8,l8,D5,D7,j5 hm,j6 hm,l9 hm,l5 hm,G5,r9,C8,A8,K4,l1,l2,l3,e1,e2,e3,FR.small,h0,h1,h2]
  | false=>simp [f7,F3,trD,H9,w9,p8,l8,D5,D7,j5 hm,j6 hm,l9 hm,l5 hm,G5,r9,C8,A8,K4,l1,l2,l3,e1,e2,e3,FR.small,h0,h1]
 | false=>simp [f7,F3,trD,H9,w9,p8,l8,D5,D7,j5 hm,j6 hm,l9 hm,l5 hm,G5,r9,C8,A8,K4,l1,l2,l3,e1,e2,e3,FR.small,h0]
def dA (m:Mem)(v:o8)(fs:List FR):Prop:=
 (v=.nilSlice∧fs=[])∨∃id,((∃c,v=.slice id 0 fs.length c)∨v=.sliceU id 0 fs.length 32)∧id<m.next∧(fs=[]∨∃c rows,m.get id=some (.cells 32 c rows)∧fs.length≤c∧∀i (h:i<fs.length),rows.get i=some fs[i].f.cells)
theorem dA.ext {m m':Mem}(h:Ext m m'){v:o8}{fs:List FR}(hv:dA m v fs):dA m' v fs:=by
 rcases hv with hv | ⟨id,h1,h2,h3⟩
 ·exact .inl hv
 ·refine .inr ⟨id,h1,Nat.lt_of_lt_of_le h2 h.next,?_⟩
  rcases h3 with h3 | ⟨c,rows,h4,h5,h6⟩
  ·exact .inl h3
  ·exact .inr ⟨c,rows,(h.old id h2).trans h4,h5,h6⟩
theorem dA.len {m:Mem}{v:o8}{fs:List FR}(h:dA m v fs):vSl v (some (o8.int .i64 0)) (fun _ _ n _=>some (.int .i64 n)) (fun _ _ n _=>some (.int .i64 n))=some (.int .i64 fs.length):=by
 rcases h with⟨rfl,rfl⟩ | ⟨id,⟨c,rfl⟩ | rfl,_⟩<;>rfl
theorem dA.cells {m:Mem}{v:o8}{fs:List FR}(h:dA m v fs):v.cells=[v]:=by
 rcases h with⟨rfl,rfl⟩ | ⟨id,⟨c,rfl⟩ | rfl,_⟩<;>rfl
theorem dA.pan {m:Mem}{v:o8}{fs:List FR}(h:dA m v fs){β:Type}(p:o8→β)(q:β):gW v p q=q:=by
 rcases h with⟨rfl,rfl⟩ | ⟨id,⟨c,rfl⟩ | rfl,_⟩<;>rfl
theorem dA.at {m:Mem}{v:o8}{fs:List FR}(h:dA m v fs){i:Nat}(hi:i<fs.length):
  ∃id,vSl v none (fun id off len _=>idx len (.int .i64 i) fun k=>some (o8.ptr id (off+k*32))) (fun id off len _=>idx len (.int .i64 i) fun k=>some (o8.ptr id (off+k*32)))=some (.ptr id (i*32))∧id<m.next∧
   ldN (m.get id) (i*32) 32=some (.agg fs[i].f.cells)∧ld1 (m.get id) (i*32)=some (.int .i64 fs[i].f.room)∧ld1 (m.get id) (i*32+1)=some (.int .i64 fs[i].f.no)∧ld1 (m.get id) (i*32+3)=some (.int .i64 fs[i].f.kind):=by
 rcases h with⟨_,rfl⟩ | ⟨id,hv,h2,h3⟩
 ·simp at hi
 ·rcases h3 with rfl | ⟨c,rows,h4,h5,h6⟩
  ·simp at hi
  ·have hr:=h6 i hi
   have hc:i<c:=by omega
   refine⟨id,?_,h2,?_,?_,?_,?_⟩
   ·rcases hv with⟨c',rfl⟩ | rfl
    ·simp only [xW]
     rw [R3 _ _ _ hi];simp
    ·simp only [uh]
     rw [R3 _ _ _ hi];simp
   ·rw [h4]
    have hk:=nW (rs:=32) (j:=0) (k:=32) (by omega) hc hr (Fct.len _) (by omega)
    rw [Nat.add_zero] at hk
    unfold ldN
    rw [bC,hk,O3,List.drop_zero,List.take_of_length_le (by rw [Fct.len];omega)]
   ·have hk:=aS (rs:=32) (j:=0) (by omega) hc hr
    rw [Nat.add_zero] at hk
    rw [h4,ld1,bC,hk]
    exact Fct.c0 _
   ·have hk:=aS (rs:=32) (j:=1) (by omega) hc hr
    skip
    rw [h4,ld1,bC,hk]
    exact Fct.c1 _
   ·have hk:=aS (rs:=32) (j:=3) (by omega) hc hr
    skip
    rw [h4,ld1,bC,hk]
    exact Fct.c3 _
end Go.Proofs.YtefodipjjofocaaGreatDoor.TT
namespace Go.Proofs.YtefodipjjofocaaGreatDoor.TT
open Go Go.AM
set_option linter.unusedSimpArgs false
set_option linter.unusedVariables false
set_option maxRecDepth 100000
set_option maxHeartbeats 2000000
theorem Yo {v:o8}{fs:List FR}(hb:fs.length≤18)(n fu:Nat):
  ∀(j i:Nat),i+j=fs.length→∀(N:Nat),j<N→∀(m:Mem),m.Ok→dA m v fs→(∀i (h:i<fs.length),gB m fs[i])→∀(a3 a4 a5 a7:o8) (c6 c8:Int),
   ∃x k b3 b4 b5 b7 d6 d8 m',V9 (fun env m k=>Oa (G9 KW fu (n+1)) fu none env m k) N (.nd (.nd (.nd (.nd .e a7 .e) a3 .e) (.bool false) (.nd (.nd .e (.bool false) .e) a5 .e)) v (.nd (.nd (.nd .e (.int .i64 c8) .e) a4 .e) (.int .i64 ((i:Nat):Int)) (.nd .e (.int .i64 c6) .e))) m []=some [⟨x,(.nd (.nd (.nd (.nd .e b7 .e) b3 .e) (.bool false) (.nd (.nd .e (.bool false) .e) b5 .e)) v (.nd (.nd (.nd .e (.int .i64 d8) .e) b4 .e) (.int .i64 ((k:Nat):Int)) (.nd .e (.int .i64 d6) .e))),m',[],none⟩]∧Ext m m'∧((x=.exit 0∧∀t (h:t<fs.length),i≤t→fs[t].small=true)∨x=.ret):=by
 intro j
 induction j with
 | zero=>
  intro i hi N hN m hm hv hw a3 a4 a5 a7 c6 c8
  obtain⟨N,rfl⟩:∃M,N=M+1:=⟨N-1,by omega⟩
  refine⟨.exit 0,i,.bool false,a4,a5,a7,c6,c8,m,?_,Ext.refl hm,.inl ⟨rfl,fun t h ht=>by omega⟩⟩
  rw [F7]
  have h:¬ i<fs.length:=by omega
  have l1:=hv.len
  simp [Oa,F3,trD,H9,w9,p8,l8,h,l1]
 | succ j ih=>
  intro i hi N hN m hm hv hw a3 a4 a5 a7 c6 c8
  obtain⟨N,rfl⟩:∃M,N=M+1:=⟨N-1,by omega⟩
  have h:i<fs.length:=by omega
  have l1:=hv.len
  obtain⟨p,e1,hp,e2,_,_,e3⟩:=hv.at h
  have E1:=G7 hm [D9 fs[i].f.cells]
  have g1:=Yn hm (hw i h) n fu
  have e3':ld1 ((ext m [D9 fs[i].f.cells]).get p) (i*32+3)=some (.int .i64 fs[i].f.kind):=by rw [E1.old _ hp];exact e3
  have hv':=hv.ext E1
  cases hs:fs[i].small with
  | false=>
   rw [hs] at g1
   refine⟨.ret,i,.bool true,.bool true,a5,a7,c6,c8,ext m [D9 fs[i].f.cells],?_,E1,.inr rfl⟩
   rw [F7]
   simp [Oa,F3,trD,H9,w9,p8,l8,h,l1,e1,e2,g1]
  | true=>
   rw [hs] at g1
   have hw2:∀t (h:t<fs.length),gB (ext m [D9 fs[i].f.cells]) fs[t]:=fun t h=>(hw t h).ext E1
   have fin:∀{x:X5},((x=.exit 0∧∀t (h:t<fs.length),i+1≤t→fs[t].small=true)∨x=.ret)→((x=.exit 0∧∀t (h:t<fs.length),i≤t→fs[t].small=true)∨x=.ret):=by
    intro x hx
    rcases hx with⟨h1,h2⟩ | h1
    ·refine .inl ⟨h1,fun t ht hit=>?_⟩
     by_cases hti:t=i
     ·subst hti;exact hs
     ·exact h2 t ht (by omega)
    ·exact .inr h1
   by_cases h5:fs[i].f.kind=5
   ·obtain⟨x,k,b3,b4,b5,b7,d6,d8,m',g2,E2,h2⟩:=ih (i+1) (by omega) N (by omega) _ (K5 hm _) hv' hw2 (.bool true) (.bool false) (.bool true) (.bool false) (w64 (c6+1)) c8
    refine⟨x,k,b3,b4,b5,b7,d6,d8,m',?_,E1.trans E2,fin h2⟩
    rw [F7,← g2]
    rw [h5] at e3'
    simp [Oa,F3,trD,H9,w9,p8,l8,h,l1,e1,e2,g1,e3',U1 (i:=i) (by omega)]
   ·by_cases h6:fs[i].f.kind=6
    ·obtain⟨x,k,b3,b4,b5,b7,d6,d8,m',g2,E2,h2⟩:=ih (i+1) (by omega) N (by omega) _ (K5 hm _) hv' hw2 (.bool true) (.bool false) (.bool false) (.bool true) c6 (w64 (c8+1))
     refine⟨x,k,b3,b4,b5,b7,d6,d8,m',?_,E1.trans E2,fin h2⟩
     rw [F7,← g2]
     rw [h6] at e3'
     simp [Oa,F3,trD,H9,w9,p8,l8,h,l1,e1,e2,g1,e3',U1 (i:=i) (by omega)]
    ·obtain⟨x,k,b3,b4,b5,b7,d6,d8,m',g2,E2,h2⟩:=ih (i+1) (by omega) N (by omega) _ (K5 hm _) hv' hw2 (.bool true) (.bool false) (.bool false) (.bool false) c6 c8
     refine⟨x,k,b3,b4,b5,b7,d6,d8,m',?_,E1.trans E2,fin h2⟩
     rw [F7,← g2]
     simp [Oa,F3,trD,H9,w9,p8,l8,h,l1,e1,e2,g1,e3',h5,h6,U1 (i:=i) (by omega)]
theorem Yp {m:Mem}{v:o8}{fs:List FR}(hm:m.Ok)(hv:dA m v fs)(hw:∀i (h:i<fs.length),gB m fs[i])(n fu:Nat)(hfu:1000≤fu):
  ∃r m',G9 KW fu (n+2) (.func 6) [v] m=some [⟨.bool r,m'⟩]∧Ext m m'∧(r=true→fs.length≤18∧∀t (h:t<fs.length),fs[t].small=true):=by
 rw [enter (sf:=f6) rfl rfl]
 have l1:=hv.len
 by_cases hb:fs.length≤18
 ·have hb':¬ 18<(fs.length:Int):=by omega
  obtain⟨x,k,b3,b4,b5,b7,d6,d8,m',g,E1,hx⟩:=Yo hb n fu fs.length 0 (by omega) fu (by omega) m hm hv hw .undef .undef .undef .undef 0 0
  rcases hx with⟨rfl,hs⟩ | rfl
  ·refine⟨decide (d6≤7)&&decide (d8≤2),m',?_,E1,fun _=>⟨hb,fun t h=>hs t h (by omega)⟩⟩
   simp [F3,trD,H9,w9,p8,l8] at g
   cases h1:decide (d6≤7) with
   | true=>simp [f6,F3,trD,H9,w9,p8,l8,l1,hb',g,h1]
   | false=>simp [f6,F3,trD,H9,w9,p8,l8,l1,hb',g,h1]
  ·refine⟨false,m',?_,E1,by simp⟩
   simp [F3,trD,H9,w9,p8,l8] at g
   simp [f6,F3,trD,H9,w9,p8,l8,l1,hb',g]
 ·have hb':18<(fs.length:Int):=by omega
  refine⟨false,m,?_,Ext.refl hm,by simp⟩
  simp [f6,F3,trD,H9,w9,p8,l8,l1,hb']
end Go.Proofs.YtefodipjjofocaaGreatDoor.TT
namespace Go.Proofs.YtefodipjjofocaaGreatDoor.TT
open Go Go.AM
set_option linter.unusedSimpArgs false
set_option linter.unusedVariables false
set_option maxRecDepth 100000
set_option maxHeartbeats 2000000
def FR.P5 (r s:FR):Bool:=decide (r.f.room=s.f.room)&&decide (r.f.no=s.f.no)
def FR.same (r s:FR):Bool:=Z5 r.f s.f r.a r.b r.l s.a s.b s.l
def FR.valid (r:FR):Bool:=jZ r.f r.a r.b r.l
theorem Yq {v:o8}{fs:List FR}(hb:fs.length≤36)(hs:∀t (h:t<fs.length),fs[t].small=true)(n fu:Nat)(hfu:1000≤fu)(i:Nat)(hi:i<fs.length)(a3:o8):
  ∀(j t:Nat),t+j=i→∀(N:Nat),j<N→∀(m:Mem),m.Ok→dA m v fs→(∀i (h:i<fs.length),gB m fs[i])→∀(a7 a8 a9 a10:o8),
   ∃x t' b7 b8 b9 b10 c1 c2 m',V9 (fun env m k=>AY (G9 KW fu (n+7)) fu none env m k) N (.nd (.nd (.nd (.nd .e a7 .e) a3 (.nd .e (.int .i64 0) .e)) (.bool false) (.nd (.nd .e a9 .e) (.bool false) .e)) v (.nd (.nd (.nd .e a8 .e) (.bool true) (.nd .e (.int .i64 0) .e)) (.int .i64 ((i:Nat):Int)) (.nd (.nd .e a10 .e) (.int .i64 ((t:Nat):Int)) .e))) m []=some [⟨x,(.nd (.nd (.nd (.nd .e b7 .e) a3 (.nd .e c1 .e)) (.bool false) (.nd (.nd .e b9 .e) (.bool false) .e)) v (.nd (.nd (.nd .e b8 .e) (.bool true) (.nd .e c2 .e)) (.int .i64 ((i:Nat):Int)) (.nd (.nd .e b10 .e) t' .e))),m',[],none⟩]∧Ext m m'∧
    ((x=.exit 2∧c1=.int .i64 0∧c2=.int .i64 0∧∀u (h:u<i),t≤u→(fs[u]'(by omega)).P5 fs[i]=true→(fs[u]'(by omega)).same fs[i]=true)∨
     (x=.ret∧c1=.int .i64 9∧c2=.int .i64 i∧∃u,∃h:u<i,(fs[u]'(by omega)).P5 fs[i]=true∧(fs[u]'(by omega)).same fs[i]=false)):=by
 intro j
 induction j with
 | zero=>
  intro t hi' N hN m hm hv hw a7 a8 a9 a10
  obtain⟨N,rfl⟩:∃M,N=M+1:=⟨N-1,by omega⟩
  refine⟨.exit 2,(.int .i64 ((t:Nat):Int)),.bool false,a8,a9,a10,.int .i64 0,.int .i64 0,m,?_,Ext.refl hm,.inl ⟨rfl,rfl,rfl,fun u h hu=>by omega⟩⟩
  rw [F7]
  have h:¬ t<i:=by omega
  simp [AY,F3,trD,H9,w9,p8,l8,h]
 | succ j ih=>
  intro t hi' N hN m hm hv hw a7 a8 a9 a10
  obtain⟨N,rfl⟩:∃M,N=M+1:=⟨N-1,by omega⟩
  have h:t<i:=by omega
  have ht:t<fs.length:=by omega
  obtain⟨p,e1,hp,e2,e3,e4,_⟩:=hv.at ht
  obtain⟨q,d1,hq,d2,d3,d4,_⟩:=hv.at hi
  have go:((fs[t]).P5 fs[i]=true→fs[t].same fs[i]=true)→∀{x:X5} {c1 c2:o8},((x=.exit 2∧c1=.int .i64 0∧c2=.int .i64 0∧∀u (h:u<i),t+1≤u→(fs[u]'(by omega)).P5 fs[i]=true→(fs[u]'(by omega)).same fs[i]=true)∨
       (x=.ret∧c1=.int .i64 9∧c2=.int .i64 i∧∃u,∃h:u<i,(fs[u]'(by omega)).P5 fs[i]=true∧(fs[u]'(by omega)).same fs[i]=false))→
    ((x=.exit 2∧c1=.int .i64 0∧c2=.int .i64 0∧∀u (h:u<i),t≤u→(fs[u]'(by omega)).P5 fs[i]=true→(fs[u]'(by omega)).same fs[i]=true)∨
     (x=.ret∧c1=.int .i64 9∧c2=.int .i64 i∧∃u,∃h:u<i,(fs[u]'(by omega)).P5 fs[i]=true∧(fs[u]'(by omega)).same fs[i]=false)):=by
   intro hq x c1 c2 hx
   rcases hx with⟨h1,h2,h3,h4⟩ | hx
   ·refine .inl ⟨h1,h2,h3,fun u hu htu=>?_⟩
    by_cases hut:u=t
    ·subst hut;exact hq
    ·exact h4 u hu (by omega)
   ·exact .inr hx
  cases h1:decide (fs[t].f.room=fs[i].f.room) with
  | false=>
   have hne:fs[t].P5 fs[i]=false:=by simp only [FR.P5,h1,Bool.false_and]
   obtain⟨x,t',b7,b8,b9,b10,c1,c2,m',g2,E2,h2⟩:=ih (t+1) (by omega) N (by omega) m hm hv hw (.bool true) (.bool false) a9 a10
   refine⟨x,t',b7,b8,b9,b10,c1,c2,m',?_,E2,go (fun hh=>by rw [hne] at hh;simp at hh) h2⟩
   rw [F7,← g2]
   simp [AY,F3,trD,H9,w9,p8,l8,h,e1,d1,e3,d3,h1,U1 (i:=t) (by omega)]
  | true=>
   cases h2:decide (fs[t].f.no=fs[i].f.no) with
   | false=>
    have hne:fs[t].P5 fs[i]=false:=by simp only [FR.P5,h2,Bool.and_false]
    obtain⟨x,t',b7,b8,b9,b10,c1,c2,m',g2,E2,h2'⟩:=ih (t+1) (by omega) N (by omega) m hm hv hw (.bool true) (.bool false) a9 a10
    refine⟨x,t',b7,b8,b9,b10,c1,c2,m',?_,E2,go (fun hh=>by rw [hne] at hh;simp at hh) h2'⟩
    rw [F7,← g2]
    simp [AY,F3,trD,H9,w9,p8,l8,h,e1,d1,e3,d3,e4,d4,h1,h2,U1 (i:=t) (by omega)]
   | true=>
    have hne:fs[t].P5 fs[i]=true:=by simp only [FR.P5,h1,h2,Bool.true_and]
    have g1:=Gl hm ((hw t ht).at (hs t ht)) ((hw i hi).at (hs i hi)) (n+4) fu hfu
    rw [show Z5 fs[t].f fs[i].f fs[t].a fs[t].b fs[t].l fs[i].a fs[i].b fs[i].l=fs[t].same fs[i] from rfl] at g1
    have E1:=G7 hm [D9 fs[t].f.cells,D9 fs[i].f.cells,D9 fs[t].f.cmp,D9 fs[i].f.cmp]
    cases h3:fs[t].same fs[i] with
    | true=>
     rw [h3] at g1
     obtain⟨x,t',b7,b8,b9,b10,c1,c2,m',g2,E2,h2'⟩:=ih (t+1) (by omega) N (by omega) _ E1.ok (hv.ext E1) (fun i h=>(hw i h).ext E1) (.bool true) (.bool true) (.bool true) (.bool false)
     refine⟨x,t',b7,b8,b9,b10,c1,c2,m',?_,E1.trans E2,go (fun _=>h3) h2'⟩
     rw [F7,← g2]
     simp [AY,F3,trD,H9,w9,p8,l8,h,e1,d1,e2,d2,e3,d3,e4,d4,h1,h2,g1,U1 (i:=t) (by omega)]
    | false=>
     rw [h3] at g1
     refine⟨.ret,(.int .i64 ((t:Nat):Int)),.bool true,.bool true,.bool false,.bool true,.int .i64 9,.int .i64 i,_,?_,E1,.inr ⟨rfl,rfl,rfl,t,h,hne,h3⟩⟩
     rw [F7]
     simp [AY,F3,trD,H9,w9,p8,l8,h,e1,d1,e2,d2,e3,d3,e4,d4,h1,h2,g1]
end Go.Proofs.YtefodipjjofocaaGreatDoor.TT
namespace Go.Proofs.YtefodipjjofocaaGreatDoor.TT
open Go Go.AM
set_option linter.unusedSimpArgs false
set_option linter.unusedVariables false
set_option maxRecDepth 100000
set_option maxHeartbeats 2000000
def Ed (fs:List FR)(i:Nat):Prop:=∃h:i<fs.length,fs[i].valid=true∧∀u (hu:u<i),(fs[u]'(by omega)).P5 fs[i]=true→(fs[u]'(by omega)).same fs[i]=true
def Kt (fs:List FR)(code:Int)(k:Nat):Prop:=∃h:k<fs.length,(∀t,t<k→Ed fs t)∧((code=1∧fs[k].valid=false)∨(code=9∧fs[k].valid=true∧∃u,∃hu:u<k,(fs[u]'(by omega)).P5 fs[k]=true∧(fs[u]'(by omega)).same fs[k]=false))
def DF (fs:List FR)(code idx:Int):Prop:=(code=0∧idx=-1∧∀t,t<fs.length→Ed fs t)∨∃k:Nat,idx=k∧Kt fs code k
theorem Kt.not {fs:List FR}{code:Int}{k:Nat}(h:Kt fs code k):¬ Ed fs k:=by
 obtain⟨h1,_,h2⟩:=h
 rintro⟨_,h3,h4⟩
 rcases h2 with⟨_,h2⟩ | ⟨_,_,u,hu,h5,h6⟩
 ·rw [h3] at h2;simp at h2
 ·have:=h4 u hu h5;rw [this] at h6;simp at h6
theorem DF.uniq {fs:List FR}{c i c' i':Int}(h:DF fs c i)(h':DF fs c' i'):c=c'∧i=i':=by
 rcases h with⟨h1,h2,h3⟩ | ⟨k,h1,h2⟩<;>rcases h' with⟨g1,g2,g3⟩ | ⟨k',g1,g2⟩
 ·exact⟨by omega,by omega⟩
 ·exact absurd (h3 k' g2.1) g2.not
 ·exact absurd (g3 k h2.1) h2.not
 ·have hk:k=k':=by
   rcases Nat.lt_trichotomy k k' with hl | hl | hl
   ·exact absurd (g2.2.1 k hl) h2.not
   ·exact hl
   ·exact absurd (h2.2.1 k' hl) g2.not
  subst hk
  refine⟨?_,by omega⟩
  obtain⟨_,_,h3⟩:=h2
  obtain⟨_,_,g3⟩:=g2
  rcases h3 with⟨h4,h5⟩ | ⟨h4,h5,_⟩<;>rcases g3 with⟨g4,g5⟩ | ⟨g4,g5,_⟩
  ·omega
  ·rw [h5] at g5;simp at g5
  ·rw [h5] at g5;simp at g5
  ·omega
theorem Pj {v:o8}{fs:List FR}(hb:fs.length≤36)(hs:∀t (h:t<fs.length),fs[t].small=true)(n fu:Nat)(hfu:1000≤fu):
  ∀(j i:Nat),i+j=fs.length→∀(N:Nat),j<N→∀(m:Mem),m.Ok→m.lim≤m.next→dA m v fs→(∀i (h:i<fs.length),gB m fs[i])→(∀t,t<i→Ed fs t)→∀(a3 a4 a5 a6 a7 a8 a9 a10:o8),
   ∃x k b3 b4 b5 b6 b7 b8 b9 b10 c1 c2 m',V9 (fun env m k=>Dw (G9 KW fu (n+7)) fu none env m k) N (.nd (.nd (.nd (.nd .e a7 .e) a3 (.nd .e (.int .i64 0) .e)) (.bool false) (.nd (.nd .e a9 .e) a5 .e)) v (.nd (.nd (.nd .e a8 .e) a4 (.nd .e (.int .i64 0) .e)) (.int .i64 ((i:Nat):Int)) (.nd (.nd .e a10 .e) a6 .e))) m []=some [⟨x,(.nd (.nd (.nd (.nd .e b7 .e) b3 (.nd .e (.int .i64 c1) .e)) (.bool false) (.nd (.nd .e b9 .e) b5 .e)) v (.nd (.nd (.nd .e b8 .e) b4 (.nd .e (.int .i64 c2) .e)) (.int .i64 ((k:Nat):Int)) (.nd (.nd .e b10 .e) b6 .e))),m',[],none⟩]∧Ext m m'∧
    ((x=.exit 0∧∀t,t<fs.length→Ed fs t)∨(x=.ret∧DF fs c1 c2)):=by
 intro j
 induction j with
 | zero=>
  intro i hi N hN m hm hl hv hw ho a3 a4 a5 a6 a7 a8 a9 a10
  obtain⟨N,rfl⟩:∃M,N=M+1:=⟨N-1,by omega⟩
  refine⟨.exit 0,i,.bool false,a4,a5,a6,a7,a8,a9,a10,0,0,m,?_,Ext.refl hm,.inl ⟨rfl,fun t h=>ho t (by omega)⟩⟩
  rw [F7]
  have h:¬ i<fs.length:=by omega
  have l1:=hv.len
  simp [Dw,F3,trD,H9,w9,p8,l8,h,l1]
 | succ j ih=>
  intro i hi N hN m hm hl hv hw ho a3 a4 a5 a6 a7 a8 a9 a10
  obtain⟨N,rfl⟩:∃M,N=M+1:=⟨N-1,by omega⟩
  have h:i<fs.length:=by omega
  have l1:=hv.len
  obtain⟨p,e1,hp,e2,_⟩:=hv.at h
  obtain⟨m1,g1,E1⟩:=Yl hm hl ((hw i h).at (hs i h)) n fu hfu (hw i h).ga (hw i h).gb
  rw [show jZ fs[i].f fs[i].a fs[i].b fs[i].l=fs[i].valid from rfl] at g1
  cases hval:fs[i].valid with
  | false=>
   rw [hval] at g1
   refine⟨.ret,i,.bool true,.bool false,.bool true,a6,a7,a8,a9,a10,1,i,m1,?_,E1,.inr ⟨rfl,.inr ⟨i,rfl,h,ho,.inl ⟨rfl,hval⟩⟩⟩⟩
   rw [F7]
   simp [Dw,F3,trD,H9,w9,p8,l8,h,l1,e1,e2,g1]
  | true=>
   rw [hval] at g1
   obtain⟨x,t',b7,b8,b9,b10,c1,c2,m2,g2,E2,hx⟩:=Yq hb hs n fu hfu i h (.bool true) i 0 (by omega) fu (by omega) m1 E1.ok (hv.ext E1) (fun i h=>(hw i h).ext E1) a7 a8 a9 a10
   simp [F3,trD,H9,w9,p8,l8] at g2
   have E12:=E1.trans E2
   rcases hx with⟨rfl,rfl,rfl,hx⟩ | ⟨rfl,rfl,rfl,u,hu,hx⟩
   ·obtain⟨x,k,b3,b4,b5,b6,b7,b8,b9,b10,d1,d2,m',g3,E3,h3⟩:=ih (i+1) (by omega) N (by omega) m2 E2.ok (by rw [E12.lim];have:=E12.next;omega) (hv.ext E12) (fun i h=>(hw i h).ext E12)
     (fun t ht=>by
      by_cases hti:t=i
      ·subst hti;exact⟨h,hval,fun u hu=>hx u hu (by omega)⟩
      ·exact ho t (by omega)) (.bool true) (.bool true) (.bool false) t' b7 b8 b9 b10
    refine⟨x,k,b3,b4,b5,b6,b7,b8,b9,b10,d1,d2,m',?_,E12.trans E3,h3⟩
    rw [F7,← g3]
    simp [Dw,F3,trD,H9,w9,p8,l8,h,l1,e1,e2,g1,g2,U1 (i:=i) (by omega)]
   ·refine⟨.ret,i,.bool true,.bool true,.bool false,t',b7,b8,b9,b10,9,i,m2,?_,E12,.inr ⟨rfl,.inr ⟨i,rfl,h,ho,.inr ⟨rfl,hval,u,hu,hx⟩⟩⟩⟩
    rw [F7]
    simp [Dw,F3,trD,H9,w9,p8,l8,h,l1,e1,e2,g1,g2]
theorem Gp {m:Mem}{v:o8}{fs:List FR}(hm:m.Ok)(hl:m.lim≤m.next)(hv:dA m v fs)(hw:∀i (h:i<fs.length),gB m fs[i])(hb:fs.length≤36)(hs:∀t (h:t<fs.length),fs[t].small=true)(n fu:Nat)(hfu:1000≤fu):
  ∃c i m',G9 KW fu (n+8) (.func 10) [v] m=some [⟨.tuple [.int .i64 c,.int .i64 i],m'⟩]∧Ext m m'∧DF fs c i:=by
 rw [enter (sf:=f10) rfl rfl]
 have l1:=hv.len
 have hb':¬ 200<(fs.length:Int):=by omega
 obtain⟨x,k,b3,b4,b5,b6,b7,b8,b9,b10,c1,c2,m',g,E1,hx⟩:=Pj hb hs n fu hfu fs.length 0 (by omega) fu (by omega) m hm hl hv hw (fun t h=>by omega) .undef .undef .undef .undef .undef .undef .undef .undef
 simp [F3,trD,H9,w9,p8,l8] at g
 rcases hx with⟨rfl,hx⟩ | ⟨rfl,hx⟩
 ·refine⟨0,-1,m',?_,E1,.inl ⟨rfl,rfl,hx⟩⟩
  simp [f10,F3,trD,H9,w9,p8,l8,l1,hb',g]
 ·refine⟨c1,c2,m',?_,E1,hx⟩
  simp [f10,F3,trD,H9,w9,p8,l8,l1,hb',g]
end Go.Proofs.YtefodipjjofocaaGreatDoor.TT
namespace Go.Proofs.YtefodipjjofocaaGreatDoor.TT
open Go Go.AM
set_option linter.unusedSimpArgs false
set_option linter.unusedVariables false
set_option maxRecDepth 100000
set_option maxHeartbeats 2000000
noncomputable def nk (r:FR):o8:=.agg [.int .i64 r.f.room,.int .i64 r.f.no]
noncomputable def ent (r:FR):o8×o8:=(nk r,.agg r.f.cells)
theorem uF (r:FR):∀(ms:List FR) (p:Nat),dZ (ms.map ent) (nk r) (.agg r.f.cells) p=(ms.set p r).map ent
 | [],p=>by cases p<;>rfl
 | s::ms,0=>rfl
 | s::ms,p+1=>by
  show ent s::dZ (ms.map ent) (nk r) (.agg r.f.cells) p=ent s::(ms.set p r).map ent
  rw [uF r ms p]
theorem Yr (r s:FR):R4 [.i,.i] (nk r) (nk s)=some (r.P5 s):=by
 simp [nk,FR.P5]
theorem Ck (r:FR):∀(ms:List FR) (i0:Nat),((∀s,s∈ms→r.P5 s=false)∧findKey (R4 [.i,.i]) (nk r) (ms.map ent) i0=some none)∨
  ∃p s,ms[p]?=some s∧r.P5 s=true∧findKey (R4 [.i,.i]) (nk r) (ms.map ent) i0=some (some (i0+p,.agg s.f.cells))
 | [],i0=>.inl ⟨fun s h=>by simp at h,rfl⟩
 | s::ms,i0=>by
  have hh:findKey (R4 [.i,.i]) (nk r) ((s::ms).map ent) i0=bi (r.P5 s) (some (some (i0,.agg s.f.cells))) (findKey (R4 [.i,.i]) (nk r) (ms.map ent) (i0+1)):=by
   rw [List.map_cons,P6]
   show ob (R4 [.i,.i] (nk r) (nk s)) _=_
   rw [Yr,O3];rfl
  rw [hh]
  cases hn:r.P5 s with
  | true=>exact .inr ⟨0,s,rfl,hn,rfl⟩
  | false=>
   rcases Ck r ms (i0+1) with⟨h1,h2⟩ | ⟨p,t,h1,h2,h3⟩
   ·refine .inl ⟨fun t ht=>?_,h2⟩
    rcases List.mem_cons.mp ht with rfl | ht
    ·exact hn
    ·exact h1 t ht
   ·exact .inr ⟨p+1,t,h1,h2,by rw [Y8,h3];congr 3;omega⟩
theorem Gq (r:FR)(ms:List FR):((∀s,s∈ms→r.P5 s=false)∧R8 (R4 [.i,.i]) 2 (nk r) (ms.map ent)=some none)∨
  ∃p s,ms[p]?=some s∧r.P5 s=true∧R8 (R4 [.i,.i]) 2 (nk r) (ms.map ent)=some (some (p,.agg s.f.cells)):=by
 cases ms with
 | nil=>
  refine .inl ⟨fun s h=>by simp at h,?_⟩
  show bi true (ob (R4 [.i,.i] (nk r) (nk r)) fun _=>some none) none=_
  rw [Yr];rfl
 | cons s ms=>
  have hh:R8 (R4 [.i,.i]) 2 (nk r) ((s::ms).map ent)=findKey (R4 [.i,.i]) (nk r) ((s::ms).map ent) 0:=rfl
  rw [hh]
  rcases Ck r (s::ms) 0 with h | ⟨p,t,h1,h2,h3⟩
  ·exact .inl h
  ·exact .inr ⟨p,t,h1,h2,by rw [h3,Nat.zero_add]⟩
theorem FR.gD (r s:FR):r.P5 s=s.P5 r:=by simp only [FR.P5,N8 r.f.room,N8 r.f.no]
theorem FR.kg {r s t:FR}(h:r.P5 s=true)(k:s.P5 t=true):r.P5 t=true:=by
 simp only [FR.P5,Bool.and_eq_true,decide_eq_true_eq] at *
 exact⟨h.1.trans k.1,h.2.trans k.2⟩
theorem FR.zC (r s:FR):r.same s=s.same r:=uE ..
theorem FR.nY {r s t:FR}(h:r.same s=true)(k:s.same t=true):r.same t=true:=by
 simp only [FR.same,Z5,aj,nX,Bool.and_eq_true,decide_eq_true_eq] at *
 simp [h,k]
def eX (fs:List FR)(i:Nat)(ms:List FR):Prop:=(∀r,r∈ms→∃j,∃h:j<fs.length,j<i∧r=fs[j])∧∀j (h:j<fs.length),j<i→∃r,r∈ms∧fs[j].P5 r=true
theorem eX.nil (fs:List FR):eX fs 0 []:=⟨fun r h=>by simp at h,fun j _ h=>by omega⟩
theorem eX.push {fs:List FR}{i:Nat}{ms:List FR}(h:eX fs i ms)(hi:i<fs.length):eX fs (i+1) (ms ++ [fs[i]]):=by
 refine⟨fun r hr=>?_,fun j hj hji=>?_⟩
 ·rcases List.mem_append.mp hr with hr | hr
  ·obtain⟨j,h1,h2,h3⟩:=h.1 r hr;exact⟨j,h1,by omega,h3⟩
  ·exact⟨i,hi,by omega,by simpa using hr⟩
 ·by_cases hj':j=i
  ·subst hj';exact⟨fs[j],by simp,by simp [FR.P5]⟩
  ·obtain⟨r,h1,h2⟩:=h.2 j hj (by omega);exact⟨r,List.mem_append.mpr (.inl h1),h2⟩
theorem eX.put {fs:List FR}{i:Nat}{ms:List FR}(h:eX fs i ms)(hi:i<fs.length){p:Nat}{s:FR}(hp:ms[p]?=some s)(hn:fs[i].P5 s=true):eX fs (i+1) (ms.set p fs[i]):=by
 have hpl:p<ms.length:=by
  rcases Nat.lt_or_ge p ms.length with hl | hl
  ·exact hl
  ·rw [List.getElem?_eq_none hl] at hp;simp at hp
 have hmem:fs[i]∈ms.set p fs[i]:=List.mem_set hpl _
 refine⟨fun r hr=>?_,fun j hj hji=>?_⟩
 ·rcases List.mem_or_eq_of_mem_set hr with hr | hr
  ·obtain⟨j,h1,h2,h3⟩:=h.1 r hr;exact⟨j,h1,by omega,h3⟩
  ·exact⟨i,hi,by omega,hr⟩
 ·by_cases hj':j=i
  ·subst hj';exact⟨fs[j],hmem,by simp [FR.P5]⟩
  ·obtain⟨r,h1,h2⟩:=h.2 j hj (by omega)
   obtain⟨q,hq⟩:=List.mem_iff_getElem?.mp h1
   by_cases hqp:q=p
   ·subst hqp
    rw [hp] at hq
    cases hq
    exact⟨fs[i],hmem,FR.kg h2 (by rw [FR.gD];exact hn)⟩
   ·exact⟨r,List.mem_iff_getElem?.mpr ⟨q,by rw [List.getElem?_set_ne (fun e=>hqp e.symm)];exact hq⟩,h2⟩
theorem eX.none {fs:List FR}{i:Nat}{ms:List FR}(h:eX fs i ms)(hi:i<fs.length)(hv:fs[i].valid=true)(hn:∀s,s∈ms→fs[i].P5 s=false):Ed fs i:=by
 refine⟨hi,hv,fun u hu hne=>?_⟩
 obtain⟨r,h1,h2⟩:=h.2 u (by omega) hu
 have h3:fs[i].P5 r=true:=FR.kg (by rw [FR.gD];exact hne) h2
 rw [hn r h1] at h3;simp at h3
theorem eX.same {fs:List FR}{i:Nat}{ms:List FR}(h:eX fs i ms)(hi:i<fs.length)(ho:∀t,t<i→Ed fs t)(hv:fs[i].valid=true){s:FR}(hm:s∈ms)(hn:fs[i].P5 s=true)(hs:s.same fs[i]=true):Ed fs i:=by
 refine⟨hi,hv,fun u hu hne=>?_⟩
 obtain⟨j,h1,h2,rfl⟩:=h.1 s hm
 have h3:(fs[u]'(by omega)).P5 fs[j]=true:=FR.kg hne hn
 rcases Nat.lt_trichotomy u j with hl | hl | hl
 ·obtain⟨_,_,h4⟩:=ho j h2
  exact FR.nY (h4 u hl h3) hs
 ·subst hl;exact hs
 ·obtain⟨_,_,h4⟩:=ho u hu
  have h5:=h4 j hl (by rw [FR.gD];exact h3)
  exact FR.nY (by rw [FR.zC];exact h5) hs
theorem eX.bad {fs:List FR}{i:Nat}{ms:List FR}(h:eX fs i ms)(hi:i<fs.length)(ho:∀t,t<i→Ed fs t)(hv:fs[i].valid=true){s:FR}(hm:s∈ms)(hn:fs[i].P5 s=true)(hs:s.same fs[i]=false):Kt fs 9 i:=by
 obtain⟨j,h1,h2,rfl⟩:=h.1 s hm
 exact⟨hi,ho,.inr ⟨rfl,hv,j,h2,by rw [FR.gD];exact hn,hs⟩⟩
theorem zD {ms:List FR}{r:FR}(h:R8 (R4 [.i,.i]) 2 (nk r) (ms.map ent)=some none):msB (some (.map (ms.map ent))) (R4 [.i,.i]) 2 (nk r) (.agg r.f.cells)=some (.map ((ms ++ [r]).map ent)):=by
 rw [vM,h,O3,List.map_append];rfl
theorem zF {ms:List FR}{r:FR}{p:Nat}{s:FR}(hp:ms[p]?=some s)(h:R8 (R4 [.i,.i]) 2 (nk r) (ms.map ent)=some (some (p,.agg s.f.cells))):msB (some (.map (ms.map ent))) (R4 [.i,.i]) 2 (nk r) (.agg r.f.cells)=some (.map ((ms.set p r).map ent)):=by
 rw [vM,h,O3]
 show ob (ms.map ent)[p]? _=_
 rw [List.getElem?_map,hp]
 show bi (Nat.beq 2 2) (some (Blk.map (dZ (ms.map ent) (nk r) (.agg r.f.cells) p))) none=_
 rw [uF];rfl
end Go.Proofs.YtefodipjjofocaaGreatDoor.TT
namespace Go.Proofs.YtefodipjjofocaaGreatDoor.TT
open Go Go.AM
set_option linter.unusedSimpArgs false
set_option linter.unusedVariables false
set_option maxRecDepth 100000
set_option maxHeartbeats 2000000
theorem gB.one {m:Mem}{r:FR}(h:gB m r):Q6 r.f.cells=true:=by
 have o1:=h.a.K4
 have o2:=h.b.K4
 have o3:=h.l.K4
 have hi:∀k x,K4 (.int k x)=true:=fun _ _=>rfl
 simp [Fct.cells,o1,o2,o3,hi,-Fct.O8]
theorem Yt {v:o8}{fs:List FR}{m0:Mem}{mp:Nat}(hm0:m0.Ok)(hl0:m0.lim≤m0.next)(hv:dA m0 v fs)(hw:∀i (h:i<fs.length),gB m0 fs[i])(hmp:m0.next≤mp)(hb:fs.length≤36)(hs:∀t (h:t<fs.length),fs[t].small=true)(n fu:Nat)(hfu:1000≤fu):
  ∀(j i:Nat),i+j=fs.length→∀(N:Nat),j<N→∀(m:Mem) (ms:List FR),Ext m0 m→mp<m.next→m.get mp=some (.map (ms.map ent))→eX fs i ms→(∀t,t<i→Ed fs t)→∀(a4 a6 a7 a8 a10 a11 a12:o8),
   ∃x k b4 b6 b7 b8 b10 b11 b12 c1 c2 m',V9 (fun env m k=>Ob (G9 KW fu (n+11)) fu none env m k) N (.nd (.nd (.nd (.nd .e a7 .e) (.int .i64 ((fs.length:Nat):Int)) (.nd .e a11 .e)) (.bool false) (.nd (.nd .e (.map mp) .e) v (.nd .e (.int .i64 0) .e))) v (.nd (.nd (.nd .e a8 .e) a4 (.nd .e a12 .e)) (.int .i64 ((i:Nat):Int)) (.nd (.nd .e a10 .e) a6 (.nd .e (.int .i64 0) .e)))) m []=some [⟨x,(.nd (.nd (.nd (.nd .e b7 .e) (.int .i64 ((fs.length:Nat):Int)) (.nd .e b11 .e)) (.bool false) (.nd (.nd .e (.map mp) .e) v (.nd .e (.int .i64 c1) .e))) v (.nd (.nd (.nd .e b8 .e) b4 (.nd .e b12 .e)) (.int .i64 ((k:Nat):Int)) (.nd (.nd .e b10 .e) b6 (.nd .e (.int .i64 c2) .e)))),m',[],none⟩]∧Ext m0 m'∧
    ((x=.exit 0∧∀t,t<fs.length→Ed fs t)∨(x=.ret∧DF fs c1 c2)):=by
 intro j
 induction j with
 | zero=>
  intro i hi N hN m ms E0 hmn hgm hI ho a4 a6 a7 a8 a10 a11 a12
  obtain⟨N,rfl⟩:∃M,N=M+1:=⟨N-1,by omega⟩
  refine⟨.exit 0,i,.bool false,a6,a7,a8,a10,a11,a12,0,0,m,?_,E0,.inl ⟨rfl,fun t h=>ho t (by omega)⟩⟩
  rw [F7]
  have h:¬ i<fs.length:=by omega
  simp [Ob,F3,trD,H9,w9,p8,l8,h]
 | succ j ih=>
  intro i hi N hN m ms E0 hmn hgm hI ho a4 a6 a7 a8 a10 a11 a12
  obtain⟨N,rfl⟩:∃M,N=M+1:=⟨N-1,by omega⟩
  have h:i<fs.length:=by omega
  have hm:m.Ok:=E0.ok
  have hl:m.lim≤m.next:=by rw [E0.lim];have:=E0.next;omega
  obtain⟨p,e1,hp,e2,_⟩:=(hv.ext E0).at h
  have one:=(hw i h).one
  have Eb:=G7 hm [D9 fs[i].f.cells]
  have Eb0:=E0.trans Eb
  obtain⟨m1,g1,E1⟩:=Ym (K5 hm _) (by simp;omega) (((hw i h).ext Eb0).at (hs i h)) n fu hfu (hw i h).ga (hw i h).gb
  rw [show jZ fs[i].f fs[i].a fs[i].b fs[i].l=fs[i].valid from rfl] at g1
  have E01:=Eb0.trans E1
  cases hval:fs[i].valid with
  | false=>
   rw [hval] at g1
   refine⟨.ret,i,.bool true,.ptr m.next 0,.bool true,(.int .i64 (i:Nat)),a10,a11,a12,1,i,m1,?_,E01,.inr ⟨rfl,.inr ⟨i,rfl,h,ho,.inl ⟨rfl,hval⟩⟩⟩⟩
   rw [F7]
   simp [Ob,F3,trD,H9,w9,p8,l8,D5,D7,j5 hm,j6 hm,G6 hm hl,x9 hm hl,l9 hm,l5 hm,G5,r9,C8,A8,K4,h,e1,e2,g1,one]
  | true=>
   rw [hval] at g1
   have k1:m1.Ok:=E1.ok
   have n1:m.next+1≤m1.next:=by have:=E1.next;simpa using this
   have l1:m1.lim≤m1.next:=by rw [E01.lim];have:=E01.next;omega
   have q1:m1.get m.next=some (D9 fs[i].f.cells):=by rw [E1.old _ (by simp),j5 hm];rfl
   have qm:m1.get mp=some (.map (ms.map ent)):=by rw [E1.old _ (by simp;omega),H7 hm _ hmn];exact hgm
   have c35:=rF (n+10) fu fs[i].f m1 k1 l1
   have hmpl:∀{M:Mem},Ext m0 M→Nat.blt mp M.lim=false:=fun E=>by
    cases hh:Nat.blt mp _ with
    | false=>rfl
    | true=>have:=Nat.blt_eq.mp hh;rw [E.lim] at this;omega
   rcases Gq fs[i] ms with⟨hn,hf⟩ | ⟨pp,s,hp1,hn,hf⟩
   ·have hlook:∀(zero:o8) (mp' k:OF) ls env,mp' ls env=.map mp→k ls env=.agg [.int .i64 fs[i].f.room,.int .i64 fs[i].f.no]→bB (R4 [.i,.i]) 2 zero true mp' k ls env (ext m1 [D9 fs[i].f.cells,D9 [.int .i64 fs[i].f.room,.int .i64 fs[i].f.no]])=some (.tuple [zero,.bool false]):=by
     intro zero mp' k ls env x1 x2
     rw [dY _ _ _ _ _ _ _ _ _ _ (ms.map ent) x1 (by rw [H7 k1 _ (by omega)];exact qm),x2]
     rw [show R8 (R4 [.i,.i]) 2 (.agg [.int .i64 fs[i].f.room,.int .i64 fs[i].f.no]) (ms.map ent)=some none from hf]
     rfl
    have E03:=E01.trans (G7 k1 [D9 fs[i].f.cells,D9 [.int .i64 fs[i].f.room,.int .i64 fs[i].f.no],D9 [.int .i64 0,.int .i64 0,.int .i64 0,.int .i64 0,.int .i64 0,.int .i64 0,.int .i64 0,.int .i64 0,.int .i64 0,.int .i64 0,.int .i64 0,.int .i64 0,.int .i64 0,.int .i64 0,.int .i64 0,.int .i64 0,.int .i64 0,.int .i64 0,.int .i64 0,.int .i64 0,.int .i64 0,.int .i64 0,.nilSlice,.nilSlice,.int .i64 0,.int .i64 0,.int .i64 0,.int .i64 0,.int .i64 0,.nilSlice,.int .i64 0,.int .i64 0]])
    have r1:(ext m1 [D9 fs[i].f.cells,D9 [.int .i64 fs[i].f.room,.int .i64 fs[i].f.no],D9 [.int .i64 0,.int .i64 0,.int .i64 0,.int .i64 0,.int .i64 0,.int .i64 0,.int .i64 0,.int .i64 0,.int .i64 0,.int .i64 0,.int .i64 0,.int .i64 0,.int .i64 0,.int .i64 0,.int .i64 0,.int .i64 0,.int .i64 0,.int .i64 0,.int .i64 0,.int .i64 0,.int .i64 0,.int .i64 0,.nilSlice,.nilSlice,.int .i64 0,.int .i64 0,.int .i64 0,.int .i64 0,.int .i64 0,.nilSlice,.int .i64 0,.int .i64 0]]).get m.next=some (D9 fs[i].f.cells):=by rw [H7 k1 _ (by omega)];exact q1
    have d35:=rF (n+10) fu fs[i].f (ext m1 [D9 fs[i].f.cells,D9 [.int .i64 fs[i].f.room,.int .i64 fs[i].f.no],D9 [.int .i64 0,.int .i64 0,.int .i64 0,.int .i64 0,.int .i64 0,.int .i64 0,.int .i64 0,.int .i64 0,.int .i64 0,.int .i64 0,.int .i64 0,.int .i64 0,.int .i64 0,.int .i64 0,.int .i64 0,.int .i64 0,.int .i64 0,.int .i64 0,.int .i64 0,.int .i64 0,.int .i64 0,.int .i64 0,.nilSlice,.nilSlice,.int .i64 0,.int .i64 0,.int .i64 0,.int .i64 0,.int .i64 0,.nilSlice,.int .i64 0,.int .i64 0]]) E03.ok (by simp;omega)
    have r2:(ext m1 [D9 fs[i].f.cells,D9 [.int .i64 fs[i].f.room,.int .i64 fs[i].f.no],D9 [.int .i64 0,.int .i64 0,.int .i64 0,.int .i64 0,.int .i64 0,.int .i64 0,.int .i64 0,.int .i64 0,.int .i64 0,.int .i64 0,.int .i64 0,.int .i64 0,.int .i64 0,.int .i64 0,.int .i64 0,.int .i64 0,.int .i64 0,.int .i64 0,.int .i64 0,.int .i64 0,.int .i64 0,.int .i64 0,.nilSlice,.nilSlice,.int .i64 0,.int .i64 0,.int .i64 0,.int .i64 0,.int .i64 0,.nilSlice,.int .i64 0,.int .i64 0],D9 fs[i].f.cells,D9 [.int .i64 fs[i].f.room,.int .i64 fs[i].f.no]]).get m.next=some (D9 fs[i].f.cells):=by rw [H7 k1 _ (by omega)];exact q1
    have r3:msB ((ext m1 [D9 fs[i].f.cells,D9 [.int .i64 fs[i].f.room,.int .i64 fs[i].f.no],D9 [.int .i64 0,.int .i64 0,.int .i64 0,.int .i64 0,.int .i64 0,.int .i64 0,.int .i64 0,.int .i64 0,.int .i64 0,.int .i64 0,.int .i64 0,.int .i64 0,.int .i64 0,.int .i64 0,.int .i64 0,.int .i64 0,.int .i64 0,.int .i64 0,.int .i64 0,.int .i64 0,.int .i64 0,.int .i64 0,.nilSlice,.nilSlice,.int .i64 0,.int .i64 0,.int .i64 0,.int .i64 0,.int .i64 0,.nilSlice,.int .i64 0,.int .i64 0],D9 fs[i].f.cells,D9 [.int .i64 fs[i].f.room,.int .i64 fs[i].f.no]]).get mp) (R4 [.i,.i]) 2 (.agg [.int .i64 fs[i].f.room,.int .i64 fs[i].f.no]) (.agg fs[i].f.cells)=some (.map ((ms ++ [fs[i]]).map ent)):=by
     rw [H7 k1 _ (by omega),qm];exact zD hf
    have E04:=E01.trans (G7 k1 [D9 fs[i].f.cells,D9 [.int .i64 fs[i].f.room,.int .i64 fs[i].f.no],D9 [.int .i64 0,.int .i64 0,.int .i64 0,.int .i64 0,.int .i64 0,.int .i64 0,.int .i64 0,.int .i64 0,.int .i64 0,.int .i64 0,.int .i64 0,.int .i64 0,.int .i64 0,.int .i64 0,.int .i64 0,.int .i64 0,.int .i64 0,.int .i64 0,.int .i64 0,.int .i64 0,.int .i64 0,.int .i64 0,.nilSlice,.nilSlice,.int .i64 0,.int .i64 0,.int .i64 0,.int .i64 0,.int .i64 0,.nilSlice,.int .i64 0,.int .i64 0],D9 fs[i].f.cells,D9 [.int .i64 fs[i].f.room,.int .i64 fs[i].f.no]])
    have r4:=hmpl E01
    have E05:=E04.set (i:=mp) (by simp;omega) hmp (.map ((ms ++ [fs[i]]).map ent))
    obtain⟨x,k,b4,b6,b7,b8,b10,b11,b12,c1,c2,m',g2,E2,hx⟩:=ih (i+1) (by omega) N (by omega) _ (ms ++ [fs[i]]) E05 (by show mp<(ext m1 _).next;simp;omega) (U4 E04.ok _ (by simp;omega) rfl) (hI.push h)
     (fun t ht=>by
      by_cases hti:t=i
      ·subst hti;exact hI.none h hval hn
      ·exact ho t (by omega)) (.bool true) (.ptr m.next 0) (.bool false) (.int .i64 (i:Nat)) (.bool false) (.ptr (m1.next+2) 0) (.bool false)
    refine⟨x,k,b4,b6,b7,b8,b10,b11,b12,c1,c2,m',?_,E2,hx⟩
    rw [F7,← g2]
    simp [Ob,F3,trD,H9,w9,p8,l8,D5,D7,j5 hm,j5 k1,j6 hm,j6 k1,G6 hm hl,G6 k1 l1,x9 k1 l1,x9 hm hl,l9 hm,l9 k1,l5 hm,l5 k1,G5,r9,C8,A8,K4,h,e1,e2,g1,one,q1,c35,hlook,r1,d35,r2,r3,r4,kQ,(hw i h).at (hs i h) |>.same,U1 (i:=i) (by omega)]
   ·have hmem:s∈ms:=List.mem_iff_getElem?.mpr ⟨pp,hp1⟩
    obtain⟨jj,hj1,hj2,hsj⟩:=hI.1 s hmem
    have hsw:gB m0 s:=by rw [hsj];exact hw jj hj1
    have hss:s.small=true:=by rw [hsj];exact hs jj hj1
    have one2:=hsw.one
    have hlook:∀(zero:o8) (mp' k:OF) ls env,mp' ls env=.map mp→k ls env=.agg [.int .i64 fs[i].f.room,.int .i64 fs[i].f.no]→bB (R4 [.i,.i]) 2 zero true mp' k ls env (ext m1 [D9 fs[i].f.cells,D9 [.int .i64 fs[i].f.room,.int .i64 fs[i].f.no]])=some (.tuple [.agg s.f.cells,.bool true]):=by
     intro zero mp' k ls env x1 x2
     rw [dY _ _ _ _ _ _ _ _ _ _ (ms.map ent) x1 (by rw [H7 k1 _ (by omega)];exact qm),x2]
     rw [show R8 (R4 [.i,.i]) 2 (.agg [.int .i64 fs[i].f.room,.int .i64 fs[i].f.no]) (ms.map ent)=some (some (pp,.agg s.f.cells)) from hf]
     rfl
    have E03:=E01.trans (G7 k1 [D9 fs[i].f.cells,D9 [.int .i64 fs[i].f.room,.int .i64 fs[i].f.no],D9 s.f.cells])
    have r1:(ext m1 [D9 fs[i].f.cells,D9 [.int .i64 fs[i].f.room,.int .i64 fs[i].f.no],D9 s.f.cells]).get m.next=some (D9 fs[i].f.cells):=by rw [H7 k1 _ (by omega)];exact q1
    obtain⟨M3,g13,E3⟩:∃M3,G9 KW fu (n+11) (.func 13) [.agg s.f.cells,.agg fs[i].f.cells] (ext m1 [D9 fs[i].f.cells,D9 [.int .i64 fs[i].f.room,.int .i64 fs[i].f.no],D9 s.f.cells])=some [⟨.bool (s.same fs[i]),M3⟩]∧Ext (ext m1 [D9 fs[i].f.cells,D9 [.int .i64 fs[i].f.room,.int .i64 fs[i].f.no],D9 s.f.cells]) M3:=
     ⟨_,pq E03.ok (by simp;omega) ((hsw.ext E03).at hss) (((hw i h).ext E03).at (hs i h)) (n+8) fu hfu,G7 E03.ok _⟩
    have E04:=E03.trans E3
    have k3:M3.Ok:=E3.ok
    have n3:m1.next+3≤M3.next:=by have:=E3.next;simpa using this
    have l3:M3.lim≤M3.next:=by rw [E04.lim];have:=E04.next;omega
    cases hsm:s.same fs[i] with
    | false=>
     rw [hsm] at g13
     refine⟨.ret,i,.bool true,.ptr m.next 0,.bool false,(.int .i64 (i:Nat)),.bool true,.ptr (m1.next+2) 0,.bool true,9,i,M3,?_,E04,.inr ⟨rfl,.inr ⟨i,rfl,hI.bad h ho hval hmem hn hsm⟩⟩⟩
     rw [F7]
     simp [Ob,F3,trD,H9,w9,p8,l8,D5,D7,j5 hm,j5 k1,j6 hm,j6 k1,G6 hm hl,G6 k1 l1,x9 k1 l1,x9 hm hl,l9 hm,l9 k1,l5 hm,l5 k1,G5,r9,C8,A8,K4,h,e1,e2,g1,one,one2,q1,c35,hlook,r1,g13]
    | true=>
     rw [hsm] at g13
     have s1:M3.get m.next=some (D9 fs[i].f.cells):=by rw [E3.old _ (by simp;omega)];exact r1
     have d35:=rF (n+10) fu fs[i].f M3 k3 l3
     have r2:(ext M3 [D9 fs[i].f.cells,D9 [.int .i64 fs[i].f.room,.int .i64 fs[i].f.no]]).get m.next=some (D9 fs[i].f.cells):=by rw [H7 k3 _ (by omega)];exact s1
     have r3:msB ((ext M3 [D9 fs[i].f.cells,D9 [.int .i64 fs[i].f.room,.int .i64 fs[i].f.no]]).get mp) (R4 [.i,.i]) 2 (.agg [.int .i64 fs[i].f.room,.int .i64 fs[i].f.no]) (.agg fs[i].f.cells)=some (.map ((ms.set pp fs[i]).map ent)):=by
      rw [H7 k3 _ (by omega),E3.old _ (by simp;omega),H7 k1 _ (by omega),qm];exact zF hp1 hf
     have E06:=E04.trans (G7 k3 [D9 fs[i].f.cells,D9 [.int .i64 fs[i].f.room,.int .i64 fs[i].f.no]])
     have r4:=hmpl E04
     have E05:=E06.set (i:=mp) (by simp;omega) hmp (.map ((ms.set pp fs[i]).map ent))
     obtain⟨x,k,b4,b6,b7,b8,b10,b11,b12,c1,c2,m',g2,E2,hx⟩:=ih (i+1) (by omega) N (by omega) _ (ms.set pp fs[i]) E05 (by show mp<(ext M3 _).next;simp;omega) (U4 E06.ok _ (by simp;omega) rfl) (hI.put h hp1 hn)
      (fun t ht=>by
       by_cases hti:t=i
       ·subst hti;exact hI.same h ho hval hmem hn hsm
       ·exact ho t (by omega)) (.bool true) (.ptr m.next 0) (.bool false) (.int .i64 (i:Nat)) (.bool true) (.ptr (m1.next+2) 0) (.bool false)
     refine⟨x,k,b4,b6,b7,b8,b10,b11,b12,c1,c2,m',?_,E2,hx⟩
     rw [F7,← g2]
     simp [Ob,F3,trD,H9,w9,p8,l8,D5,D7,j5 hm,j5 k1,j6 hm,j6 k1,G6 hm hl,G6 k1 l1,x9 k1 l1,x9 hm hl,l9 hm,l9 k1,l5 hm,l5 k1,G5,r9,C8,A8,K4,h,e1,e2,g1,one,one2,q1,c35,hlook,r1,g13,s1,d35,r2,r3,r4,kQ,(hw i h).at (hs i h) |>.same,U1 (i:=i) (by omega)]
theorem Pk {m:Mem}{v:o8}{fs:List FR}(hm:m.Ok)(hl:m.lim≤m.next)(hv:dA m v fs)(hw:∀i (h:i<fs.length),gB m fs[i])(hb:fs.length≤36)(hs:∀t (h:t<fs.length),fs[t].small=true)(n fu:Nat)(hfu:1000≤fu):
  ∃c i m',G9 KW fu (n+12) (.func 9) [v] m=some [⟨.tuple [.int .i64 c,.int .i64 i],m'⟩]∧Ext m m'∧DF fs c i:=by
 rw [enter (sf:=f9) rfl rfl]
 have l1:=hv.len
 have hb':¬ 200<(fs.length:Int):=by omega
 obtain⟨x,k,b4,b6,b7,b8,b10,b11,b12,c1,c2,m',g,E1,hx⟩:=Yt hm hl hv hw (Nat.le_refl _) hb hs n fu hfu fs.length 0 (by omega) fu (by omega) (ext m [.map []]) [] (G7 hm _) (by simp) (by rw [j5 hm];rfl) (eX.nil fs) (fun t h=>by omega) .undef .undef .undef .undef .undef .undef .undef
 simp [F3,trD,H9,w9,p8,l8] at g
 rcases hx with⟨rfl,hx⟩ | ⟨rfl,hx⟩
 ·refine⟨0,-1,m',?_,E1,.inl ⟨rfl,rfl,hx⟩⟩
  simp [f9,F3,trD,H9,w9,p8,l8,D5,D7,j5 hm,j6 hm,G6 hm hl,x9 hm hl,l9 hm,l5 hm,G5,r9,C8,A8,K4,l1,hb',g]
 ·refine⟨c1,c2,m',?_,E1,hx⟩
  simp [f9,F3,trD,H9,w9,p8,l8,D5,D7,j5 hm,j6 hm,G6 hm hl,x9 hm hl,l9 hm,l5 hm,G5,r9,C8,A8,K4,l1,hb',g]
end Go.Proofs.YtefodipjjofocaaGreatDoor.TT
namespace Go.Proofs.YtefodipjjofocaaGreatDoor.TT
open Go Go.AM
set_option linter.unusedSimpArgs false
set_option linter.unusedVariables false
set_option maxRecDepth 100000
set_option maxHeartbeats 400000
theorem ajW (n fu:Nat)(m:Mem):G9 KW fu (n+1) (.func 8) [] m=some [⟨.bool true,m⟩]:=by
 rw [gq]
 have h:KW.fns 8=some {f8 with pure:=true}:=rfl
 simp only [h,O3,ay]
 rfl
end Go.Proofs.YtefodipjjofocaaGreatDoor.TT
namespace Go.Proofs.YtefodipjjofocaaGreatDoor.TT
open Go Go.AM
set_option linter.unusedSimpArgs false
set_option linter.unusedVariables false
set_option maxRecDepth 100000
set_option maxHeartbeats 2000000
theorem FR.Gr (r:FR):r.same r=true:=by simp [FR.same,Z5,aj,nX]
end Go.Proofs.YtefodipjjofocaaGreatDoor.TT
namespace Go.AM
open Go
def stT (P:Program)(t:TypeId):Option (List TypeId):=match P.underlying t with
 | some (.struct fs)=>some (fs.toList.map (·.type))
 | _=>none
def slT (P:Program)(t:TypeId):Option TypeId:=match P.underlying t with
 | some (.slice e)=>some e
 | _=>none
def inT (P:Program)(t:TypeId):Option IntKind:=match P.underlying t with
 | some (.int k)=>some k
 | _=>none
def Ku (S:TypeId→List o8→Prop):List TypeId→List o8→Prop
 | [],vs=>vs=[]
 | t::ts,vs=>∃a b,vs=a++b∧S t a∧Ku S ts b
theorem Cm {S:TypeId→List o8→Prop}:∀fs vs,Dv S fs vs→Ku S (fs.map (·.type)) vs
 | [],_,h=>h
 | _::fs,_,⟨a,b,h1,h2,h3⟩=>⟨a,b,h1,h2,Cm fs b h3⟩
theorem uG {P:Program}{m:Mem}{n:Nat}{t:TypeId}{ts:List TypeId}{vs:List o8}(h:stT P t=some ts)(hs:shp P m (n+1) t vs):Ku (shp P m n) ts vs:=by
 unfold shp at hs
 unfold stT at h
 split at h
 ·rename_i fs hu
  rw [hu] at hs
  cases h
  exact Cm _ _ hs
 ·cases h
theorem Gs {P:Program}{m:Mem}{n:Nat}{t:TypeId}{k:IntKind}{vs:List o8}(h:inT P t=some k)(hs:shp P m (n+1) t vs):∃i,vs=[.int k i]∧(Lit.int k i).wf=true:=by
 unfold shp at hs
 unfold inT at h
 split at h
 ·rename_i k' hu
  rw [hu] at hs
  cases h
  exact hs
 ·cases h
theorem zG {P:Program}{m:Mem}{n:Nat}{t e:TypeId}{vs:List o8}(h:slT P t=some e)(hs:shp P m (n+1) t vs):vs=[.nilSlice]∨∃id len cap,vs=[.slice id 0 len cap]∧len≤cap∧cap≤maxLen∧
        ((cap=0∧m.get id=some .dead)∨∃rows,0<cap∧m.get id=some (.cells (P.cellsOf e) cap rows)∧∀i,i<cap→∃row,rows.get i=some row∧row.length=P.cellsOf e∧shp P m n e row):=by
 unfold shp at hs
 unfold slT at h
 split at h
 ·rename_i e' hu
  rw [hu] at hs
  cases h
  exact hs
 ·cases h
end Go.AM
namespace Go.Proofs.YtefodipjjofocaaGreatDoor.TT
open Go Go.AM
theorem t3:inT Tryz.prog 3=some .i64:=by kernel_rfl
theorem t33:slT Tryz.prog 33=some 3:=by kernel_rfl
theorem t22:slT Tryz.prog 22=some 41:=by kernel_rfl
theorem c3:Tryz.prog.cellsOf 3=1:=by kernel_rfl
theorem c41:Tryz.prog.cellsOf 41=32:=by kernel_rfl
theorem t41:stT Tryz.prog 41=some [3,3,3,3,24,28,30,32,35,37,39]:=by kernel_rfl
theorem t24:stT Tryz.prog 24=some [3,3]:=by kernel_rfl
theorem t26:stT Tryz.prog 26=some [3,3]:=by kernel_rfl
theorem t28:stT Tryz.prog 28=some [3,3,3,24,26,3]:=by kernel_rfl
theorem t30:stT Tryz.prog 30=some [3,3]:=by kernel_rfl
theorem t32:stT Tryz.prog 32=some [3,24,3]:=by kernel_rfl
theorem t35:stT Tryz.prog 35=some [3,3,33,33,3,3,24]:=by kernel_rfl
theorem t37:stT Tryz.prog 37=some [3,33]:=by kernel_rfl
theorem t39:stT Tryz.prog 39=some [3,3]:=by kernel_rfl
end Go.Proofs.YtefodipjjofocaaGreatDoor.TT
namespace Go.Proofs.YtefodipjjofocaaGreatDoor.TT
open Go Go.AM
set_option linter.unusedSimpArgs false
set_option linter.unusedVariables false
set_option maxRecDepth 100000
set_option maxHeartbeats 2000000
theorem Cn {m:Mem}(hm:m.Ok){i:Nat}{b:Blk}(h:m.get i=some b):i<m.next:=Mem.L9 hm h
abbrev Md (m:Mem)(n:Nat):=Ku (shp Tryz.prog m n)
theorem Yu {i:Int}(h:(Lit.int .i64 i).wf=true):gF i:=by
 simp only [Lit.wf,Bool.and_eq_true,decide_eq_true_eq] at h
 have h1:IntKind.min .i64=-9223372036854775808:=by decide +kernel
 have h2:IntKind.max .i64=9223372036854775807:=by decide +kernel
 rw [h1,h2] at h
 exact⟨h.1,by omega⟩
theorem Y3 {m:Mem}{n:Nat}{ts:List TypeId}{vs:List o8}(h:Md m (n+1) (3::ts) vs):∃i w,vs=.int .i64 i::w∧gF i∧Md m (n+1) ts w:=by
 obtain⟨a,b,rfl,ha,hb⟩:=h
 obtain⟨i,rfl,hi⟩:=Gs t3 ha
 exact⟨i,b,rfl,Yu hi,hb⟩
theorem rG {m:Mem}{n:Nat}{t:TypeId}{us ts:List TypeId}{vs:List o8}(ht:stT Tryz.prog t=some us)(h:Md m (n+1) (t::ts) vs):∃a w,vs=a++w∧Md m n us a∧Md m (n+1) ts w:=by
 obtain⟨a,b,rfl,ha,hb⟩:=h
 exact⟨a,b,rfl,uG ht ha,hb⟩
theorem ajX {m:Mem}(hm:m.Ok){n:Nat}{vs:List o8}(h:shp Tryz.prog m (n+2) 33 vs):∃v xs,vs=[v]∧dF m v xs:=by
 rcases zG t33 h with rfl | ⟨id,len,cap,rfl,hlc,_,hr⟩
 ·exact⟨_,[],rfl,.inl ⟨rfl,rfl⟩⟩
 ·rcases hr with⟨rfl,hd⟩ | ⟨rows,hc,hb,hrow⟩
  ·obtain rfl:len=0:=by omega
   exact⟨_,[],rfl,.inr ⟨id,.inl ⟨0,rfl⟩,Cn hm hd,.inl rfl⟩⟩
  ·let g:Nat→Int:=fun i=>match rows.get i with
    | some [.int _ x]=>x
    | _=>0
   refine⟨_,(List.range len).map g,rfl,.inr ⟨id,.inl ⟨cap,by simp⟩,Cn hm hb,.inr ⟨cap,rows,by rw [hb,c3],by simpa using hlc,fun i hi=>?_⟩⟩⟩
   have hi':i<len:=by simpa using hi
   obtain⟨row,h1,_,h2⟩:=hrow i (by omega)
   obtain⟨x,rfl,_⟩:=Gs t3 h2
   rw [h1]
   simp only [List.getElem_map,List.getElem_range]
   show some [o8.int .i64 x]=some [.int .i64 (g i)]
   simp only [g,h1]
theorem Pm {m:Mem}(hm:m.Ok){n:Nat}{ts:List TypeId}{vs:List o8}(h:Md m (n+2) (33::ts) vs):∃v xs w,vs=v::w∧dF m v xs∧Md m (n+2) ts w:=by
 obtain⟨a,b,rfl,ha,hb⟩:=h
 obtain⟨v,xs,rfl,hv⟩:=ajX hm ha
 exact⟨v,xs,b,rfl,hv,hb⟩
theorem Gt {m:Mem}(hm:m.Ok){n:Nat}{vs:List o8}(h0:shp Tryz.prog m (n+6) 41 vs):∃r:FR,vs=r.f.cells∧gB m r:=by
 have h:Md m (n+5) [3,3,3,3,24,28,30,32,35,37,39] vs:=uG t41 h0
 obtain⟨room,wq0,rfl,broom,q0⟩:=Y3 h
 obtain⟨no,wq1,rfl,bno,q1⟩:=Y3 q0
 obtain⟨known,wq2,rfl,bknown,q2⟩:=Y3 q1
 obtain⟨kind,wq3,rfl,bkind,q3⟩:=Y3 q2
 obtain⟨aq4,wq4,rfl,rq4,q4⟩:=rG t24 q3
 obtain⟨flo,wq5,rfl,bflo,q5⟩:=Y3 rq4
 obtain⟨fhi,wq6,rfl,bfhi,q6⟩:=Y3 q5
 obtain rfl:=q6
 obtain⟨aq8,wq8,rfl,rq8,q8⟩:=rG t28 q4
 obtain⟨gid,wq9,rfl,bgid,q9⟩:=Y3 rq8
 obtain⟨made,wq10,rfl,bmade,q10⟩:=Y3 q9
 obtain⟨nom,wq11,rfl,bnom,q11⟩:=Y3 q10
 obtain⟨aq12,wq12,rfl,rq12,q12⟩:=rG t24 q11
 obtain⟨tlo,wq13,rfl,btlo,q13⟩:=Y3 rq12
 obtain⟨thi,wq14,rfl,bthi,q14⟩:=Y3 q13
 obtain rfl:=q14
 obtain⟨aq16,wq16,rfl,rq16,q16⟩:=rG t26 q12
 obtain⟨gn,wq17,rfl,bgn,q17⟩:=Y3 rq16
 obtain⟨gd,wq18,rfl,bgd,q18⟩:=Y3 q17
 obtain rfl:=q18
 obtain⟨wear,wq20,rfl,bwear,q20⟩:=Y3 q16
 obtain rfl:=q20
 obtain⟨aq22,wq22,rfl,rq22,q22⟩:=rG t30 q8
 obtain⟨ug,wq23,rfl,bug,q23⟩:=Y3 rq22
 obtain⟨ud,wq24,rfl,bud,q24⟩:=Y3 q23
 obtain rfl:=q24
 obtain⟨aq26,wq26,rfl,rq26,q26⟩:=rG t32 q22
 obtain⟨lg,wq27,rfl,blg,q27⟩:=Y3 rq26
 obtain⟨aq28,wq28,rfl,rq28,q28⟩:=rG t24 q27
 obtain⟨ll,wq29,rfl,bll,q29⟩:=Y3 rq28
 obtain⟨lh,wq30,rfl,blh,q30⟩:=Y3 q29
 obtain rfl:=q30
 obtain⟨lw,wq32,rfl,blw,q32⟩:=Y3 q28
 obtain rfl:=q32
 obtain⟨aq34,wq34,rfl,rq34,q34⟩:=rG t35 q26
 obtain⟨cid,wq35,rfl,bcid,q35⟩:=Y3 rq34
 obtain⟨cday,wq36,rfl,bcday,q36⟩:=Y3 q35
 obtain⟨A,xa,wq37,rfl,sA,q37⟩:=Pm hm q36
 obtain⟨B,xb,wq38,rfl,sB,q38⟩:=Pm hm q37
 obtain⟨diff,wq39,rfl,bdiff,q39⟩:=Y3 q38
 obtain⟨err,wq40,rfl,berr,q40⟩:=Y3 q39
 obtain⟨aq41,wq41,rfl,rq41,q41⟩:=rG t24 q40
 obtain⟨hlo,wq42,rfl,bhlo,q42⟩:=Y3 rq41
 obtain⟨hhi,wq43,rfl,bhhi,q43⟩:=Y3 q42
 obtain rfl:=q43
 obtain rfl:=q41
 obtain⟨aq46,wq46,rfl,rq46,q46⟩:=rG t37 q34
 obtain⟨mday,wq47,rfl,bmday,q47⟩:=Y3 rq46
 obtain⟨L,xl,wq48,rfl,sL,q48⟩:=Pm hm q47
 obtain rfl:=q48
 obtain⟨aq50,wq50,rfl,rq50,q50⟩:=rG t39 q46
 obtain⟨tr,wq51,rfl,btr,q51⟩:=Y3 rq50
 obtain⟨tn,wq52,rfl,btn,q52⟩:=Y3 q51
 obtain rfl:=q52
 obtain rfl:=q50
 exact⟨⟨{room:=room,no:=no,known:=known,kind:=kind,flo:=flo,fhi:=fhi,gid:=gid,made:=made,nom:=nom,tlo:=tlo,thi:=thi,gn:=gn,gd:=gd,wear:=wear,ug:=ug,ud:=ud,lg:=lg,ll:=ll,lh:=lh,lw:=lw,cid:=cid,cday:=cday,A:=A,B:=B,diff:=diff,err:=err,hlo:=hlo,hhi:=hhi,mday:=mday,L:=L,tr:=tr,tn:=tn},xa,xb,xl⟩,rfl,⟨sA,sB,sL,bgn,bgd,bno⟩⟩
theorem Co {m:Mem}(hm:m.Ok){n:Nat}{vs:List o8}(h:shp Tryz.prog m (n+7) 22 vs):∃v fs,vs=[v]∧dA m v fs∧∀i (h:i<fs.length),gB m fs[i]:=by
 rcases zG t22 h with rfl | ⟨id,len,cap,rfl,hlc,_,hr⟩
 ·exact⟨_,[],rfl,.inl ⟨rfl,rfl⟩,fun i h=>by simp at h⟩
 ·rcases hr with⟨rfl,hd⟩ | ⟨rows,hc,hb,hrow⟩
  ·obtain rfl:len=0:=by omega
   exact⟨_,[],rfl,.inr ⟨id,.inl ⟨0,rfl⟩,Cn hm hd,.inl rfl⟩,fun i h=>by simp at h⟩
  ·have hg:∀i,∃r:FR,i<cap→rows.get i=some r.f.cells∧gB m r:=fun i=>by
    by_cases hi:i<cap
    ·obtain⟨row,h1,_,h2⟩:=hrow i hi
     obtain⟨r,rfl,h3⟩:=Gt hm h2
     exact⟨r,fun _=>⟨h1,h3⟩⟩
    ·obtain⟨row,h1,_,h2⟩:=hrow 0 hc
     obtain⟨r,_,_⟩:=Gt hm h2
     exact⟨r,fun h=>absurd h hi⟩
   let g:Nat→FR:=fun i=>Classical.choose (hg i)
   have gs:∀i,i<cap→rows.get i=some (g i).f.cells∧gB m (g i):=fun i=>Classical.choose_spec (hg i)
   refine⟨_,(List.range len).map g,rfl,.inr ⟨id,.inl ⟨cap,by simp⟩,Cn hm hb,.inr ⟨cap,rows,by rw [hb,c41],by simpa using hlc,fun i hi=>?_⟩⟩,fun i hi=>?_⟩
   ·have hi':i<len:=by simpa using hi
    simp only [List.getElem_map,List.getElem_range]
    exact (gs i (by omega)).1
   ·have hi':i<len:=by simpa using hi
    simp only [List.getElem_map,List.getElem_range]
    exact (gs i (by omega)).2
end Go.Proofs.YtefodipjjofocaaGreatDoor.TT
