/- The law RoomFacts walked: it answers true on all facts; conditions: the memory holds what the arguments say. -/
import Derived.Test.YtefodipjjofocaaGreatDoorD1
set_option linter.unusedSimpArgs false
set_option linter.unusedVariables false
namespace Go.Proofs.YtefodipjjofocaaGreatDoor.TT
open Go Go.AM
set_option linter.unusedSimpArgs false
set_option linter.unusedVariables false
set_option maxRecDepth 100000
set_option maxHeartbeats 2000000
theorem LD {m:Mem}{f:Fct}{p0:Nat}{v:l8}{xs:List Int}(hv:bV m v xs)(hb:xs.length < 1000000)(n fu:Nat):
  ∀(j i:Nat),i + j=xs.length→∀(N:Nat),j < N→∀(a0 a1:l8),
   ∃x k b0 b1,aW (fun env m k=>tQ (F9 KW fu (n + 5)) fu none env m k) N (.nd (.nd (.nd (.nd (.nd .e a1 .e) (.bool false) .e) (.bool false) (.nd .e (.bool true) .e)) (.ptr p0 0) (.nd (.nd (.nd .e (.bool false) .e) .undef .e) (.bool false) (.nd .e v .e))) (.agg f.cells) (.nd (.nd (.nd (.nd .e .undef .e) .undef .e) (.bool false) (.nd .e (.int .i64 ((i:Nat):Int)) .e)) (.int .i64 6) (.nd (.nd .e .undef .e) (.bool false) (.nd .e a0 .e)))) m []=some [⟨x,(.nd (.nd (.nd (.nd (.nd .e b1 .e) (.bool false) .e) (.bool false) (.nd .e (.bool true) .e)) (.ptr p0 0) (.nd (.nd (.nd .e (.bool false) .e) .undef .e) (.bool false) (.nd .e v .e))) (.agg f.cells) (.nd (.nd (.nd (.nd .e .undef .e) .undef .e) (.bool false) (.nd .e (.int .i64 ((k:Nat):Int)) .e)) (.int .i64 6) (.nd (.nd .e .undef .e) (.bool false) (.nd .e b0 .e)))),m,[],none⟩]∧x=(bif M9 (okB xs) j i then R7.exit 1 else .ret):=by
 intro j
 induction j with
 | zero=>
  intro i hi N hN a0 a1
  obtain⟨N,rfl⟩:∃M,N=M + 1:=⟨N - 1,by omega⟩
  refine⟨.exit 1,i,.bool false,a1,?_,rfl⟩
  rw [G7]
  have h:¬ i < xs.length:=by omega
  have l1:=hv.len
  simp [tQ,D8,trD,I4,z8,p9,o7,h,l1]
 | succ j ih=>
  intro i hi N hN a0 a1
  obtain⟨N,rfl⟩:∃M,N=M + 1:=⟨N - 1,by omega⟩
  have h:i < xs.length:=by omega
  have l1:=hv.len
  obtain⟨p,e1,_,e2⟩:=hv.at h
  have hg:=dh h
  have good:okB xs i=true→∃x k b0 b1,aW (fun env m k=>tQ (F9 KW fu (n + 5)) fu none env m k) (N + 1) (.nd (.nd (.nd (.nd (.nd .e a1 .e) (.bool false) .e) (.bool false) (.nd .e (.bool true) .e)) (.ptr p0 0) (.nd (.nd (.nd .e (.bool false) .e) .undef .e) (.bool false) (.nd .e v .e))) (.agg f.cells) (.nd (.nd (.nd (.nd .e .undef .e) .undef .e) (.bool false) (.nd .e (.int .i64 ((i:Nat):Int)) .e)) (.int .i64 6) (.nd (.nd .e .undef .e) (.bool false) (.nd .e a0 .e)))) m []=some [⟨x,(.nd (.nd (.nd (.nd (.nd .e b1 .e) (.bool false) .e) (.bool false) (.nd .e (.bool true) .e)) (.ptr p0 0) (.nd (.nd (.nd .e (.bool false) .e) .undef .e) (.bool false) (.nd .e v .e))) (.agg f.cells) (.nd (.nd (.nd (.nd .e .undef .e) .undef .e) (.bool false) (.nd .e (.int .i64 ((k:Nat):Int)) .e)) (.int .i64 6) (.nd (.nd .e .undef .e) (.bool false) (.nd .e b0 .e)))),m,[],none⟩]∧x=(bif M9 (okB xs) (j + 1) i then R7.exit 1 else .ret):=by
   intro hok
   obtain⟨x,k,b0,b1,g1,g2⟩:=ih (i + 1) (by omega) N (by omega) (.bool true) (.bool false)
   refine⟨x,k,b0,b1,?_,by rw [g2];simp [M9,hok]⟩
   rw [G7,← g1]
   simp only [okB,hg,Bool.and_eq_true,Bool.or_eq_true,decide_eq_true_eq] at hok
   obtain⟨⟨h1,h2⟩,h3⟩:=hok
   by_cases h0:i=0
   ·have h4:¬ 0 < i:=by omega
    simp [tQ,D8,trD,I4,z8,p9,o7,h,l1,e1,e2,h1,h2,h4,Q8,Q6 (i:=i) (by omega)]
   ·have hp:i - 1 < xs.length:=by omega
    obtain⟨q,e3,_,e4⟩:=hv.at hp
    have h3:=h3.resolve_left h0
    rw [dh hp] at h3
    have h4:0 < i:=by omega
    have h5:¬ xs[i]≤xs[i - 1]:=by omega
    simp [tQ,D8,trD,I4,z8,p9,o7,h,l1,e1,e2,e3,e4,h1,h2,h4,h5,Q8,Q6 (i:=i) (by omega),eY (i:=i) h4 (by omega)]
  cases hok:okB xs i with
  | true=>exact good hok
  | false=>
   refine⟨.ret,i,.bool true,.bool true,?_,by simp [M9,hok]⟩
   rw [G7]
   simp only [okB,hg] at hok
   by_cases h0:i=0
   ·have hr:(decide (1≤xs[i]) && decide (xs[i]≤1099511627776))=false:=by simpa [h0] using hok
    simp [tQ,D8,trD,I4,z8,p9,o7,h,l1,e1,e2,hr,Q8]
   ·have hp:i - 1 < xs.length:=by omega
    obtain⟨q,e3,_,e4⟩:=hv.at hp
    have h4:0 < i:=by omega
    rw [dh hp,show decide (i=0)=false from decide_eq_false h0,Bool.false_or] at hok
    cases hr:(decide (1≤xs[i]) && decide (xs[i]≤1099511627776)) with
    | false=>simp [tQ,D8,trD,I4,z8,p9,o7,h,l1,e1,e2,hr,Q8]
    | true=>
     rw [hr,Bool.true_and] at hok
     have h5:xs[i]≤xs[i - 1]:=by simpa using hok
     simp [tQ,D8,trD,I4,z8,p9,o7,h,l1,e1,e2,e3,e4,hr,h4,h5,Q8,eY (i:=i) h4 (by omega)]
def wh (f:Fct)(a b l:List Int):Bool:=if f.kind=1 then AU f else if f.kind=2 then M5 f else if f.kind=3 then Iy f else if f.kind=4 then lN f else if f.kind=5 then Z0 f a b else if f.kind=6 then EK f l else if f.kind=7 then wdB f else false
theorem ah0 {m:Mem}{f:Fct}{a b l:List Int}(hm:m.Ok)(hl:m.lim≤m.next)(hf:R4 m f a b l)(n fu:Nat)(hfu:1000≤fu)(hk:f.kind=1):∃m',F9 KW fu (n + 6) (.func 38) [.agg f.cells] m=some [⟨.bool (AU f),m'⟩]∧Ext m m':=by
 rw [enter (sf:=f38) rfl rfl]
 have c1:=CY (n + 4) fu f.flo f.fhi 0 1000000 (ext m [C9 f.cells]) (J3 hm _)
 exact⟨ext m [C9 f.cells,C9 [.int .i64 f.flo,.int .i64 f.fhi]],by simp [f38,D8,trD,I4,z8,p9,o7,A8,C8,j4 hm,j6 hm,l6 hm,l5 hm,D9,o9,u6,u7,J5,hk,c1,AU],F3 hm _⟩
theorem ah1 {m:Mem}{f:Fct}{a b l:List Int}(hm:m.Ok)(hl:m.lim≤m.next)(hf:R4 m f a b l)(n fu:Nat)(hfu:1000≤fu)(ha:eu f.gn)(hb:eu f.gd)(hk:f.kind=2):∃m',F9 KW fu (n + 6) (.func 38) [.agg f.cells] m=some [⟨.bool (M5 f),m'⟩]∧Ext m m':=by
 rw [enter (sf:=f38) rfl rfl]
 obtain⟨m1,g1,E1⟩:=UY f ha hb n fu hfu (ext m [C9 f.cells,C9 f.gau]) (J3 hm _) (by simp;omega) (m.next + 1) (by simp) (by rw [j6 hm];rfl)
 refine⟨m1,?_,(F3 hm _).trans E1⟩
 simp only [J7] at g1
 cases hgb:M5 f <;> rw [hgb] at g1 <;> simp [f38,D8,trD,I4,z8,p9,o7,A8,C8,j4 hm,j6 hm,l6 hm,l5 hm,D9,o9,u6,u7,J5,hk,aB,g1]
theorem ah2 {m:Mem}{f:Fct}{a b l:List Int}(hm:m.Ok)(hl:m.lim≤m.next)(hf:R4 m f a b l)(n fu:Nat)(hfu:1000≤fu)(hk:f.kind=3):∃m',F9 KW fu (n + 6) (.func 38) [.agg f.cells] m=some [⟨.bool (Iy f),m'⟩]∧Ext m m':=by
 rw [enter (sf:=f38) rfl rfl]
 cases h0:(decide (1≤f.ug) && decide (f.ug≤1099511627776)) with
 | true=>
  cases h1:(decide (0≤f.ud) && decide (f.ud≤20000)) with
  | true=>
   exact⟨ext m [C9 f.cells],by simp [f38,D8,trD,I4,z8,p9,o7,A8,C8,j4 hm,j6 hm,l6 hm,l5 hm,D9,o9,u6,u7,J5,hk,Q8,aV,Iy,h0,h1],F3 hm _⟩
  | false=>exact⟨ext m [C9 f.cells],by simp [f38,D8,trD,I4,z8,p9,o7,A8,C8,j4 hm,j6 hm,l6 hm,l5 hm,D9,o9,u6,u7,J5,hk,Q8,aV,Iy,h0,h1],F3 hm _⟩
 | false=>exact⟨ext m [C9 f.cells],by simp [f38,D8,trD,I4,z8,p9,o7,A8,C8,j4 hm,j6 hm,l6 hm,l5 hm,D9,o9,u6,u7,J5,hk,Q8,aV,Iy,h0],F3 hm _⟩
theorem ah3 {m:Mem}{f:Fct}{a b l:List Int}(hm:m.Ok)(hl:m.lim≤m.next)(hf:R4 m f a b l)(n fu:Nat)(hfu:1000≤fu)(hk:f.kind=4):∃m',F9 KW fu (n + 6) (.func 38) [.agg f.cells] m=some [⟨.bool (lN f),m'⟩]∧Ext m m':=by
 rw [enter (sf:=f38) rfl rfl]
 have c1:=CY (n + 4) fu f.ll f.lh 0 20000 (ext m [C9 f.cells]) (J3 hm _)
 cases h0:(decide (1≤f.lg) && decide (f.lg≤1099511627776)) with
 | true=>
  cases h1:(decide (0≤f.ll) && decide (f.ll≤f.lh) && decide (f.lh≤20000)) with
  | true=>
   cases h2:(decide (0≤f.lw) && decide (f.lw≤1048576)) with
   | true=>
    exact⟨ext m [C9 f.cells,C9 [.int .i64 f.ll,.int .i64 f.lh]],by simp [f38,D8,trD,I4,z8,p9,o7,A8,C8,j4 hm,j6 hm,l6 hm,l5 hm,D9,o9,u6,u7,J5,hk,c1,Q8,lN,h0,h1,h2],F3 hm _⟩
   | false=>exact⟨ext m [C9 f.cells,C9 [.int .i64 f.ll,.int .i64 f.lh]],by simp [f38,D8,trD,I4,z8,p9,o7,A8,C8,j4 hm,j6 hm,l6 hm,l5 hm,D9,o9,u6,u7,J5,hk,c1,Q8,lN,h0,h1,h2],F3 hm _⟩
  | false=>exact⟨ext m [C9 f.cells,C9 [.int .i64 f.ll,.int .i64 f.lh]],by simp [f38,D8,trD,I4,z8,p9,o7,A8,C8,j4 hm,j6 hm,l6 hm,l5 hm,D9,o9,u6,u7,J5,hk,c1,Q8,lN,h0,h1],F3 hm _⟩
 | false=>exact⟨ext m [C9 f.cells],by simp [f38,D8,trD,I4,z8,p9,o7,A8,C8,j4 hm,j6 hm,l6 hm,l5 hm,D9,o9,u6,u7,J5,hk,c1,Q8,lN,h0],F3 hm _⟩
theorem ah4 {m:Mem}{f:Fct}{a b l:List Int}(hm:m.Ok)(hl:m.lim≤m.next)(hf:R4 m f a b l)(n fu:Nat)(hfu:1000≤fu)(hk:f.kind=5):∃m',F9 KW fu (n + 6) (.func 38) [.agg f.cells] m=some [⟨.bool (Z0 f a b),m'⟩]∧Ext m m':=by
 rw [enter (sf:=f38) rfl rfl]
 have o1:=hf.a.J5
 have o2:=hf.b.J5
 have o3:ah f.cmp=true:=by simp [Fct.cmp,o1,o2,show ∀k x,J5 (.int k x)=true from fun _ _=>rfl,-Fct.M4]
 have hf2:=hf.ext (F3 hm [C9 f.cells,C9 f.cmp])
 have p1:=Iw hf2.a hf.la (n + 3) fu hfu
 have p2:=Iw hf2.b hf.lb (n + 3) fu hfu
 rw [show (M9 (okB a) a.length 0 && decide (a.length≤6))=lM a from rfl] at p1
 rw [show (M9 (okB b) b.length 0 && decide (b.length≤6))=lM b from rfl] at p2
 have c1:=CY (n + 4) fu f.hlo f.hhi (-10000) 10000 (ext m [C9 f.cells,C9 f.cmp]) (J3 hm _)
 cases h0:decide (f.cid=0) with
 | true=>
  cases h1:(decide (0≤f.cday) && decide (f.cday≤20000)) with
  | true=>
   cases h2:(decide (-1125899906842624≤f.diff) && decide (f.diff≤1125899906842624)) with
   | true=>
    cases h3:(decide (0≤f.err) && decide (f.err≤1073741824)) with
    | true=>
     cases h4:(decide (-10000≤f.hlo) && decide (f.hlo≤f.hhi) && decide (f.hhi≤10000)) with
     | true=>
      cases h5:lM a with
      | true=>
       cases h6:lM b with
       | true=>
        exact⟨ext m [C9 f.cells,C9 f.cmp,C9 [.int .i64 f.hlo,.int .i64 f.hhi]],by simp [f38,D8,trD,I4,z8,p9,o7,A8,C8,j4 hm,j6 hm,F5 hm hl,w9 hm hl,l6 hm,l5 hm,D9,o9,u6,u7,J5,hk,o1,o2,o3,p1,p2,c1,Q8,aV,Z0,h0,h1,h2,h3,h4,h5,h6],F3 hm _⟩
       | false=>exact⟨ext m [C9 f.cells,C9 f.cmp,C9 [.int .i64 f.hlo,.int .i64 f.hhi]],by simp [f38,D8,trD,I4,z8,p9,o7,A8,C8,j4 hm,j6 hm,F5 hm hl,w9 hm hl,l6 hm,l5 hm,D9,o9,u6,u7,J5,hk,o1,o2,o3,p1,p2,c1,Q8,aV,Z0,h0,h1,h2,h3,h4,h5,h6],F3 hm _⟩
      | false=>exact⟨ext m [C9 f.cells,C9 f.cmp,C9 [.int .i64 f.hlo,.int .i64 f.hhi]],by simp [f38,D8,trD,I4,z8,p9,o7,A8,C8,j4 hm,j6 hm,F5 hm hl,w9 hm hl,l6 hm,l5 hm,D9,o9,u6,u7,J5,hk,o1,o2,o3,p1,p2,c1,Q8,aV,Z0,h0,h1,h2,h3,h4,h5],F3 hm _⟩
     | false=>exact⟨ext m [C9 f.cells,C9 f.cmp,C9 [.int .i64 f.hlo,.int .i64 f.hhi]],by simp [f38,D8,trD,I4,z8,p9,o7,A8,C8,j4 hm,j6 hm,F5 hm hl,w9 hm hl,l6 hm,l5 hm,D9,o9,u6,u7,J5,hk,o1,o2,o3,p1,p2,c1,Q8,aV,Z0,h0,h1,h2,h3,h4],F3 hm _⟩
    | false=>exact⟨ext m [C9 f.cells,C9 f.cmp],by simp [f38,D8,trD,I4,z8,p9,o7,A8,C8,j4 hm,j6 hm,F5 hm hl,w9 hm hl,l6 hm,l5 hm,D9,o9,u6,u7,J5,hk,o1,o2,o3,p1,p2,c1,Q8,aV,Z0,h0,h1,h2,h3],F3 hm _⟩
   | false=>exact⟨ext m [C9 f.cells,C9 f.cmp],by simp [f38,D8,trD,I4,z8,p9,o7,A8,C8,j4 hm,j6 hm,F5 hm hl,w9 hm hl,l6 hm,l5 hm,D9,o9,u6,u7,J5,hk,o1,o2,o3,p1,p2,c1,Q8,aV,Z0,h0,h1,h2],F3 hm _⟩
  | false=>exact⟨ext m [C9 f.cells,C9 f.cmp],by simp [f38,D8,trD,I4,z8,p9,o7,A8,C8,j4 hm,j6 hm,F5 hm hl,w9 hm hl,l6 hm,l5 hm,D9,o9,u6,u7,J5,hk,o1,o2,o3,p1,p2,c1,Q8,aV,Z0,h0,h1],F3 hm _⟩
 | false=>exact⟨ext m [C9 f.cells,C9 f.cmp],by simp [f38,D8,trD,I4,z8,p9,o7,A8,C8,j4 hm,j6 hm,F5 hm hl,w9 hm hl,l6 hm,l5 hm,D9,o9,u6,u7,J5,hk,o1,o2,o3,p1,p2,c1,Q8,aV,Z0,h0],F3 hm _⟩
theorem ah5 {m:Mem}{f:Fct}{a b l:List Int}(hm:m.Ok)(hl:m.lim≤m.next)(hf:R4 m f a b l)(n fu:Nat)(hfu:1000≤fu)(hk:f.kind=6):∃m',F9 KW fu (n + 6) (.func 38) [.agg f.cells] m=some [⟨.bool (EK f l),m'⟩]∧Ext m m':=by
 rw [enter (sf:=f38) rfl rfl]
 have hf2:=hf.ext (F3 hm [C9 f.cells])
 have hv:=hf2.l
 have l1:=hv.len
 obtain⟨x,k,b0,b1,g1,g2⟩:=LD (f:=f) (p0:=m.next) hv (by have:=hf.ll;omega) n fu l.length 0 (by omega) fu (by have:=hf.ll;omega) .undef .undef
 have c2:decide (2≤((l.length:Nat):Int))=decide (2≤l.length):=by rw [Bool.eq_iff_iff];simp;omega
 have c3:decide (((l.length:Nat):Int)≤5)=decide (l.length≤5):=by rw [Bool.eq_iff_iff];simp;omega
 refine⟨ext m [C9 f.cells],?_,F3 hm _⟩
 cases ha:M9 (okB l) l.length 0 with
 | false=>
  rw [ha] at g2;simp only [cond_false] at g2;subst g2
  simp [D8,trD,I4,z8,p9,o7,A8,C8,j4 hm,j6 hm,l6 hm,l5 hm,D9,o9,u6,u7,J5,l1] at g1
  simp [f38,D8,trD,I4,z8,p9,o7,A8,C8,j4 hm,j6 hm,l6 hm,l5 hm,D9,o9,u6,u7,J5,hk,g1,EK,ha]
 | true=>
  rw [ha] at g2;simp only [cond_true] at g2;subst g2
  simp [D8,trD,I4,z8,p9,o7,A8,C8,j4 hm,j6 hm,l6 hm,l5 hm,D9,o9,u6,u7,J5,l1] at g1
  cases h1:(decide (0≤f.mday) && decide (f.mday≤19999)) with
  | true=>simp [f38,D8,trD,I4,z8,p9,o7,A8,C8,j4 hm,j6 hm,l6 hm,l5 hm,D9,o9,u6,u7,J5,hk,g1,l1,EK,ha,Q8,h1,c2,c3]
  | false=>simp [f38,D8,trD,I4,z8,p9,o7,A8,C8,j4 hm,j6 hm,l6 hm,l5 hm,D9,o9,u6,u7,J5,hk,g1,l1,EK,ha,Q8,h1]
theorem ah6 {m:Mem}{f:Fct}{a b l:List Int}(hm:m.Ok)(hl:m.lim≤m.next)(hf:R4 m f a b l)(n fu:Nat)(hfu:1000≤fu)(hk:f.kind=7):∃m',F9 KW fu (n + 6) (.func 38) [.agg f.cells] m=some [⟨.bool (wdB f),m'⟩]∧Ext m m':=by
 rw [enter (sf:=f38) rfl rfl]
 cases h0:(decide (1≤f.tr) && decide (f.tr≤6)) with
 | true=>
  cases h1:(decide (1≤f.tn) && decide (f.tn≤60)) with
  | true=>
   cases h2:decide (f.tr=f.room) with
   | true=>
    cases h3:decide (f.tn=f.no) with
    | true=>
     exact⟨ext m [C9 f.cells],by simp [f38,D8,trD,I4,z8,p9,o7,A8,C8,j4 hm,j6 hm,l6 hm,l5 hm,D9,o9,u6,u7,J5,hk,Q8,wdB,h0,h1,h2,h3],F3 hm _⟩
    | false=>exact⟨ext m [C9 f.cells],by simp [f38,D8,trD,I4,z8,p9,o7,A8,C8,j4 hm,j6 hm,l6 hm,l5 hm,D9,o9,u6,u7,J5,hk,Q8,wdB,h0,h1,h2,h3],F3 hm _⟩
   | false=>exact⟨ext m [C9 f.cells],by simp [f38,D8,trD,I4,z8,p9,o7,A8,C8,j4 hm,j6 hm,l6 hm,l5 hm,D9,o9,u6,u7,J5,hk,Q8,wdB,h0,h1,h2],F3 hm _⟩
  | false=>exact⟨ext m [C9 f.cells],by simp [f38,D8,trD,I4,z8,p9,o7,A8,C8,j4 hm,j6 hm,l6 hm,l5 hm,D9,o9,u6,u7,J5,hk,Q8,wdB,h0,h1],F3 hm _⟩
 | false=>exact⟨ext m [C9 f.cells],by simp [f38,D8,trD,I4,z8,p9,o7,A8,C8,j4 hm,j6 hm,l6 hm,l5 hm,D9,o9,u6,u7,J5,hk,Q8,wdB,h0],F3 hm _⟩
theorem ah7 {m:Mem}{f:Fct}{a b l:List Int}(hm:m.Ok)(hl:m.lim≤m.next)(hf:R4 m f a b l)(n fu:Nat)(hfu:1000≤fu)(h1:f.kind≠1)(h2:f.kind≠2)(h3:f.kind≠3)(h4:f.kind≠4)(h5:f.kind≠5)(h6:f.kind≠6)(h7:f.kind≠7):∃m',F9 KW fu (n + 6) (.func 38) [.agg f.cells] m=some [⟨.bool false,m'⟩]∧Ext m m':=by
 rw [enter (sf:=f38) rfl rfl]
 exact⟨ext m [C9 f.cells],by simp [f38,D8,trD,I4,z8,p9,o7,A8,C8,j4 hm,j6 hm,l6 hm,l5 hm,D9,o9,u6,u7,J5,h1,h2,h3,h4,h5,h6,h7],F3 hm _⟩
theorem UZ {m:Mem}{f:Fct}{a b l:List Int}(hm:m.Ok)(hl:m.lim≤m.next)(hf:R4 m f a b l)(n fu:Nat)(hfu:1000≤fu)(ha:eu f.gn)(hb:eu f.gd):∃m',F9 KW fu (n + 6) (.func 38) [.agg f.cells] m=some [⟨.bool (wh f a b l),m'⟩]∧Ext m m':=by
 unfold wh
 by_cases h1:f.kind=1
 ·rw [if_pos h1];exact ah0 hm hl hf n fu hfu h1
 rw [if_neg h1]
 by_cases h2:f.kind=2
 ·rw [if_pos h2];exact ah1 hm hl hf n fu hfu ha hb h2
 rw [if_neg h2]
 by_cases h3:f.kind=3
 ·rw [if_pos h3];exact ah2 hm hl hf n fu hfu h3
 rw [if_neg h3]
 by_cases h4:f.kind=4
 ·rw [if_pos h4];exact ah3 hm hl hf n fu hfu h4
 rw [if_neg h4]
 by_cases h5:f.kind=5
 ·rw [if_pos h5];exact ah4 hm hl hf n fu hfu h5
 rw [if_neg h5]
 by_cases h6:f.kind=6
 ·rw [if_pos h6];exact ah5 hm hl hf n fu hfu h6
 rw [if_neg h6]
 by_cases h7:f.kind=7
 ·rw [if_pos h7];exact ah6 hm hl hf n fu hfu h7
 rw [if_neg h7]
 exact ah7 hm hl hf n fu hfu h1 h2 h3 h4 h5 h6 h7
end Go.Proofs.YtefodipjjofocaaGreatDoor.TT
namespace Go.Proofs.YtefodipjjofocaaGreatDoor.TT
open Go Go.AM
set_option linter.unusedSimpArgs false
set_option linter.unusedVariables false
set_option maxRecDepth 100000
set_option maxHeartbeats 2000000
def LG (f:Fct)(a b l:List Int):Bool:=V6 f (L8 f) a b l (if f.kind=5 then a else []) (if f.kind=5 then b else []) (if f.kind=6 then l else [])
def R5 (f:Fct):Bool:=(decide (1≤f.room) && decide (f.room≤6)) && ((decide (1≤f.no) && decide (f.no≤60)) && (decide (0≤f.known) && decide (f.known≤1099511627776)))
def eZ (f:Fct)(a b l:List Int):Bool:=R5 f && (wh f a b l && LG f a b l)
theorem Iz {m:Mem}{f:Fct}{a b l:List Int}(hm:m.Ok)(hl:m.lim≤m.next)(hf:R4 m f a b l)(n fu:Nat)(hfu:1000≤fu)(ha:eu f.gn)(hb:eu f.gd):∃m',F9 KW fu (n + 7) (.func 12) [.agg f.cells] m=some [⟨.bool (eZ f a b l),m'⟩]∧Ext m m':=by
 rw [enter (sf:=f12) rfl rfl]
 have hf1:=hf.ext (F3 hm [C9 f.cells])
 obtain⟨m1,g1,E1⟩:=UZ (J3 hm [C9 f.cells]) (by simp;omega) hf1 n fu hfu ha hb
 have k1:m1.Ok:=E1.ok
 have E01:=(F3 hm [C9 f.cells]).trans E1
 have l1:m1.lim≤m1.next:=by rw [E01.lim];have:=E01.next;omega
 have q1:m1.get m.next=some (C9 f.cells):=by rw [E1.old _ (by simp),j4 hm];rfl
 have q2:∀bs,(ext m1 bs).get m.next=some (C9 f.cells):=fun bs=>by rw [F6 k1 _ (by have:=E1.next;simp at this;omega)];exact q1
 have hf2:=hf.ext E01
 have g2:=UH k1 l1 hf2 (n + 5) fu
 have B:=[C9 f.cells,C9 (L8 f).cells,C9 (L8 f).cells]
 have hf3:=hf2.ext (F3 k1 [C9 f.cells,C9 (L8 f).cells,C9 (L8 f).cells])
 have g3:=Dh (J3 k1 _) hf3 (jh hf3) (n + 3) fu hfu
 have q3:=q2 [C9 f.cells,C9 (L8 f).cells,C9 (L8 f).cells]
 cases h0:(decide (1≤f.room) && decide (f.room≤6)) with
 | true=>
  cases h1:(decide (1≤f.no) && decide (f.no≤60)) with
  | true=>
   cases h2:(decide (0≤f.known) && decide (f.known≤1099511627776)) with
   | true=>
    cases hF:wh f a b l with
    | false=>
     rw [hF] at g1
     exact⟨m1,by simp [f12,D8,trD,I4,z8,p9,o7,A8,C8,j4 hm,j6 hm,F5 hm hl,w9 hm hl,l6 hm,l5 hm,D9,o9,u6,u7,J5,Q8,vZ,eZ,R5,h0,h1,h2,hF,g1,q1],E01⟩
    | true=>
     rw [hF] at g1
     exact⟨ext m1 ([C9 f.cells,C9 (L8 f).cells,C9 (L8 f).cells] ++ [C9 f.cells,C9 (L8 f).cells,C9 f.cmp,C9 (L8 f).cmp]),by simp [f12,D8,trD,I4,z8,p9,o7,A8,C8,j4 hm,j6 hm,F5 hm hl,w9 hm hl,l6 hm,l5 hm,D9,o9,u6,u7,J5,Q8,vZ,eZ,R5,h0,h1,h2,hF,g1,q1,g2,q3,g3,hf.same,LG],E01.trans (F3 k1 ([C9 f.cells,C9 (L8 f).cells,C9 (L8 f).cells] ++ [C9 f.cells,C9 (L8 f).cells,C9 f.cmp,C9 (L8 f).cmp]))⟩
   | false=>exact⟨ext m [C9 f.cells],by simp [f12,D8,trD,I4,z8,p9,o7,A8,C8,j4 hm,j6 hm,l6 hm,l5 hm,D9,o9,u6,u7,J5,Q8,vZ,eZ,R5,h0,h1,h2],F3 hm _⟩
  | false=>exact⟨ext m [C9 f.cells],by simp [f12,D8,trD,I4,z8,p9,o7,A8,C8,j4 hm,j6 hm,l6 hm,l5 hm,D9,o9,u6,u7,J5,Q8,vZ,eZ,R5,h0,h1],F3 hm _⟩
 | false=>exact⟨ext m [C9 f.cells],by simp [f12,D8,trD,I4,z8,p9,o7,A8,C8,j4 hm,j6 hm,l6 hm,l5 hm,D9,o9,u6,u7,J5,Q8,vZ,eZ,R5,h0],F3 hm _⟩
end Go.Proofs.YtefodipjjofocaaGreatDoor.TT
namespace Go.Proofs.YtefodipjjofocaaGreatDoor.TT
open Go Go.AM
set_option linter.unusedSimpArgs false
set_option linter.unusedVariables false
set_option maxRecDepth 100000
set_option maxHeartbeats 2000000
theorem M6 (f:EqF)(k:l8)(e:l8×l8)(es:List (l8×l8))(i:Nat):findKey f k (e :: es) i=ob (f k e.1) fun b=>bi b (some (some (i,e.2))) (findKey f k es (i + 1)):=rfl
theorem N8 (f:EqF)(k:l8)(i:Nat):findKey f k [] i=some none:=rfl
noncomputable def fieldMap:List (l8×l8):=[(.int .i64 1,.agg [.func (.func 135) [] [],.func (.func 137) [] []]),(.int .i64 2,.agg [.func (.func 138) [] [],.func (.func 139) [] []]),(.int .i64 3,.agg [.func (.func 140) [] [],.func (.func 142) [] []]),(.int .i64 4,.agg [.func (.func 143) [] [],.func (.func 144) [] []]),(.int .i64 5,.agg [.func (.func 145) [] [],.func (.func 147) [] []]),(.int .i64 6,.agg [.func (.func 148) [] [],.func (.func 150) [] []]),(.int .i64 7,.agg [.func (.func 151) [] [],.func (.func 152) [] []])]
theorem bZ (f:EqF)(n:Nat)(zero:l8)(ok:Bool)(mp k:OF)(ls:List l8)(env:T l8)(m:Mem)(id:Nat)(es:List (l8×l8))(h:mp ls env=.map id)(hg:m.get id=some (.map es)):
  ay f n zero ok mp k ls env m=ob (P5 f n (k ls env) es) fun r=>found ok zero r:=by
 show uo (mp ls env) _ _=_
 rw [h]
 show vEs (m.get id) _=_
 rw [hg];rfl
theorem nH (n fu:Nat)(m:Mem)(hm:m.Ok)(hl:m.lim≤m.next):F9 KW fu (n + 1) (.func 68) [] m=some [⟨.map m.next,ext m [.map fieldMap]⟩]:=by
 rw [enter (sf:=f68) rfl rfl]
 have hbl:Nat.blt m.next m.lim=false:=by have:=vX hl [];rwa [dY] at this
 simp [f68,D8,trD,I4,z8,p9,o7,A8,C8,j4 hm,j6 hm,F5 hm hl,w9 hm hl,l6 hm,l5 hm,D9,o9,u6,u7,J5,jG,hbl,tO,nE,R3,M6,N8,U1,fieldMap]
end Go.Proofs.YtefodipjjofocaaGreatDoor.TT
namespace Go.Proofs.YtefodipjjofocaaGreatDoor.TT
open Go Go.AM
set_option linter.unusedSimpArgs false
set_option linter.unusedVariables false
set_option maxRecDepth 100000
set_option maxHeartbeats 2000000
theorem dZ (f:Fct):ah (N7 f).cells=true:=rfl
def kD (f:Fct)(a b l:List Int):Bool:=V6 (L8 f) f (if f.kind=5 then a else []) (if f.kind=5 then b else []) (if f.kind=6 then l else []) a b l
theorem ah8 {m:Mem}{f:Fct}{a b l:List Int}(hm:m.Ok)(hl:m.lim≤m.next)(hf:R4 m f a b l)(n fu:Nat)(hfu:1000≤fu)(ha:eu f.gn)(hb:eu f.gd)(h1:f.kind≠1)(h2:f.kind≠2)(h3:f.kind≠3)(h4:f.kind≠4)(h5:f.kind≠5)(h6:f.kind≠6)(h7:f.kind≠7):∃m',F9 KW fu (n + 11) (.func 34) [.agg f.cells] m=some [⟨.bool false,m'⟩]∧Ext m m':=by
 rw [enter (sf:=f34) rfl rfl]
 have c68:=nH (n + 9) fu (ext m [C9 f.cells,.void]) (J3 hm _) (by simp;omega)
 have hlook:∀(mp k:OF) ls env,mp ls env=.map (m.next + 2)→k ls env=.int .i64 f.kind→ay T9 1 (.agg [.nilFunc,.nilFunc]) true mp k ls env (ext m [C9 f.cells,.void,.map fieldMap])=some (.tuple [.agg [.nilFunc,.nilFunc],.bool false]):=by
  intro mp k ls env e1 e2
  rw [bZ _ _ _ _ _ _ _ _ _ _ fieldMap e1 (by rw [j6 hm];rfl),e2]
  simp [fieldMap,R3,M6,N8,U1,h1,h2,h3,h4,h5,h6,h7]
  rfl
 exact⟨ext m [C9 f.cells,C9 [.nilFunc,.nilFunc],.map fieldMap],by simp [f34,D8,trD,I4,z8,p9,o7,A8,C8,j4 hm,j6 hm,F5 hm hl,w9 hm hl,l6 hm,l5 hm,D9,o9,u6,u7,J5,c68,hlook,J6,isVoid,Nat.add_assoc],F3 hm _⟩
theorem ah9 {m:Mem}{f:Fct}{a b l:List Int}(hm:m.Ok)(hl:m.lim≤m.next)(hf:R4 m f a b l)(n fu:Nat)(hfu:1000≤fu)(ha:eu f.gn)(hb:eu f.gd)(hk:f.kind=1):∃m',F9 KW fu (n + 11) (.func 34) [.agg f.cells] m=some [⟨.bool (R5 f && (AU f && kD f a b l)),m'⟩]∧Ext m m':=by
 rw [enter (sf:=f34) rfl rfl]
 have c68:=nH (n + 9) fu (ext m [C9 f.cells,.void]) (J3 hm _) (by simp;omega)
 have hlook:∀(mp k:OF) ls env,mp ls env=.map (m.next + 2)→k ls env=.int .i64 1→ay T9 1 (.agg [.nilFunc,.nilFunc]) true mp k ls env (ext m [C9 f.cells,.void,.map fieldMap])=some (.tuple [.agg [.func (.func 135) [] [],.func (.func 137) [] []],.bool true]):=by
  intro mp k ls env e1 e2
  rw [bZ _ _ _ _ _ _ _ _ _ _ fieldMap e1 (by rw [j6 hm];rfl),e2]
  simp [fieldMap,R3,M6,N8,U1]
  rfl
 have hf3:=hf.ext (F3 hm [C9 f.cells,C9 [.func (.func 135) [] [],.func (.func 137) [] []],.map fieldMap])
 have E0:=F3 hm [C9 f.cells,C9 [.func (.func 135) [] [],.func (.func 137) [] []],.map fieldMap]
 obtain⟨m1,g1,E1⟩:∃m1,F9 KW fu (n + 10) (.func 135) [.agg f.cells] (ext m [C9 f.cells,C9 [.func (.func 135) [] [],.func (.func 137) [] []],.map fieldMap])=some [⟨.bool (AU f),m1⟩]∧Ext (ext m [C9 f.cells,C9 [.func (.func 135) [] [],.func (.func 137) [] []],.map fieldMap]) m1:=KA (n + 8) fu f _ (J3 hm _) (by simp;omega)
 have k1:m1.Ok:=E1.ok
 have E01:=E0.trans E1
 have n1:m.next + 3≤m1.next:=by have:=E1.next;simpa using this
 have l1:m1.lim≤m1.next:=by rw [E01.lim];omega
 have q1:m1.get m.next=some (C9 f.cells):=by rw [E1.old _ (by simp),j4 hm];rfl
 have q2:m1.get (m.next + 1)=some (C9 [.func (.func 135) [] [],.func (.func 137) [] []]):=by rw [E1.old _ (by simp),j6 hm];rfl
 have q1':(ext m1 [C9 (N7 f).cells]).get m.next=some (C9 f.cells):=by rw [F6 k1 _ (by omega)];exact q1
 have q2':(ext m1 [C9 (N7 f).cells]).get (m.next + 1)=some (C9 [.func (.func 135) [] [],.func (.func 137) [] []]):=by rw [F6 k1 _ (by omega)];exact q2
 obtain⟨m2,g2,k2,lm2,n2,o2,p2⟩:=KQ (g:=N7 f) (p:=m1.next) (J3 k1 [C9 (N7 f).cells]) (by simp;omega) (by simp) ((hf.ext E01).ext (F3 k1 _)) (by rw [j4 k1];rfl) (n + 9) fu
 have n2':m1.next + 1≤m2.next:=by simpa using n2
 have E02:Ext m m2:=⟨k2,by omega,by rw [lm2,dY];exact E01.lim,fun i hi=>by rw [o2 i (by simp;omega) (by omega),F6 k1 _ (by omega)];exact E01.old i hi⟩
 have q3:m2.get m.next=some (C9 f.cells):=by rw [o2 _ (by simp;omega) (by omega)];exact q1'
 have hbF:({N7 f with flo:=f.flo,fhi:=f.fhi}:Fct)=L8 f:=by simp [L8,hk]
 rw [hbF] at p2
 have hfz:=hf.ext E02
 have g3:=jT k2 (by rw [E02.lim];omega) (jh hfz) hfz (n + 7) fu hfu
 have hz:[l8.int .i64 f.room,.int .i64 f.no,.int .i64 f.known,.int .i64 1,.int .i64 0,.int .i64 0,.int .i64 0,.int .i64 0,.int .i64 0,.int .i64 0,.int .i64 0,.int .i64 0,.int .i64 0,.int .i64 0,.int .i64 0,.int .i64 0,.int .i64 0,.int .i64 0,.int .i64 0,.int .i64 0,.int .i64 0,.int .i64 0,.nilSlice,.nilSlice,.int .i64 0,.int .i64 0,.int .i64 0,.int .i64 0,.int .i64 0,.nilSlice,.int .i64 0,.int .i64 0]=(N7 f).cells:=by simp [N7,Fct.cells,hk,-Fct.M4]
 have hz1:=dZ f
 cases h0:(decide (1≤f.room) && decide (f.room≤6)) with
 | true=>
  cases h1:(decide (1≤f.no) && decide (f.no≤60)) with
  | true=>
   cases h2:(decide (0≤f.known) && decide (f.known≤1099511627776)) with
   | true=>
    cases hF:AU f with
    | false=>
     rw [hF] at g1
     exact⟨m1,by simp [f34,D8,trD,I4,z8,p9,o7,A8,C8,j4 hm,j6 hm,F5 hm hl,w9 hm hl,l6 hm,l5 hm,D9,o9,u6,u7,J5,c68,hlook,J6,isVoid,Nat.add_assoc,hk,L6,Q0,R5,h0,h1,h2,hF,g1,q1],E01⟩
    | true=>
     rw [hF] at g1
     exact⟨_,by simp [f34,D8,trD,I4,z8,p9,o7,A8,C8,j4 hm,j4 k1,j6 hm,j6 k1,F5 hm hl,F5 k1 l1,w9 k1 l1,w9 hm hl,l6 hm,l6 k1,l5 hm,l5 k1,D9,o9,u6,u7,J5,c68,hlook,J6,isVoid,Nat.add_assoc,hk,L6,Q0,R5,h0,h1,h2,hF,g1,q1,q2,hz,hz1,q1',q2',g2,q3,p2,g3,kD],E02.trans (F3 k2 ([C9 (L8 f).cells,C9 f.cells,C9 (L8 f).cells,(L8 f).nm,C9 f.cells,f.nm] ++ (bif X4 (L8 f) f then [C9 (L8 f).cmp,C9 f.cmp] else [])))⟩
   | false=>exact⟨ext m [C9 f.cells,C9 [.func (.func 135) [] [],.func (.func 137) [] []],.map fieldMap],by simp [f34,D8,trD,I4,z8,p9,o7,A8,C8,j4 hm,j6 hm,F5 hm hl,w9 hm hl,l6 hm,l5 hm,D9,o9,u6,u7,J5,c68,hlook,J6,isVoid,Nat.add_assoc,hk,L6,Q0,R5,h0,h1,h2],E0⟩
  | false=>exact⟨ext m [C9 f.cells,C9 [.func (.func 135) [] [],.func (.func 137) [] []],.map fieldMap],by simp [f34,D8,trD,I4,z8,p9,o7,A8,C8,j4 hm,j6 hm,F5 hm hl,w9 hm hl,l6 hm,l5 hm,D9,o9,u6,u7,J5,c68,hlook,J6,isVoid,Nat.add_assoc,hk,L6,Q0,R5,h0,h1],E0⟩
 | false=>exact⟨ext m [C9 f.cells,C9 [.func (.func 135) [] [],.func (.func 137) [] []],.map fieldMap],by simp [f34,D8,trD,I4,z8,p9,o7,A8,C8,j4 hm,j6 hm,F5 hm hl,w9 hm hl,l6 hm,l5 hm,D9,o9,u6,u7,J5,c68,hlook,J6,isVoid,Nat.add_assoc,hk,L6,Q0,R5,h0],E0⟩
theorem aha {m:Mem}{f:Fct}{a b l:List Int}(hm:m.Ok)(hl:m.lim≤m.next)(hf:R4 m f a b l)(n fu:Nat)(hfu:1000≤fu)(ha:eu f.gn)(hb:eu f.gd)(hk:f.kind=2):∃m',F9 KW fu (n + 11) (.func 34) [.agg f.cells] m=some [⟨.bool (R5 f && (M5 f && kD f a b l)),m'⟩]∧Ext m m':=by
 rw [enter (sf:=f34) rfl rfl]
 have c68:=nH (n + 9) fu (ext m [C9 f.cells,.void]) (J3 hm _) (by simp;omega)
 have hlook:∀(mp k:OF) ls env,mp ls env=.map (m.next + 2)→k ls env=.int .i64 2→ay T9 1 (.agg [.nilFunc,.nilFunc]) true mp k ls env (ext m [C9 f.cells,.void,.map fieldMap])=some (.tuple [.agg [.func (.func 138) [] [],.func (.func 139) [] []],.bool true]):=by
  intro mp k ls env e1 e2
  rw [bZ _ _ _ _ _ _ _ _ _ _ fieldMap e1 (by rw [j6 hm];rfl),e2]
  simp [fieldMap,R3,M6,N8,U1]
  rfl
 have hf3:=hf.ext (F3 hm [C9 f.cells,C9 [.func (.func 138) [] [],.func (.func 139) [] []],.map fieldMap])
 have E0:=F3 hm [C9 f.cells,C9 [.func (.func 138) [] [],.func (.func 139) [] []],.map fieldMap]
 obtain⟨m1,g1,E1⟩:∃m1,F9 KW fu (n + 10) (.func 138) [.agg f.cells] (ext m [C9 f.cells,C9 [.func (.func 138) [] [],.func (.func 139) [] []],.map fieldMap])=some [⟨.bool (M5 f),m1⟩]∧Ext (ext m [C9 f.cells,C9 [.func (.func 138) [] [],.func (.func 139) [] []],.map fieldMap]) m1:=Lr ha hb (J3 hm _) (by simp;omega) (n + 1) fu hfu
 have k1:m1.Ok:=E1.ok
 have E01:=E0.trans E1
 have n1:m.next + 3≤m1.next:=by have:=E1.next;simpa using this
 have l1:m1.lim≤m1.next:=by rw [E01.lim];omega
 have q1:m1.get m.next=some (C9 f.cells):=by rw [E1.old _ (by simp),j4 hm];rfl
 have q2:m1.get (m.next + 1)=some (C9 [.func (.func 138) [] [],.func (.func 139) [] []]):=by rw [E1.old _ (by simp),j6 hm];rfl
 have q1':(ext m1 [C9 (N7 f).cells]).get m.next=some (C9 f.cells):=by rw [F6 k1 _ (by omega)];exact q1
 have q2':(ext m1 [C9 (N7 f).cells]).get (m.next + 1)=some (C9 [.func (.func 138) [] [],.func (.func 139) [] []]):=by rw [F6 k1 _ (by omega)];exact q2
 obtain⟨m2,g2,k2,lm2,n2,o2,p2⟩:=KR (g:=N7 f) (p:=m1.next) (J3 k1 [C9 (N7 f).cells]) (by simp;omega) (by simp) ((hf.ext E01).ext (F3 k1 _)) (by rw [j4 k1];rfl) (n + 9) fu
 have n2':m1.next + 1≤m2.next:=by simpa using n2
 have E02:Ext m m2:=⟨k2,by omega,by rw [lm2,dY];exact E01.lim,fun i hi=>by rw [o2 i (by simp;omega) (by omega),F6 k1 _ (by omega)];exact E01.old i hi⟩
 have q3:m2.get m.next=some (C9 f.cells):=by rw [o2 _ (by simp;omega) (by omega)];exact q1'
 have hbF:({N7 f with gid:=f.gid,made:=f.made,nom:=f.nom,tlo:=f.tlo,thi:=f.thi,gn:=f.gn,gd:=f.gd,wear:=f.wear}:Fct)=L8 f:=by simp [L8,hk]
 rw [hbF] at p2
 have hfz:=hf.ext E02
 have g3:=jT k2 (by rw [E02.lim];omega) (jh hfz) hfz (n + 7) fu hfu
 have hz:[l8.int .i64 f.room,.int .i64 f.no,.int .i64 f.known,.int .i64 2,.int .i64 0,.int .i64 0,.int .i64 0,.int .i64 0,.int .i64 0,.int .i64 0,.int .i64 0,.int .i64 0,.int .i64 0,.int .i64 0,.int .i64 0,.int .i64 0,.int .i64 0,.int .i64 0,.int .i64 0,.int .i64 0,.int .i64 0,.int .i64 0,.nilSlice,.nilSlice,.int .i64 0,.int .i64 0,.int .i64 0,.int .i64 0,.int .i64 0,.nilSlice,.int .i64 0,.int .i64 0]=(N7 f).cells:=by simp [N7,Fct.cells,hk,-Fct.M4]
 have hz1:=dZ f
 cases h0:(decide (1≤f.room) && decide (f.room≤6)) with
 | true=>
  cases h1:(decide (1≤f.no) && decide (f.no≤60)) with
  | true=>
   cases h2:(decide (0≤f.known) && decide (f.known≤1099511627776)) with
   | true=>
    cases hF:M5 f with
    | false=>
     rw [hF] at g1
     exact⟨m1,by simp [f34,D8,trD,I4,z8,p9,o7,A8,C8,j4 hm,j6 hm,F5 hm hl,w9 hm hl,l6 hm,l5 hm,D9,o9,u6,u7,J5,c68,hlook,J6,isVoid,Nat.add_assoc,hk,L6,Q0,R5,h0,h1,h2,hF,g1,q1],E01⟩
    | true=>
     rw [hF] at g1
     exact⟨_,by simp [f34,D8,trD,I4,z8,p9,o7,A8,C8,j4 hm,j4 k1,j6 hm,j6 k1,F5 hm hl,F5 k1 l1,w9 k1 l1,w9 hm hl,l6 hm,l6 k1,l5 hm,l5 k1,D9,o9,u6,u7,J5,c68,hlook,J6,isVoid,Nat.add_assoc,hk,L6,Q0,R5,h0,h1,h2,hF,g1,q1,q2,hz,hz1,q1',q2',g2,q3,p2,g3,kD],E02.trans (F3 k2 ([C9 (L8 f).cells,C9 f.cells,C9 (L8 f).cells,(L8 f).nm,C9 f.cells,f.nm] ++ (bif X4 (L8 f) f then [C9 (L8 f).cmp,C9 f.cmp] else [])))⟩
   | false=>exact⟨ext m [C9 f.cells,C9 [.func (.func 138) [] [],.func (.func 139) [] []],.map fieldMap],by simp [f34,D8,trD,I4,z8,p9,o7,A8,C8,j4 hm,j6 hm,F5 hm hl,w9 hm hl,l6 hm,l5 hm,D9,o9,u6,u7,J5,c68,hlook,J6,isVoid,Nat.add_assoc,hk,L6,Q0,R5,h0,h1,h2],E0⟩
  | false=>exact⟨ext m [C9 f.cells,C9 [.func (.func 138) [] [],.func (.func 139) [] []],.map fieldMap],by simp [f34,D8,trD,I4,z8,p9,o7,A8,C8,j4 hm,j6 hm,F5 hm hl,w9 hm hl,l6 hm,l5 hm,D9,o9,u6,u7,J5,c68,hlook,J6,isVoid,Nat.add_assoc,hk,L6,Q0,R5,h0,h1],E0⟩
 | false=>exact⟨ext m [C9 f.cells,C9 [.func (.func 138) [] [],.func (.func 139) [] []],.map fieldMap],by simp [f34,D8,trD,I4,z8,p9,o7,A8,C8,j4 hm,j6 hm,F5 hm hl,w9 hm hl,l6 hm,l5 hm,D9,o9,u6,u7,J5,c68,hlook,J6,isVoid,Nat.add_assoc,hk,L6,Q0,R5,h0],E0⟩
theorem ahb {m:Mem}{f:Fct}{a b l:List Int}(hm:m.Ok)(hl:m.lim≤m.next)(hf:R4 m f a b l)(n fu:Nat)(hfu:1000≤fu)(ha:eu f.gn)(hb:eu f.gd)(hk:f.kind=3):∃m',F9 KW fu (n + 11) (.func 34) [.agg f.cells] m=some [⟨.bool (R5 f && (Iy f && kD f a b l)),m'⟩]∧Ext m m':=by
 rw [enter (sf:=f34) rfl rfl]
 have c68:=nH (n + 9) fu (ext m [C9 f.cells,.void]) (J3 hm _) (by simp;omega)
 have hlook:∀(mp k:OF) ls env,mp ls env=.map (m.next + 2)→k ls env=.int .i64 3→ay T9 1 (.agg [.nilFunc,.nilFunc]) true mp k ls env (ext m [C9 f.cells,.void,.map fieldMap])=some (.tuple [.agg [.func (.func 140) [] [],.func (.func 142) [] []],.bool true]):=by
  intro mp k ls env e1 e2
  rw [bZ _ _ _ _ _ _ _ _ _ _ fieldMap e1 (by rw [j6 hm];rfl),e2]
  simp [fieldMap,R3,M6,N8,U1]
  rfl
 have hf3:=hf.ext (F3 hm [C9 f.cells,C9 [.func (.func 140) [] [],.func (.func 142) [] []],.map fieldMap])
 have E0:=F3 hm [C9 f.cells,C9 [.func (.func 140) [] [],.func (.func 142) [] []],.map fieldMap]
 obtain⟨m1,g1,E1⟩:∃m1,F9 KW fu (n + 10) (.func 140) [.agg f.cells] (ext m [C9 f.cells,C9 [.func (.func 140) [] [],.func (.func 142) [] []],.map fieldMap])=some [⟨.bool (Iy f),m1⟩]∧Ext (ext m [C9 f.cells,C9 [.func (.func 140) [] [],.func (.func 142) [] []],.map fieldMap]) m1:=KC (n + 7) fu f _ (J3 hm _) (by simp;omega)
 have k1:m1.Ok:=E1.ok
 have E01:=E0.trans E1
 have n1:m.next + 3≤m1.next:=by have:=E1.next;simpa using this
 have l1:m1.lim≤m1.next:=by rw [E01.lim];omega
 have q1:m1.get m.next=some (C9 f.cells):=by rw [E1.old _ (by simp),j4 hm];rfl
 have q2:m1.get (m.next + 1)=some (C9 [.func (.func 140) [] [],.func (.func 142) [] []]):=by rw [E1.old _ (by simp),j6 hm];rfl
 have q1':(ext m1 [C9 (N7 f).cells]).get m.next=some (C9 f.cells):=by rw [F6 k1 _ (by omega)];exact q1
 have q2':(ext m1 [C9 (N7 f).cells]).get (m.next + 1)=some (C9 [.func (.func 140) [] [],.func (.func 142) [] []]):=by rw [F6 k1 _ (by omega)];exact q2
 obtain⟨m2,g2,k2,lm2,n2,o2,p2⟩:=KS (g:=N7 f) (p:=m1.next) (J3 k1 [C9 (N7 f).cells]) (by simp;omega) (by simp) ((hf.ext E01).ext (F3 k1 _)) (by rw [j4 k1];rfl) (n + 9) fu
 have n2':m1.next + 1≤m2.next:=by simpa using n2
 have E02:Ext m m2:=⟨k2,by omega,by rw [lm2,dY];exact E01.lim,fun i hi=>by rw [o2 i (by simp;omega) (by omega),F6 k1 _ (by omega)];exact E01.old i hi⟩
 have q3:m2.get m.next=some (C9 f.cells):=by rw [o2 _ (by simp;omega) (by omega)];exact q1'
 have hbF:({N7 f with ug:=f.ug,ud:=f.ud}:Fct)=L8 f:=by simp [L8,hk]
 rw [hbF] at p2
 have hfz:=hf.ext E02
 have g3:=jT k2 (by rw [E02.lim];omega) (jh hfz) hfz (n + 7) fu hfu
 have hz:[l8.int .i64 f.room,.int .i64 f.no,.int .i64 f.known,.int .i64 3,.int .i64 0,.int .i64 0,.int .i64 0,.int .i64 0,.int .i64 0,.int .i64 0,.int .i64 0,.int .i64 0,.int .i64 0,.int .i64 0,.int .i64 0,.int .i64 0,.int .i64 0,.int .i64 0,.int .i64 0,.int .i64 0,.int .i64 0,.int .i64 0,.nilSlice,.nilSlice,.int .i64 0,.int .i64 0,.int .i64 0,.int .i64 0,.int .i64 0,.nilSlice,.int .i64 0,.int .i64 0]=(N7 f).cells:=by simp [N7,Fct.cells,hk,-Fct.M4]
 have hz1:=dZ f
 cases h0:(decide (1≤f.room) && decide (f.room≤6)) with
 | true=>
  cases h1:(decide (1≤f.no) && decide (f.no≤60)) with
  | true=>
   cases h2:(decide (0≤f.known) && decide (f.known≤1099511627776)) with
   | true=>
    cases hF:Iy f with
    | false=>
     rw [hF] at g1
     exact⟨m1,by simp [f34,D8,trD,I4,z8,p9,o7,A8,C8,j4 hm,j6 hm,F5 hm hl,w9 hm hl,l6 hm,l5 hm,D9,o9,u6,u7,J5,c68,hlook,J6,isVoid,Nat.add_assoc,hk,L6,Q0,R5,h0,h1,h2,hF,g1,q1],E01⟩
    | true=>
     rw [hF] at g1
     exact⟨_,by simp [f34,D8,trD,I4,z8,p9,o7,A8,C8,j4 hm,j4 k1,j6 hm,j6 k1,F5 hm hl,F5 k1 l1,w9 k1 l1,w9 hm hl,l6 hm,l6 k1,l5 hm,l5 k1,D9,o9,u6,u7,J5,c68,hlook,J6,isVoid,Nat.add_assoc,hk,L6,Q0,R5,h0,h1,h2,hF,g1,q1,q2,hz,hz1,q1',q2',g2,q3,p2,g3,kD],E02.trans (F3 k2 ([C9 (L8 f).cells,C9 f.cells,C9 (L8 f).cells,(L8 f).nm,C9 f.cells,f.nm] ++ (bif X4 (L8 f) f then [C9 (L8 f).cmp,C9 f.cmp] else [])))⟩
   | false=>exact⟨ext m [C9 f.cells,C9 [.func (.func 140) [] [],.func (.func 142) [] []],.map fieldMap],by simp [f34,D8,trD,I4,z8,p9,o7,A8,C8,j4 hm,j6 hm,F5 hm hl,w9 hm hl,l6 hm,l5 hm,D9,o9,u6,u7,J5,c68,hlook,J6,isVoid,Nat.add_assoc,hk,L6,Q0,R5,h0,h1,h2],E0⟩
  | false=>exact⟨ext m [C9 f.cells,C9 [.func (.func 140) [] [],.func (.func 142) [] []],.map fieldMap],by simp [f34,D8,trD,I4,z8,p9,o7,A8,C8,j4 hm,j6 hm,F5 hm hl,w9 hm hl,l6 hm,l5 hm,D9,o9,u6,u7,J5,c68,hlook,J6,isVoid,Nat.add_assoc,hk,L6,Q0,R5,h0,h1],E0⟩
 | false=>exact⟨ext m [C9 f.cells,C9 [.func (.func 140) [] [],.func (.func 142) [] []],.map fieldMap],by simp [f34,D8,trD,I4,z8,p9,o7,A8,C8,j4 hm,j6 hm,F5 hm hl,w9 hm hl,l6 hm,l5 hm,D9,o9,u6,u7,J5,c68,hlook,J6,isVoid,Nat.add_assoc,hk,L6,Q0,R5,h0],E0⟩
theorem ahc {m:Mem}{f:Fct}{a b l:List Int}(hm:m.Ok)(hl:m.lim≤m.next)(hf:R4 m f a b l)(n fu:Nat)(hfu:1000≤fu)(ha:eu f.gn)(hb:eu f.gd)(hk:f.kind=4):∃m',F9 KW fu (n + 11) (.func 34) [.agg f.cells] m=some [⟨.bool (R5 f && (lN f && kD f a b l)),m'⟩]∧Ext m m':=by
 rw [enter (sf:=f34) rfl rfl]
 have c68:=nH (n + 9) fu (ext m [C9 f.cells,.void]) (J3 hm _) (by simp;omega)
 have hlook:∀(mp k:OF) ls env,mp ls env=.map (m.next + 2)→k ls env=.int .i64 4→ay T9 1 (.agg [.nilFunc,.nilFunc]) true mp k ls env (ext m [C9 f.cells,.void,.map fieldMap])=some (.tuple [.agg [.func (.func 143) [] [],.func (.func 144) [] []],.bool true]):=by
  intro mp k ls env e1 e2
  rw [bZ _ _ _ _ _ _ _ _ _ _ fieldMap e1 (by rw [j6 hm];rfl),e2]
  simp [fieldMap,R3,M6,N8,U1]
  rfl
 have hf3:=hf.ext (F3 hm [C9 f.cells,C9 [.func (.func 143) [] [],.func (.func 144) [] []],.map fieldMap])
 have E0:=F3 hm [C9 f.cells,C9 [.func (.func 143) [] [],.func (.func 144) [] []],.map fieldMap]
 obtain⟨m1,g1,E1⟩:∃m1,F9 KW fu (n + 10) (.func 143) [.agg f.cells] (ext m [C9 f.cells,C9 [.func (.func 143) [] [],.func (.func 144) [] []],.map fieldMap])=some [⟨.bool (lN f),m1⟩]∧Ext (ext m [C9 f.cells,C9 [.func (.func 143) [] [],.func (.func 144) [] []],.map fieldMap]) m1:=KL (n + 7) fu f _ (J3 hm _) (by simp;omega)
 have k1:m1.Ok:=E1.ok
 have E01:=E0.trans E1
 have n1:m.next + 3≤m1.next:=by have:=E1.next;simpa using this
 have l1:m1.lim≤m1.next:=by rw [E01.lim];omega
 have q1:m1.get m.next=some (C9 f.cells):=by rw [E1.old _ (by simp),j4 hm];rfl
 have q2:m1.get (m.next + 1)=some (C9 [.func (.func 143) [] [],.func (.func 144) [] []]):=by rw [E1.old _ (by simp),j6 hm];rfl
 have q1':(ext m1 [C9 (N7 f).cells]).get m.next=some (C9 f.cells):=by rw [F6 k1 _ (by omega)];exact q1
 have q2':(ext m1 [C9 (N7 f).cells]).get (m.next + 1)=some (C9 [.func (.func 143) [] [],.func (.func 144) [] []]):=by rw [F6 k1 _ (by omega)];exact q2
 obtain⟨m2,g2,k2,lm2,n2,o2,p2⟩:=KT (g:=N7 f) (p:=m1.next) (J3 k1 [C9 (N7 f).cells]) (by simp;omega) (by simp) ((hf.ext E01).ext (F3 k1 _)) (by rw [j4 k1];rfl) (n + 9) fu
 have n2':m1.next + 1≤m2.next:=by simpa using n2
 have E02:Ext m m2:=⟨k2,by omega,by rw [lm2,dY];exact E01.lim,fun i hi=>by rw [o2 i (by simp;omega) (by omega),F6 k1 _ (by omega)];exact E01.old i hi⟩
 have q3:m2.get m.next=some (C9 f.cells):=by rw [o2 _ (by simp;omega) (by omega)];exact q1'
 have hbF:({N7 f with lg:=f.lg,ll:=f.ll,lh:=f.lh,lw:=f.lw}:Fct)=L8 f:=by simp [L8,hk]
 rw [hbF] at p2
 have hfz:=hf.ext E02
 have g3:=jT k2 (by rw [E02.lim];omega) (jh hfz) hfz (n + 7) fu hfu
 have hz:[l8.int .i64 f.room,.int .i64 f.no,.int .i64 f.known,.int .i64 4,.int .i64 0,.int .i64 0,.int .i64 0,.int .i64 0,.int .i64 0,.int .i64 0,.int .i64 0,.int .i64 0,.int .i64 0,.int .i64 0,.int .i64 0,.int .i64 0,.int .i64 0,.int .i64 0,.int .i64 0,.int .i64 0,.int .i64 0,.int .i64 0,.nilSlice,.nilSlice,.int .i64 0,.int .i64 0,.int .i64 0,.int .i64 0,.int .i64 0,.nilSlice,.int .i64 0,.int .i64 0]=(N7 f).cells:=by simp [N7,Fct.cells,hk,-Fct.M4]
 have hz1:=dZ f
 cases h0:(decide (1≤f.room) && decide (f.room≤6)) with
 | true=>
  cases h1:(decide (1≤f.no) && decide (f.no≤60)) with
  | true=>
   cases h2:(decide (0≤f.known) && decide (f.known≤1099511627776)) with
   | true=>
    cases hF:lN f with
    | false=>
     rw [hF] at g1
     exact⟨m1,by simp [f34,D8,trD,I4,z8,p9,o7,A8,C8,j4 hm,j6 hm,F5 hm hl,w9 hm hl,l6 hm,l5 hm,D9,o9,u6,u7,J5,c68,hlook,J6,isVoid,Nat.add_assoc,hk,L6,Q0,R5,h0,h1,h2,hF,g1,q1],E01⟩
    | true=>
     rw [hF] at g1
     exact⟨_,by simp [f34,D8,trD,I4,z8,p9,o7,A8,C8,j4 hm,j4 k1,j6 hm,j6 k1,F5 hm hl,F5 k1 l1,w9 k1 l1,w9 hm hl,l6 hm,l6 k1,l5 hm,l5 k1,D9,o9,u6,u7,J5,c68,hlook,J6,isVoid,Nat.add_assoc,hk,L6,Q0,R5,h0,h1,h2,hF,g1,q1,q2,hz,hz1,q1',q2',g2,q3,p2,g3,kD],E02.trans (F3 k2 ([C9 (L8 f).cells,C9 f.cells,C9 (L8 f).cells,(L8 f).nm,C9 f.cells,f.nm] ++ (bif X4 (L8 f) f then [C9 (L8 f).cmp,C9 f.cmp] else [])))⟩
   | false=>exact⟨ext m [C9 f.cells,C9 [.func (.func 143) [] [],.func (.func 144) [] []],.map fieldMap],by simp [f34,D8,trD,I4,z8,p9,o7,A8,C8,j4 hm,j6 hm,F5 hm hl,w9 hm hl,l6 hm,l5 hm,D9,o9,u6,u7,J5,c68,hlook,J6,isVoid,Nat.add_assoc,hk,L6,Q0,R5,h0,h1,h2],E0⟩
  | false=>exact⟨ext m [C9 f.cells,C9 [.func (.func 143) [] [],.func (.func 144) [] []],.map fieldMap],by simp [f34,D8,trD,I4,z8,p9,o7,A8,C8,j4 hm,j6 hm,F5 hm hl,w9 hm hl,l6 hm,l5 hm,D9,o9,u6,u7,J5,c68,hlook,J6,isVoid,Nat.add_assoc,hk,L6,Q0,R5,h0,h1],E0⟩
 | false=>exact⟨ext m [C9 f.cells,C9 [.func (.func 143) [] [],.func (.func 144) [] []],.map fieldMap],by simp [f34,D8,trD,I4,z8,p9,o7,A8,C8,j4 hm,j6 hm,F5 hm hl,w9 hm hl,l6 hm,l5 hm,D9,o9,u6,u7,J5,c68,hlook,J6,isVoid,Nat.add_assoc,hk,L6,Q0,R5,h0],E0⟩
theorem ahd {m:Mem}{f:Fct}{a b l:List Int}(hm:m.Ok)(hl:m.lim≤m.next)(hf:R4 m f a b l)(n fu:Nat)(hfu:1000≤fu)(ha:eu f.gn)(hb:eu f.gd)(hk:f.kind=5):∃m',F9 KW fu (n + 11) (.func 34) [.agg f.cells] m=some [⟨.bool (R5 f && (Z0 f a b && kD f a b l)),m'⟩]∧Ext m m':=by
 rw [enter (sf:=f34) rfl rfl]
 have c68:=nH (n + 9) fu (ext m [C9 f.cells,.void]) (J3 hm _) (by simp;omega)
 have hlook:∀(mp k:OF) ls env,mp ls env=.map (m.next + 2)→k ls env=.int .i64 5→ay T9 1 (.agg [.nilFunc,.nilFunc]) true mp k ls env (ext m [C9 f.cells,.void,.map fieldMap])=some (.tuple [.agg [.func (.func 145) [] [],.func (.func 147) [] []],.bool true]):=by
  intro mp k ls env e1 e2
  rw [bZ _ _ _ _ _ _ _ _ _ _ fieldMap e1 (by rw [j6 hm];rfl),e2]
  simp [fieldMap,R3,M6,N8,U1]
  rfl
 have hf3:=hf.ext (F3 hm [C9 f.cells,C9 [.func (.func 145) [] [],.func (.func 147) [] []],.map fieldMap])
 have E0:=F3 hm [C9 f.cells,C9 [.func (.func 145) [] [],.func (.func 147) [] []],.map fieldMap]
 obtain⟨m1,g1,E1⟩:∃m1,F9 KW fu (n + 10) (.func 145) [.agg f.cells] (ext m [C9 f.cells,C9 [.func (.func 145) [] [],.func (.func 147) [] []],.map fieldMap])=some [⟨.bool (Z0 f a b),m1⟩]∧Ext (ext m [C9 f.cells,C9 [.func (.func 145) [] [],.func (.func 147) [] []],.map fieldMap]) m1:=KN (J3 hm _) (by simp;omega) hf3 n fu hfu
 have k1:m1.Ok:=E1.ok
 have E01:=E0.trans E1
 have n1:m.next + 3≤m1.next:=by have:=E1.next;simpa using this
 have l1:m1.lim≤m1.next:=by rw [E01.lim];omega
 have q1:m1.get m.next=some (C9 f.cells):=by rw [E1.old _ (by simp),j4 hm];rfl
 have q2:m1.get (m.next + 1)=some (C9 [.func (.func 145) [] [],.func (.func 147) [] []]):=by rw [E1.old _ (by simp),j6 hm];rfl
 have q1':(ext m1 [C9 (N7 f).cells]).get m.next=some (C9 f.cells):=by rw [F6 k1 _ (by omega)];exact q1
 have q2':(ext m1 [C9 (N7 f).cells]).get (m.next + 1)=some (C9 [.func (.func 145) [] [],.func (.func 147) [] []]):=by rw [F6 k1 _ (by omega)];exact q2
 obtain⟨m2,g2,k2,lm2,n2,o2,p2⟩:=KU (g:=N7 f) (p:=m1.next) (J3 k1 [C9 (N7 f).cells]) (by simp;omega) (by simp) ((hf.ext E01).ext (F3 k1 _)) (by rw [j4 k1];rfl) (n + 9) fu
 have n2':m1.next + 1≤m2.next:=by simpa using n2
 have E02:Ext m m2:=⟨k2,by omega,by rw [lm2,dY];exact E01.lim,fun i hi=>by rw [o2 i (by simp;omega) (by omega),F6 k1 _ (by omega)];exact E01.old i hi⟩
 have q3:m2.get m.next=some (C9 f.cells):=by rw [o2 _ (by simp;omega) (by omega)];exact q1'
 have hbF:({N7 f with cid:=f.cid,cday:=f.cday,A:=f.A,B:=f.B,diff:=f.diff,err:=f.err,hlo:=f.hlo,hhi:=f.hhi}:Fct)=L8 f:=by simp [L8,hk]
 rw [hbF] at p2
 have hfz:=hf.ext E02
 have g3:=jT k2 (by rw [E02.lim];omega) (jh hfz) hfz (n + 7) fu hfu
 have hz:[l8.int .i64 f.room,.int .i64 f.no,.int .i64 f.known,.int .i64 5,.int .i64 0,.int .i64 0,.int .i64 0,.int .i64 0,.int .i64 0,.int .i64 0,.int .i64 0,.int .i64 0,.int .i64 0,.int .i64 0,.int .i64 0,.int .i64 0,.int .i64 0,.int .i64 0,.int .i64 0,.int .i64 0,.int .i64 0,.int .i64 0,.nilSlice,.nilSlice,.int .i64 0,.int .i64 0,.int .i64 0,.int .i64 0,.int .i64 0,.nilSlice,.int .i64 0,.int .i64 0]=(N7 f).cells:=by simp [N7,Fct.cells,hk,-Fct.M4]
 have hz1:=dZ f
 cases h0:(decide (1≤f.room) && decide (f.room≤6)) with
 | true=>
  cases h1:(decide (1≤f.no) && decide (f.no≤60)) with
  | true=>
   cases h2:(decide (0≤f.known) && decide (f.known≤1099511627776)) with
   | true=>
    cases hF:Z0 f a b with
    | false=>
     rw [hF] at g1
     exact⟨m1,by simp [f34,D8,trD,I4,z8,p9,o7,A8,C8,j4 hm,j6 hm,F5 hm hl,w9 hm hl,l6 hm,l5 hm,D9,o9,u6,u7,J5,c68,hlook,J6,isVoid,Nat.add_assoc,hk,L6,Q0,R5,h0,h1,h2,hF,g1,q1],E01⟩
    | true=>
     rw [hF] at g1
     exact⟨_,by simp [f34,D8,trD,I4,z8,p9,o7,A8,C8,j4 hm,j4 k1,j6 hm,j6 k1,F5 hm hl,F5 k1 l1,w9 k1 l1,w9 hm hl,l6 hm,l6 k1,l5 hm,l5 k1,D9,o9,u6,u7,J5,c68,hlook,J6,isVoid,Nat.add_assoc,hk,L6,Q0,R5,h0,h1,h2,hF,g1,q1,q2,hz,hz1,q1',q2',g2,q3,p2,g3,kD],E02.trans (F3 k2 ([C9 (L8 f).cells,C9 f.cells,C9 (L8 f).cells,(L8 f).nm,C9 f.cells,f.nm] ++ (bif X4 (L8 f) f then [C9 (L8 f).cmp,C9 f.cmp] else [])))⟩
   | false=>exact⟨ext m [C9 f.cells,C9 [.func (.func 145) [] [],.func (.func 147) [] []],.map fieldMap],by simp [f34,D8,trD,I4,z8,p9,o7,A8,C8,j4 hm,j6 hm,F5 hm hl,w9 hm hl,l6 hm,l5 hm,D9,o9,u6,u7,J5,c68,hlook,J6,isVoid,Nat.add_assoc,hk,L6,Q0,R5,h0,h1,h2],E0⟩
  | false=>exact⟨ext m [C9 f.cells,C9 [.func (.func 145) [] [],.func (.func 147) [] []],.map fieldMap],by simp [f34,D8,trD,I4,z8,p9,o7,A8,C8,j4 hm,j6 hm,F5 hm hl,w9 hm hl,l6 hm,l5 hm,D9,o9,u6,u7,J5,c68,hlook,J6,isVoid,Nat.add_assoc,hk,L6,Q0,R5,h0,h1],E0⟩
 | false=>exact⟨ext m [C9 f.cells,C9 [.func (.func 145) [] [],.func (.func 147) [] []],.map fieldMap],by simp [f34,D8,trD,I4,z8,p9,o7,A8,C8,j4 hm,j6 hm,F5 hm hl,w9 hm hl,l6 hm,l5 hm,D9,o9,u6,u7,J5,c68,hlook,J6,isVoid,Nat.add_assoc,hk,L6,Q0,R5,h0],E0⟩
theorem ahe {m:Mem}{f:Fct}{a b l:List Int}(hm:m.Ok)(hl:m.lim≤m.next)(hf:R4 m f a b l)(n fu:Nat)(hfu:1000≤fu)(ha:eu f.gn)(hb:eu f.gd)(hk:f.kind=6):∃m',F9 KW fu (n + 11) (.func 34) [.agg f.cells] m=some [⟨.bool (R5 f && (EK f l && kD f a b l)),m'⟩]∧Ext m m':=by
 rw [enter (sf:=f34) rfl rfl]
 have c68:=nH (n + 9) fu (ext m [C9 f.cells,.void]) (J3 hm _) (by simp;omega)
 have hlook:∀(mp k:OF) ls env,mp ls env=.map (m.next + 2)→k ls env=.int .i64 6→ay T9 1 (.agg [.nilFunc,.nilFunc]) true mp k ls env (ext m [C9 f.cells,.void,.map fieldMap])=some (.tuple [.agg [.func (.func 148) [] [],.func (.func 150) [] []],.bool true]):=by
  intro mp k ls env e1 e2
  rw [bZ _ _ _ _ _ _ _ _ _ _ fieldMap e1 (by rw [j6 hm];rfl),e2]
  simp [fieldMap,R3,M6,N8,U1]
  rfl
 have hf3:=hf.ext (F3 hm [C9 f.cells,C9 [.func (.func 148) [] [],.func (.func 150) [] []],.map fieldMap])
 have E0:=F3 hm [C9 f.cells,C9 [.func (.func 148) [] [],.func (.func 150) [] []],.map fieldMap]
 obtain⟨m1,g1,E1⟩:∃m1,F9 KW fu (n + 10) (.func 148) [.agg f.cells] (ext m [C9 f.cells,C9 [.func (.func 148) [] [],.func (.func 150) [] []],.map fieldMap])=some [⟨.bool (EK f l),m1⟩]∧Ext (ext m [C9 f.cells,C9 [.func (.func 148) [] [],.func (.func 150) [] []],.map fieldMap]) m1:=KO (J3 hm _) (by simp;omega) hf3 (n + 6) fu hfu
 have k1:m1.Ok:=E1.ok
 have E01:=E0.trans E1
 have n1:m.next + 3≤m1.next:=by have:=E1.next;simpa using this
 have l1:m1.lim≤m1.next:=by rw [E01.lim];omega
 have q1:m1.get m.next=some (C9 f.cells):=by rw [E1.old _ (by simp),j4 hm];rfl
 have q2:m1.get (m.next + 1)=some (C9 [.func (.func 148) [] [],.func (.func 150) [] []]):=by rw [E1.old _ (by simp),j6 hm];rfl
 have q1':(ext m1 [C9 (N7 f).cells]).get m.next=some (C9 f.cells):=by rw [F6 k1 _ (by omega)];exact q1
 have q2':(ext m1 [C9 (N7 f).cells]).get (m.next + 1)=some (C9 [.func (.func 148) [] [],.func (.func 150) [] []]):=by rw [F6 k1 _ (by omega)];exact q2
 obtain⟨m2,g2,k2,lm2,n2,o2,p2⟩:=KV (g:=N7 f) (p:=m1.next) (J3 k1 [C9 (N7 f).cells]) (by simp;omega) (by simp) ((hf.ext E01).ext (F3 k1 _)) (by rw [j4 k1];rfl) (n + 9) fu
 have n2':m1.next + 1≤m2.next:=by simpa using n2
 have E02:Ext m m2:=⟨k2,by omega,by rw [lm2,dY];exact E01.lim,fun i hi=>by rw [o2 i (by simp;omega) (by omega),F6 k1 _ (by omega)];exact E01.old i hi⟩
 have q3:m2.get m.next=some (C9 f.cells):=by rw [o2 _ (by simp;omega) (by omega)];exact q1'
 have hbF:({N7 f with mday:=f.mday,L:=f.L}:Fct)=L8 f:=by simp [L8,hk]
 rw [hbF] at p2
 have hfz:=hf.ext E02
 have g3:=jT k2 (by rw [E02.lim];omega) (jh hfz) hfz (n + 7) fu hfu
 have hz:[l8.int .i64 f.room,.int .i64 f.no,.int .i64 f.known,.int .i64 6,.int .i64 0,.int .i64 0,.int .i64 0,.int .i64 0,.int .i64 0,.int .i64 0,.int .i64 0,.int .i64 0,.int .i64 0,.int .i64 0,.int .i64 0,.int .i64 0,.int .i64 0,.int .i64 0,.int .i64 0,.int .i64 0,.int .i64 0,.int .i64 0,.nilSlice,.nilSlice,.int .i64 0,.int .i64 0,.int .i64 0,.int .i64 0,.int .i64 0,.nilSlice,.int .i64 0,.int .i64 0]=(N7 f).cells:=by simp [N7,Fct.cells,hk,-Fct.M4]
 have hz1:=dZ f
 cases h0:(decide (1≤f.room) && decide (f.room≤6)) with
 | true=>
  cases h1:(decide (1≤f.no) && decide (f.no≤60)) with
  | true=>
   cases h2:(decide (0≤f.known) && decide (f.known≤1099511627776)) with
   | true=>
    cases hF:EK f l with
    | false=>
     rw [hF] at g1
     exact⟨m1,by simp [f34,D8,trD,I4,z8,p9,o7,A8,C8,j4 hm,j6 hm,F5 hm hl,w9 hm hl,l6 hm,l5 hm,D9,o9,u6,u7,J5,c68,hlook,J6,isVoid,Nat.add_assoc,hk,L6,Q0,R5,h0,h1,h2,hF,g1,q1],E01⟩
    | true=>
     rw [hF] at g1
     exact⟨_,by simp [f34,D8,trD,I4,z8,p9,o7,A8,C8,j4 hm,j4 k1,j6 hm,j6 k1,F5 hm hl,F5 k1 l1,w9 k1 l1,w9 hm hl,l6 hm,l6 k1,l5 hm,l5 k1,D9,o9,u6,u7,J5,c68,hlook,J6,isVoid,Nat.add_assoc,hk,L6,Q0,R5,h0,h1,h2,hF,g1,q1,q2,hz,hz1,q1',q2',g2,q3,p2,g3,kD],E02.trans (F3 k2 ([C9 (L8 f).cells,C9 f.cells,C9 (L8 f).cells,(L8 f).nm,C9 f.cells,f.nm] ++ (bif X4 (L8 f) f then [C9 (L8 f).cmp,C9 f.cmp] else [])))⟩
   | false=>exact⟨ext m [C9 f.cells,C9 [.func (.func 148) [] [],.func (.func 150) [] []],.map fieldMap],by simp [f34,D8,trD,I4,z8,p9,o7,A8,C8,j4 hm,j6 hm,F5 hm hl,w9 hm hl,l6 hm,l5 hm,D9,o9,u6,u7,J5,c68,hlook,J6,isVoid,Nat.add_assoc,hk,L6,Q0,R5,h0,h1,h2],E0⟩
  | false=>exact⟨ext m [C9 f.cells,C9 [.func (.func 148) [] [],.func (.func 150) [] []],.map fieldMap],by simp [f34,D8,trD,I4,z8,p9,o7,A8,C8,j4 hm,j6 hm,F5 hm hl,w9 hm hl,l6 hm,l5 hm,D9,o9,u6,u7,J5,c68,hlook,J6,isVoid,Nat.add_assoc,hk,L6,Q0,R5,h0,h1],E0⟩
 | false=>exact⟨ext m [C9 f.cells,C9 [.func (.func 148) [] [],.func (.func 150) [] []],.map fieldMap],by simp [f34,D8,trD,I4,z8,p9,o7,A8,C8,j4 hm,j6 hm,F5 hm hl,w9 hm hl,l6 hm,l5 hm,D9,o9,u6,u7,J5,c68,hlook,J6,isVoid,Nat.add_assoc,hk,L6,Q0,R5,h0],E0⟩
theorem ahf {m:Mem}{f:Fct}{a b l:List Int}(hm:m.Ok)(hl:m.lim≤m.next)(hf:R4 m f a b l)(n fu:Nat)(hfu:1000≤fu)(ha:eu f.gn)(hb:eu f.gd)(hk:f.kind=7):∃m',F9 KW fu (n + 11) (.func 34) [.agg f.cells] m=some [⟨.bool (R5 f && (wdB f && kD f a b l)),m'⟩]∧Ext m m':=by
 rw [enter (sf:=f34) rfl rfl]
 have c68:=nH (n + 9) fu (ext m [C9 f.cells,.void]) (J3 hm _) (by simp;omega)
 have hlook:∀(mp k:OF) ls env,mp ls env=.map (m.next + 2)→k ls env=.int .i64 7→ay T9 1 (.agg [.nilFunc,.nilFunc]) true mp k ls env (ext m [C9 f.cells,.void,.map fieldMap])=some (.tuple [.agg [.func (.func 151) [] [],.func (.func 152) [] []],.bool true]):=by
  intro mp k ls env e1 e2
  rw [bZ _ _ _ _ _ _ _ _ _ _ fieldMap e1 (by rw [j6 hm];rfl),e2]
  simp [fieldMap,R3,M6,N8,U1]
  rfl
 have hf3:=hf.ext (F3 hm [C9 f.cells,C9 [.func (.func 151) [] [],.func (.func 152) [] []],.map fieldMap])
 have E0:=F3 hm [C9 f.cells,C9 [.func (.func 151) [] [],.func (.func 152) [] []],.map fieldMap]
 obtain⟨m1,g1,E1⟩:∃m1,F9 KW fu (n + 10) (.func 151) [.agg f.cells] (ext m [C9 f.cells,C9 [.func (.func 151) [] [],.func (.func 152) [] []],.map fieldMap])=some [⟨.bool (wdB f),m1⟩]∧Ext (ext m [C9 f.cells,C9 [.func (.func 151) [] [],.func (.func 152) [] []],.map fieldMap]) m1:=KP (J3 hm _) (by simp;omega) hf3 (n + 8) fu
 have k1:m1.Ok:=E1.ok
 have E01:=E0.trans E1
 have n1:m.next + 3≤m1.next:=by have:=E1.next;simpa using this
 have l1:m1.lim≤m1.next:=by rw [E01.lim];omega
 have q1:m1.get m.next=some (C9 f.cells):=by rw [E1.old _ (by simp),j4 hm];rfl
 have q2:m1.get (m.next + 1)=some (C9 [.func (.func 151) [] [],.func (.func 152) [] []]):=by rw [E1.old _ (by simp),j6 hm];rfl
 have q1':(ext m1 [C9 (N7 f).cells]).get m.next=some (C9 f.cells):=by rw [F6 k1 _ (by omega)];exact q1
 have q2':(ext m1 [C9 (N7 f).cells]).get (m.next + 1)=some (C9 [.func (.func 151) [] [],.func (.func 152) [] []]):=by rw [F6 k1 _ (by omega)];exact q2
 obtain⟨m2,g2,k2,lm2,n2,o2,p2⟩:=KX (g:=N7 f) (p:=m1.next) (J3 k1 [C9 (N7 f).cells]) (by simp;omega) (by simp) ((hf.ext E01).ext (F3 k1 _)) (by rw [j4 k1];rfl) (n + 9) fu
 have n2':m1.next + 1≤m2.next:=by simpa using n2
 have E02:Ext m m2:=⟨k2,by omega,by rw [lm2,dY];exact E01.lim,fun i hi=>by rw [o2 i (by simp;omega) (by omega),F6 k1 _ (by omega)];exact E01.old i hi⟩
 have q3:m2.get m.next=some (C9 f.cells):=by rw [o2 _ (by simp;omega) (by omega)];exact q1'
 have hbF:({N7 f with tr:=f.tr,tn:=f.tn}:Fct)=L8 f:=by simp [L8,hk]
 rw [hbF] at p2
 have hfz:=hf.ext E02
 have g3:=jT k2 (by rw [E02.lim];omega) (jh hfz) hfz (n + 7) fu hfu
 have hz:[l8.int .i64 f.room,.int .i64 f.no,.int .i64 f.known,.int .i64 7,.int .i64 0,.int .i64 0,.int .i64 0,.int .i64 0,.int .i64 0,.int .i64 0,.int .i64 0,.int .i64 0,.int .i64 0,.int .i64 0,.int .i64 0,.int .i64 0,.int .i64 0,.int .i64 0,.int .i64 0,.int .i64 0,.int .i64 0,.int .i64 0,.nilSlice,.nilSlice,.int .i64 0,.int .i64 0,.int .i64 0,.int .i64 0,.int .i64 0,.nilSlice,.int .i64 0,.int .i64 0]=(N7 f).cells:=by simp [N7,Fct.cells,hk,-Fct.M4]
 have hz1:=dZ f
 cases h0:(decide (1≤f.room) && decide (f.room≤6)) with
 | true=>
  cases h1:(decide (1≤f.no) && decide (f.no≤60)) with
  | true=>
   cases h2:(decide (0≤f.known) && decide (f.known≤1099511627776)) with
   | true=>
    cases hF:wdB f with
    | false=>
     rw [hF] at g1
     exact⟨m1,by simp [f34,D8,trD,I4,z8,p9,o7,A8,C8,j4 hm,j6 hm,F5 hm hl,w9 hm hl,l6 hm,l5 hm,D9,o9,u6,u7,J5,c68,hlook,J6,isVoid,Nat.add_assoc,hk,L6,Q0,R5,h0,h1,h2,hF,g1,q1],E01⟩
    | true=>
     rw [hF] at g1
     exact⟨_,by simp [f34,D8,trD,I4,z8,p9,o7,A8,C8,j4 hm,j4 k1,j6 hm,j6 k1,F5 hm hl,F5 k1 l1,w9 k1 l1,w9 hm hl,l6 hm,l6 k1,l5 hm,l5 k1,D9,o9,u6,u7,J5,c68,hlook,J6,isVoid,Nat.add_assoc,hk,L6,Q0,R5,h0,h1,h2,hF,g1,q1,q2,hz,hz1,q1',q2',g2,q3,p2,g3,kD],E02.trans (F3 k2 ([C9 (L8 f).cells,C9 f.cells,C9 (L8 f).cells,(L8 f).nm,C9 f.cells,f.nm] ++ (bif X4 (L8 f) f then [C9 (L8 f).cmp,C9 f.cmp] else [])))⟩
   | false=>exact⟨ext m [C9 f.cells,C9 [.func (.func 151) [] [],.func (.func 152) [] []],.map fieldMap],by simp [f34,D8,trD,I4,z8,p9,o7,A8,C8,j4 hm,j6 hm,F5 hm hl,w9 hm hl,l6 hm,l5 hm,D9,o9,u6,u7,J5,c68,hlook,J6,isVoid,Nat.add_assoc,hk,L6,Q0,R5,h0,h1,h2],E0⟩
  | false=>exact⟨ext m [C9 f.cells,C9 [.func (.func 151) [] [],.func (.func 152) [] []],.map fieldMap],by simp [f34,D8,trD,I4,z8,p9,o7,A8,C8,j4 hm,j6 hm,F5 hm hl,w9 hm hl,l6 hm,l5 hm,D9,o9,u6,u7,J5,c68,hlook,J6,isVoid,Nat.add_assoc,hk,L6,Q0,R5,h0,h1],E0⟩
 | false=>exact⟨ext m [C9 f.cells,C9 [.func (.func 151) [] [],.func (.func 152) [] []],.map fieldMap],by simp [f34,D8,trD,I4,z8,p9,o7,A8,C8,j4 hm,j6 hm,F5 hm hl,w9 hm hl,l6 hm,l5 hm,D9,o9,u6,u7,J5,c68,hlook,J6,isVoid,Nat.add_assoc,hk,L6,Q0,R5,h0],E0⟩
end Go.Proofs.YtefodipjjofocaaGreatDoor.TT
namespace Go.Proofs.YtefodipjjofocaaGreatDoor.TT
open Go Go.AM
set_option linter.unusedSimpArgs false
set_option linter.unusedVariables false
set_option maxRecDepth 100000
set_option maxHeartbeats 2000000
theorem K8 {α:Type} [DecidableEq α](x y:α):decide (x=y)=decide (y=x):=by
 rw [Bool.eq_iff_iff];simp [eq_comm]
theorem AV (f g:Fct):X4 f g=X4 g f:=by
 simp only [X4,K8 f.room g.room,K8 f.no g.no,K8 f.known g.known,K8 f.kind g.kind,K8 f.flo g.flo,K8 f.fhi g.fhi,K8 f.gid g.gid,K8 f.made g.made,K8 f.nom g.nom,K8 f.tlo g.tlo,K8 f.thi g.thi,K8 f.gn g.gn,K8 f.gd g.gd,K8 f.wear g.wear,K8 f.ug g.ug,K8 f.ud g.ud,K8 f.lg g.lg,K8 f.ll g.ll,K8 f.lh g.lh,K8 f.lw g.lw,K8 f.tr g.tr,K8 f.tn g.tn]
theorem rP (f g:Fct)(a b l a' b' l':List Int):V6 f g a b l a' b' l'=V6 g f a' b' l' a b l:=by
 simp only [V6,AV f g,nG,K8 f.cid g.cid,K8 f.cday g.cday,K8 f.diff g.diff,K8 f.err g.err,K8 f.hlo g.hlo,K8 f.hhi g.hhi,K8 f.mday g.mday,K8 a a',K8 b b',K8 l l']
theorem Gp (f:Fct)(a b l:List Int):kD f a b l=LG f a b l:=rP ..
theorem IC {m:Mem}{f:Fct}{a b l:List Int}(hm:m.Ok)(hl:m.lim≤m.next)(hf:R4 m f a b l)(n fu:Nat)(hfu:1000≤fu)(ha:eu f.gn)(hb:eu f.gd):∃m',F9 KW fu (n + 11) (.func 34) [.agg f.cells] m=some [⟨.bool (eZ f a b l),m'⟩]∧Ext m m':=by
 unfold eZ wh
 rw [← Gp]
 by_cases h1:f.kind=1
 ·rw [if_pos h1];exact ah9 hm hl hf n fu hfu ha hb h1
 by_cases h2:f.kind=2
 ·rw [if_neg h1];rw [if_pos h2];exact aha hm hl hf n fu hfu ha hb h2
 by_cases h3:f.kind=3
 ·rw [if_neg h1];rw [if_neg h2];rw [if_pos h3];exact ahb hm hl hf n fu hfu ha hb h3
 by_cases h4:f.kind=4
 ·rw [if_neg h1];rw [if_neg h2];rw [if_neg h3];rw [if_pos h4];exact ahc hm hl hf n fu hfu ha hb h4
 by_cases h5:f.kind=5
 ·rw [if_neg h1];rw [if_neg h2];rw [if_neg h3];rw [if_neg h4];rw [if_pos h5];exact ahd hm hl hf n fu hfu ha hb h5
 by_cases h6:f.kind=6
 ·rw [if_neg h1];rw [if_neg h2];rw [if_neg h3];rw [if_neg h4];rw [if_neg h5];rw [if_pos h6];exact ahe hm hl hf n fu hfu ha hb h6
 by_cases h7:f.kind=7
 ·rw [if_neg h1];rw [if_neg h2];rw [if_neg h3];rw [if_neg h4];rw [if_neg h5];rw [if_neg h6];rw [if_pos h7];exact ahf hm hl hf n fu hfu ha hb h7
 rw [if_neg h1];rw [if_neg h2];rw [if_neg h3];rw [if_neg h4];rw [if_neg h5];rw [if_neg h6];rw [if_neg h7];rw [Bool.false_and,Bool.and_false]
 exact ah8 hm hl hf n fu hfu ha hb h1 h2 h3 h4 h5 h6 h7
theorem Va {m:Mem}{f:Fct}{a b l:List Int}(hm:m.Ok)(hl:m.lim≤m.next)(hf:R4 m f a b l)(n fu:Nat)(hfu:1000≤fu)(ha:eu f.gn)(hb:eu f.gd):∃m',F9 KW fu (n + 12) (.func 11) [.agg f.cells] m=some [⟨.int .i64 (bif eZ f a b l then 0 else 1),m'⟩]∧Ext m m':=by
 rw [enter (sf:=f11) rfl rfl]
 obtain⟨m1,g1,E1⟩:=IC (J3 hm [C9 f.cells]) (by simp;omega) (hf.ext (F3 hm _)) n fu hfu ha hb
 refine⟨m1,?_,(F3 hm _).trans E1⟩
 cases hv:eZ f a b l <;> rw [hv] at g1 <;> simp [f11,D8,trD,I4,z8,p9,o7,A8,C8,j4 hm,j6 hm,F5 hm hl,w9 hm hl,l6 hm,l5 hm,D9,o9,u6,u7,J5,g1]
end Go.Proofs.YtefodipjjofocaaGreatDoor.TT
namespace Go.Proofs.YtefodipjjofocaaGreatDoor.TT
open Go Go.AM
set_option linter.unusedSimpArgs false
set_option linter.unusedVariables false
set_option maxRecDepth 100000
set_option maxHeartbeats 2000000
structure FR where
 f:Fct
 a:List Int
 b:List Int
 l:List Int
structure nU (m:Mem)(r:FR):Prop where
 a:bV m r.f.A r.a
 b:bV m r.f.B r.b
 l:bV m r.f.L r.l
 ga:eu r.f.gn
 gb:eu r.f.gd
theorem nU.ext {m m':Mem}(h:Ext m m'){r:FR}(k:nU m r):nU m' r:=⟨k.a.ext h,k.b.ext h,k.l.ext h,k.ga,k.gb⟩
def FR.small (r:FR):Bool:=decide (r.a.length≤9) && (decide (r.b.length≤9) && decide (r.l.length≤9))
theorem nU.at {m:Mem}{r:FR}(k:nU m r)(h:r.small=true):R4 m r.f r.a r.b r.l:=by
 simp only [FR.small,Bool.and_eq_true,decide_eq_true_eq] at h
 exact⟨k.a,k.b,k.l,by omega,by omega,by omega⟩
theorem Dk {m:Mem}{r:FR}(hm:m.Ok)(hf:nU m r)(n fu:Nat):
  F9 KW fu (n + 1) (.func 7) [.agg r.f.cells] m=some [⟨.bool r.small,ext m [C9 r.f.cells]⟩]:=by
 rw [enter (sf:=f7) rfl rfl]
 have l1:=hf.a.len
 have l2:=hf.b.len
 have l3:=hf.l.len
 have e1:decide (((r.a.length:Nat):Int)≤9)=decide (r.a.length≤9):=by rw [Bool.eq_iff_iff];simp;omega
 have e2:decide (((r.b.length:Nat):Int)≤9)=decide (r.b.length≤9):=by rw [Bool.eq_iff_iff];simp;omega
 have e3:decide (((r.l.length:Nat):Int)≤9)=decide (r.l.length≤9):=by rw [Bool.eq_iff_iff];simp;omega
 cases h0:decide (r.a.length≤9) with
 | true=>
  cases h1:decide (r.b.length≤9) with
  | true=>
   cases h2:decide (r.l.length≤9) with
   | true=>
    simp [f7,D8,trD,I4,z8,p9,o7,A8,C8,j4 hm,j6 hm,l6 hm,l5 hm,D9,o9,u6,u7,J5,l1,l2,l3,e1,e2,e3,FR.small,h0,h1,h2]
   | false=>simp [f7,D8,trD,I4,z8,p9,o7,A8,C8,j4 hm,j6 hm,l6 hm,l5 hm,D9,o9,u6,u7,J5,l1,l2,l3,e1,e2,e3,FR.small,h0,h1,h2]
  | false=>simp [f7,D8,trD,I4,z8,p9,o7,A8,C8,j4 hm,j6 hm,l6 hm,l5 hm,D9,o9,u6,u7,J5,l1,l2,l3,e1,e2,e3,FR.small,h0,h1]
 | false=>simp [f7,D8,trD,I4,z8,p9,o7,A8,C8,j4 hm,j6 hm,l6 hm,l5 hm,D9,o9,u6,u7,J5,l1,l2,l3,e1,e2,e3,FR.small,h0]
def rQ (m:Mem)(v:l8)(fs:List FR):Prop:=
 (v=.nilSlice∧fs=[])∨∃id,((∃c,v=.slice id 0 fs.length c)∨v=.sliceU id 0 fs.length 32)∧id < m.next∧(fs=[]∨∃c rows,m.get id=some (.cells 32 c rows)∧fs.length≤c∧∀i (h:i < fs.length),rows.get i=some fs[i].f.cells)
theorem rQ.ext {m m':Mem}(h:Ext m m'){v:l8}{fs:List FR}(hv:rQ m v fs):rQ m' v fs:=by
 rcases hv with hv | ⟨id,h1,h2,h3⟩
 ·exact .inl hv
 ·refine .inr ⟨id,h1,Nat.lt_of_lt_of_le h2 h.next,?_⟩
  rcases h3 with h3 | ⟨c,rows,h4,h5,h6⟩
  ·exact .inl h3
  ·exact .inr ⟨c,rows,(h.old id h2).trans h4,h5,h6⟩
theorem rQ.len {m:Mem}{v:l8}{fs:List FR}(h:rQ m v fs):vSl v (some (l8.int .i64 0)) (fun _ _ n _=>some (.int .i64 n)) (fun _ _ n _=>some (.int .i64 n))=some (.int .i64 fs.length):=by
 rcases h with⟨rfl,rfl⟩ | ⟨id,⟨c,rfl⟩ | rfl,_⟩ <;> rfl
theorem rQ.cells {m:Mem}{v:l8}{fs:List FR}(h:rQ m v fs):v.cells=[v]:=by
 rcases h with⟨rfl,rfl⟩ | ⟨id,⟨c,rfl⟩ | rfl,_⟩ <;> rfl
theorem rQ.pan {m:Mem}{v:l8}{fs:List FR}(h:rQ m v fs){β:Type}(p:l8→β)(q:β):fZ v p q=q:=by
 rcases h with⟨rfl,rfl⟩ | ⟨id,⟨c,rfl⟩ | rfl,_⟩ <;> rfl
theorem rQ.at {m:Mem}{v:l8}{fs:List FR}(h:rQ m v fs){i:Nat}(hi:i < fs.length):
  ∃id,vSl v none (fun id off len _=>idx len (.int .i64 i) fun k=>some (l8.ptr id (off + k * 32))) (fun id off len _=>idx len (.int .i64 i) fun k=>some (l8.ptr id (off + k * 32)))=some (.ptr id (i * 32))∧id < m.next∧
   ldN (m.get id) (i * 32) 32=some (.agg fs[i].f.cells)∧ld1 (m.get id) (i * 32)=some (.int .i64 fs[i].f.room)∧ld1 (m.get id) (i * 32 + 1)=some (.int .i64 fs[i].f.no)∧ld1 (m.get id) (i * 32 + 3)=some (.int .i64 fs[i].f.kind):=by
 rcases h with⟨_,rfl⟩ | ⟨id,hv,h2,h3⟩
 ·simp at hi
 ·rcases h3 with rfl | ⟨c,rows,h4,h5,h6⟩
  ·simp at hi
  ·have hr:=h6 i hi
   have hc:i < c:=by omega
   refine⟨id,?_,h2,?_,?_,?_,?_⟩
   ·rcases hv with⟨c',rfl⟩ | rfl
    ·simp only [vT]
     rw [tK _ _ _ hi];simp
    ·simp only [rE]
     rw [tK _ _ _ hi];simp
   ·rw [h4]
    have hk:=rF (rs:=32) (j:=0) (k:=32) (by omega) hc hr (Fct.len _) (by omega)
    rw [Nat.add_zero] at hk
    unfold ldN
    rw [jf,hk,Q7,List.drop_zero,List.take_of_length_le (by rw [Fct.len];omega)]
   ·have hk:=jg (rs:=32) (j:=0) (by omega) hc hr
    rw [Nat.add_zero] at hk
    rw [h4,ld1,jf,hk]
    exact Fct.c0 _
   ·have hk:=jg (rs:=32) (j:=1) (by omega) hc hr
    skip
    rw [h4,ld1,jf,hk]
    exact Fct.c1 _
   ·have hk:=jg (rs:=32) (j:=3) (by omega) hc hr
    skip
    rw [h4,ld1,jf,hk]
    exact Fct.c3 _
end Go.Proofs.YtefodipjjofocaaGreatDoor.TT
namespace Go.Proofs.YtefodipjjofocaaGreatDoor.TT
open Go Go.AM
set_option linter.unusedSimpArgs false
set_option linter.unusedVariables false
set_option maxRecDepth 100000
set_option maxHeartbeats 2000000
theorem Vb {v:l8}{fs:List FR}(hb:fs.length≤18)(n fu:Nat):
  ∀(j i:Nat),i + j=fs.length→∀(N:Nat),j < N→∀(m:Mem),m.Ok→rQ m v fs→(∀i (h:i < fs.length),nU m fs[i])→∀(a3 a4 a5 a7:l8) (c6 c8:Int),
   ∃x k b3 b4 b5 b7 d6 d8 m',aW (fun env m k=>Kw (F9 KW fu (n + 1)) fu none env m k) N (.nd (.nd (.nd (.nd .e a7 .e) a3 .e) (.bool false) (.nd (.nd .e (.bool false) .e) a5 .e)) v (.nd (.nd (.nd .e (.int .i64 c8) .e) a4 .e) (.int .i64 ((i:Nat):Int)) (.nd .e (.int .i64 c6) .e))) m []=some [⟨x,(.nd (.nd (.nd (.nd .e b7 .e) b3 .e) (.bool false) (.nd (.nd .e (.bool false) .e) b5 .e)) v (.nd (.nd (.nd .e (.int .i64 d8) .e) b4 .e) (.int .i64 ((k:Nat):Int)) (.nd .e (.int .i64 d6) .e))),m',[],none⟩]∧Ext m m'∧((x=.exit 0∧∀t (h:t < fs.length),i≤t→fs[t].small=true)∨x=.ret):=by
 intro j
 induction j with
 | zero=>
  intro i hi N hN m hm hv hw a3 a4 a5 a7 c6 c8
  obtain⟨N,rfl⟩:∃M,N=M + 1:=⟨N - 1,by omega⟩
  refine⟨.exit 0,i,.bool false,a4,a5,a7,c6,c8,m,?_,Ext.refl hm,.inl ⟨rfl,fun t h ht=>by omega⟩⟩
  rw [G7]
  have h:¬ i < fs.length:=by omega
  have l1:=hv.len
  simp [Kw,D8,trD,I4,z8,p9,o7,h,l1]
 | succ j ih=>
  intro i hi N hN m hm hv hw a3 a4 a5 a7 c6 c8
  obtain⟨N,rfl⟩:∃M,N=M + 1:=⟨N - 1,by omega⟩
  have h:i < fs.length:=by omega
  have l1:=hv.len
  obtain⟨p,e1,hp,e2,_,_,e3⟩:=hv.at h
  have E1:=F3 hm [C9 fs[i].f.cells]
  have g1:=Dk hm (hw i h) n fu
  have e3':ld1 ((ext m [C9 fs[i].f.cells]).get p) (i * 32 + 3)=some (.int .i64 fs[i].f.kind):=by rw [E1.old _ hp];exact e3
  have hv':=hv.ext E1
  cases hs:fs[i].small with
  | false=>
   rw [hs] at g1
   refine⟨.ret,i,.bool true,.bool true,a5,a7,c6,c8,ext m [C9 fs[i].f.cells],?_,E1,.inr rfl⟩
   rw [G7]
   simp [Kw,D8,trD,I4,z8,p9,o7,h,l1,e1,e2,g1]
  | true=>
   rw [hs] at g1
   have hw2:∀t (h:t < fs.length),nU (ext m [C9 fs[i].f.cells]) fs[t]:=fun t h=>(hw t h).ext E1
   have fin:∀{x:R7},((x=.exit 0∧∀t (h:t < fs.length),i + 1≤t→fs[t].small=true)∨x=.ret)→((x=.exit 0∧∀t (h:t < fs.length),i≤t→fs[t].small=true)∨x=.ret):=by
    intro x hx
    rcases hx with⟨h1,h2⟩ | h1
    ·refine .inl ⟨h1,fun t ht hit=>?_⟩
     by_cases hti:t=i
     ·subst hti;exact hs
     ·exact h2 t ht (by omega)
    ·exact .inr h1
   by_cases h5:fs[i].f.kind=5
   ·obtain⟨x,k,b3,b4,b5,b7,d6,d8,m',g2,E2,h2⟩:=ih (i + 1) (by omega) N (by omega) _ (J3 hm _) hv' hw2 (.bool true) (.bool false) (.bool true) (.bool false) (w64 (c6 + 1)) c8
    refine⟨x,k,b3,b4,b5,b7,d6,d8,m',?_,E1.trans E2,fin h2⟩
    rw [G7,← g2]
    rw [h5] at e3'
    simp [Kw,D8,trD,I4,z8,p9,o7,h,l1,e1,e2,g1,e3',Q6 (i:=i) (by omega)]
   ·by_cases h6:fs[i].f.kind=6
    ·obtain⟨x,k,b3,b4,b5,b7,d6,d8,m',g2,E2,h2⟩:=ih (i + 1) (by omega) N (by omega) _ (J3 hm _) hv' hw2 (.bool true) (.bool false) (.bool false) (.bool true) c6 (w64 (c8 + 1))
     refine⟨x,k,b3,b4,b5,b7,d6,d8,m',?_,E1.trans E2,fin h2⟩
     rw [G7,← g2]
     rw [h6] at e3'
     simp [Kw,D8,trD,I4,z8,p9,o7,h,l1,e1,e2,g1,e3',Q6 (i:=i) (by omega)]
    ·obtain⟨x,k,b3,b4,b5,b7,d6,d8,m',g2,E2,h2⟩:=ih (i + 1) (by omega) N (by omega) _ (J3 hm _) hv' hw2 (.bool true) (.bool false) (.bool false) (.bool false) c6 c8
     refine⟨x,k,b3,b4,b5,b7,d6,d8,m',?_,E1.trans E2,fin h2⟩
     rw [G7,← g2]
     simp [Kw,D8,trD,I4,z8,p9,o7,h,l1,e1,e2,g1,e3',h5,h6,Q6 (i:=i) (by omega)]
theorem ahg {m:Mem}{v:l8}{fs:List FR}(hm:m.Ok)(hv:rQ m v fs)(hw:∀i (h:i < fs.length),nU m fs[i])(n fu:Nat)(hfu:1000≤fu):
  ∃r m',F9 KW fu (n + 2) (.func 6) [v] m=some [⟨.bool r,m'⟩]∧Ext m m'∧(r=true→fs.length≤18∧∀t (h:t < fs.length),fs[t].small=true):=by
 rw [enter (sf:=f6) rfl rfl]
 have l1:=hv.len
 by_cases hb:fs.length≤18
 ·have hb':¬ 18 < (fs.length:Int):=by omega
  obtain⟨x,k,b3,b4,b5,b7,d6,d8,m',g,E1,hx⟩:=Vb hb n fu fs.length 0 (by omega) fu (by omega) m hm hv hw .undef .undef .undef .undef 0 0
  rcases hx with⟨rfl,hs⟩ | rfl
  ·refine⟨decide (d6≤7) && decide (d8≤2),m',?_,E1,fun _=>⟨hb,fun t h=>hs t h (by omega)⟩⟩
   simp [D8,trD,I4,z8,p9,o7] at g
   cases h1:decide (d6≤7) with
   | true=>simp [f6,D8,trD,I4,z8,p9,o7,l1,hb',g,h1]
   | false=>simp [f6,D8,trD,I4,z8,p9,o7,l1,hb',g,h1]
  ·refine⟨false,m',?_,E1,by simp⟩
   simp [D8,trD,I4,z8,p9,o7] at g
   simp [f6,D8,trD,I4,z8,p9,o7,l1,hb',g]
 ·have hb':18 < (fs.length:Int):=by omega
  refine⟨false,m,?_,Ext.refl hm,by simp⟩
  simp [f6,D8,trD,I4,z8,p9,o7,l1,hb']
end Go.Proofs.YtefodipjjofocaaGreatDoor.TT
namespace Go.Proofs.YtefodipjjofocaaGreatDoor.TT
open Go Go.AM
set_option linter.unusedSimpArgs false
set_option linter.unusedVariables false
set_option maxRecDepth 100000
set_option maxHeartbeats 2000000
def FR.O5 (r s:FR):Bool:=decide (r.f.room=s.f.room) && decide (r.f.no=s.f.no)
def FR.same (r s:FR):Bool:=V6 r.f s.f r.a r.b r.l s.a s.b s.l
def FR.valid (r:FR):Bool:=eZ r.f r.a r.b r.l
theorem Vd {v:l8}{fs:List FR}(hb:fs.length≤36)(hs:∀t (h:t < fs.length),fs[t].small=true)(n fu:Nat)(hfu:1000≤fu)(i:Nat)(hi:i < fs.length)(a3:l8):
  ∀(j t:Nat),t + j=i→∀(N:Nat),j < N→∀(m:Mem),m.Ok→rQ m v fs→(∀i (h:i < fs.length),nU m fs[i])→∀(a7 a8 a9 a10:l8),
   ∃x t' b7 b8 b9 b10 c1 c2 m',aW (fun env m k=>xU (F9 KW fu (n + 7)) fu none env m k) N (.nd (.nd (.nd (.nd .e a7 .e) a3 (.nd .e (.int .i64 0) .e)) (.bool false) (.nd (.nd .e a9 .e) (.bool false) .e)) v (.nd (.nd (.nd .e a8 .e) (.bool true) (.nd .e (.int .i64 0) .e)) (.int .i64 ((i:Nat):Int)) (.nd (.nd .e a10 .e) (.int .i64 ((t:Nat):Int)) .e))) m []=some [⟨x,(.nd (.nd (.nd (.nd .e b7 .e) a3 (.nd .e c1 .e)) (.bool false) (.nd (.nd .e b9 .e) (.bool false) .e)) v (.nd (.nd (.nd .e b8 .e) (.bool true) (.nd .e c2 .e)) (.int .i64 ((i:Nat):Int)) (.nd (.nd .e b10 .e) t' .e))),m',[],none⟩]∧Ext m m'∧
    ((x=.exit 2∧c1=.int .i64 0∧c2=.int .i64 0∧∀u (h:u < i),t≤u→(fs[u]'(by omega)).O5 fs[i]=true→(fs[u]'(by omega)).same fs[i]=true)∨
     (x=.ret∧c1=.int .i64 9∧c2=.int .i64 i∧∃u,∃h:u < i,(fs[u]'(by omega)).O5 fs[i]=true∧(fs[u]'(by omega)).same fs[i]=false)):=by
 intro j
 induction j with
 | zero=>
  intro t hi' N hN m hm hv hw a7 a8 a9 a10
  obtain⟨N,rfl⟩:∃M,N=M + 1:=⟨N - 1,by omega⟩
  refine⟨.exit 2,(.int .i64 ((t:Nat):Int)),.bool false,a8,a9,a10,.int .i64 0,.int .i64 0,m,?_,Ext.refl hm,.inl ⟨rfl,rfl,rfl,fun u h hu=>by omega⟩⟩
  rw [G7]
  have h:¬ t < i:=by omega
  simp [xU,D8,trD,I4,z8,p9,o7,h]
 | succ j ih=>
  intro t hi' N hN m hm hv hw a7 a8 a9 a10
  obtain⟨N,rfl⟩:∃M,N=M + 1:=⟨N - 1,by omega⟩
  have h:t < i:=by omega
  have ht:t < fs.length:=by omega
  obtain⟨p,e1,hp,e2,e3,e4,_⟩:=hv.at ht
  obtain⟨q,d1,hq,d2,d3,d4,_⟩:=hv.at hi
  have go:((fs[t]).O5 fs[i]=true→fs[t].same fs[i]=true)→∀{x:R7} {c1 c2:l8},((x=.exit 2∧c1=.int .i64 0∧c2=.int .i64 0∧∀u (h:u < i),t + 1≤u→(fs[u]'(by omega)).O5 fs[i]=true→(fs[u]'(by omega)).same fs[i]=true)∨
       (x=.ret∧c1=.int .i64 9∧c2=.int .i64 i∧∃u,∃h:u < i,(fs[u]'(by omega)).O5 fs[i]=true∧(fs[u]'(by omega)).same fs[i]=false))→
    ((x=.exit 2∧c1=.int .i64 0∧c2=.int .i64 0∧∀u (h:u < i),t≤u→(fs[u]'(by omega)).O5 fs[i]=true→(fs[u]'(by omega)).same fs[i]=true)∨
     (x=.ret∧c1=.int .i64 9∧c2=.int .i64 i∧∃u,∃h:u < i,(fs[u]'(by omega)).O5 fs[i]=true∧(fs[u]'(by omega)).same fs[i]=false)):=by
   intro hq x c1 c2 hx
   rcases hx with⟨h1,h2,h3,h4⟩ | hx
   ·refine .inl ⟨h1,h2,h3,fun u hu htu=>?_⟩
    by_cases hut:u=t
    ·subst hut;exact hq
    ·exact h4 u hu (by omega)
   ·exact .inr hx
  cases h1:decide (fs[t].f.room=fs[i].f.room) with
  | false=>
   have hne:fs[t].O5 fs[i]=false:=by simp only [FR.O5,h1,Bool.false_and]
   obtain⟨x,t',b7,b8,b9,b10,c1,c2,m',g2,E2,h2⟩:=ih (t + 1) (by omega) N (by omega) m hm hv hw (.bool true) (.bool false) a9 a10
   refine⟨x,t',b7,b8,b9,b10,c1,c2,m',?_,E2,go (fun hh=>by rw [hne] at hh;simp at hh) h2⟩
   rw [G7,← g2]
   simp [xU,D8,trD,I4,z8,p9,o7,h,e1,d1,e3,d3,h1,Q6 (i:=t) (by omega)]
  | true=>
   cases h2:decide (fs[t].f.no=fs[i].f.no) with
   | false=>
    have hne:fs[t].O5 fs[i]=false:=by simp only [FR.O5,h2,Bool.and_false]
    obtain⟨x,t',b7,b8,b9,b10,c1,c2,m',g2,E2,h2'⟩:=ih (t + 1) (by omega) N (by omega) m hm hv hw (.bool true) (.bool false) a9 a10
    refine⟨x,t',b7,b8,b9,b10,c1,c2,m',?_,E2,go (fun hh=>by rw [hne] at hh;simp at hh) h2'⟩
    rw [G7,← g2]
    simp [xU,D8,trD,I4,z8,p9,o7,h,e1,d1,e3,d3,e4,d4,h1,h2,Q6 (i:=t) (by omega)]
   | true=>
    have hne:fs[t].O5 fs[i]=true:=by simp only [FR.O5,h1,h2,Bool.true_and]
    have g1:=Dh hm ((hw t ht).at (hs t ht)) ((hw i hi).at (hs i hi)) (n + 4) fu hfu
    rw [show V6 fs[t].f fs[i].f fs[t].a fs[t].b fs[t].l fs[i].a fs[i].b fs[i].l=fs[t].same fs[i] from rfl] at g1
    have E1:=F3 hm [C9 fs[t].f.cells,C9 fs[i].f.cells,C9 fs[t].f.cmp,C9 fs[i].f.cmp]
    cases h3:fs[t].same fs[i] with
    | true=>
     rw [h3] at g1
     obtain⟨x,t',b7,b8,b9,b10,c1,c2,m',g2,E2,h2'⟩:=ih (t + 1) (by omega) N (by omega) _ E1.ok (hv.ext E1) (fun i h=>(hw i h).ext E1) (.bool true) (.bool true) (.bool true) (.bool false)
     refine⟨x,t',b7,b8,b9,b10,c1,c2,m',?_,E1.trans E2,go (fun _=>h3) h2'⟩
     rw [G7,← g2]
     simp [xU,D8,trD,I4,z8,p9,o7,h,e1,d1,e2,d2,e3,d3,e4,d4,h1,h2,g1,Q6 (i:=t) (by omega)]
    | false=>
     rw [h3] at g1
     refine⟨.ret,(.int .i64 ((t:Nat):Int)),.bool true,.bool true,.bool false,.bool true,.int .i64 9,.int .i64 i,_,?_,E1,.inr ⟨rfl,rfl,rfl,t,h,hne,h3⟩⟩
     rw [G7]
     simp [xU,D8,trD,I4,z8,p9,o7,h,e1,d1,e2,d2,e3,d3,e4,d4,h1,h2,g1]
end Go.Proofs.YtefodipjjofocaaGreatDoor.TT
namespace Go.Proofs.YtefodipjjofocaaGreatDoor.TT
open Go Go.AM
set_option linter.unusedSimpArgs false
set_option linter.unusedVariables false
set_option maxRecDepth 100000
set_option maxHeartbeats 2000000
def Dl (fs:List FR)(i:Nat):Prop:=∃h:i < fs.length,fs[i].valid=true∧∀u (hu:u < i),(fs[u]'(by omega)).O5 fs[i]=true→(fs[u]'(by omega)).same fs[i]=true
def Gq (fs:List FR)(code:Int)(k:Nat):Prop:=∃h:k < fs.length,(∀t,t < k→Dl fs t)∧((code=1∧fs[k].valid=false)∨(code=9∧fs[k].valid=true∧∃u,∃hu:u < k,(fs[u]'(by omega)).O5 fs[k]=true∧(fs[u]'(by omega)).same fs[k]=false))
def LH (fs:List FR)(code idx:Int):Prop:=(code=0∧idx=-1∧∀t,t < fs.length→Dl fs t)∨∃k:Nat,idx=k∧Gq fs code k
theorem Gq.not {fs:List FR}{code:Int}{k:Nat}(h:Gq fs code k):¬ Dl fs k:=by
 obtain⟨h1,_,h2⟩:=h
 rintro⟨_,h3,h4⟩
 rcases h2 with⟨_,h2⟩ | ⟨_,_,u,hu,h5,h6⟩
 ·rw [h3] at h2;simp at h2
 ·have:=h4 u hu h5;rw [this] at h6;simp at h6
theorem LH.uniq {fs:List FR}{c i c' i':Int}(h:LH fs c i)(h':LH fs c' i'):c=c'∧i=i':=by
 rcases h with⟨h1,h2,h3⟩ | ⟨k,h1,h2⟩ <;> rcases h' with⟨g1,g2,g3⟩ | ⟨k',g1,g2⟩
 ·exact⟨by omega,by omega⟩
 ·exact absurd (h3 k' g2.1) g2.not
 ·exact absurd (g3 k h2.1) h2.not
 ·have hk:k=k':=by
   rcases Nat.lt_trichotomy k k' with hl | hl | hl
   ·exact absurd (g2.2.1 k hl) h2.not
   ·exact hl
   ·exact absurd (h2.2.1 k' hl) g2.not
  subst hk
  refine⟨?_,by omega⟩
  obtain⟨_,_,h3⟩:=h2
  obtain⟨_,_,g3⟩:=g2
  rcases h3 with⟨h4,h5⟩ | ⟨h4,h5,_⟩ <;> rcases g3 with⟨g4,g5⟩ | ⟨g4,g5,_⟩
  ·omega
  ·rw [h5] at g5;simp at g5
  ·rw [h5] at g5;simp at g5
  ·omega
theorem LJ {v:l8}{fs:List FR}(hb:fs.length≤36)(hs:∀t (h:t < fs.length),fs[t].small=true)(n fu:Nat)(hfu:1000≤fu):
  ∀(j i:Nat),i + j=fs.length→∀(N:Nat),j < N→∀(m:Mem),m.Ok→m.lim≤m.next→rQ m v fs→(∀i (h:i < fs.length),nU m fs[i])→(∀t,t < i→Dl fs t)→∀(a3 a4 a5 a6 a7 a8 a9 a10:l8),
   ∃x k b3 b4 b5 b6 b7 b8 b9 b10 c1 c2 m',aW (fun env m k=>AQ (F9 KW fu (n + 7)) fu none env m k) N (.nd (.nd (.nd (.nd .e a7 .e) a3 (.nd .e (.int .i64 0) .e)) (.bool false) (.nd (.nd .e a9 .e) a5 .e)) v (.nd (.nd (.nd .e a8 .e) a4 (.nd .e (.int .i64 0) .e)) (.int .i64 ((i:Nat):Int)) (.nd (.nd .e a10 .e) a6 .e))) m []=some [⟨x,(.nd (.nd (.nd (.nd .e b7 .e) b3 (.nd .e (.int .i64 c1) .e)) (.bool false) (.nd (.nd .e b9 .e) b5 .e)) v (.nd (.nd (.nd .e b8 .e) b4 (.nd .e (.int .i64 c2) .e)) (.int .i64 ((k:Nat):Int)) (.nd (.nd .e b10 .e) b6 .e))),m',[],none⟩]∧Ext m m'∧
    ((x=.exit 0∧∀t,t < fs.length→Dl fs t)∨(x=.ret∧LH fs c1 c2)):=by
 intro j
 induction j with
 | zero=>
  intro i hi N hN m hm hl hv hw ho a3 a4 a5 a6 a7 a8 a9 a10
  obtain⟨N,rfl⟩:∃M,N=M + 1:=⟨N - 1,by omega⟩
  refine⟨.exit 0,i,.bool false,a4,a5,a6,a7,a8,a9,a10,0,0,m,?_,Ext.refl hm,.inl ⟨rfl,fun t h=>ho t (by omega)⟩⟩
  rw [G7]
  have h:¬ i < fs.length:=by omega
  have l1:=hv.len
  simp [AQ,D8,trD,I4,z8,p9,o7,h,l1]
 | succ j ih=>
  intro i hi N hN m hm hl hv hw ho a3 a4 a5 a6 a7 a8 a9 a10
  obtain⟨N,rfl⟩:∃M,N=M + 1:=⟨N - 1,by omega⟩
  have h:i < fs.length:=by omega
  have l1:=hv.len
  obtain⟨p,e1,hp,e2,_⟩:=hv.at h
  obtain⟨m1,g1,E1⟩:=Iz hm hl ((hw i h).at (hs i h)) n fu hfu (hw i h).ga (hw i h).gb
  rw [show eZ fs[i].f fs[i].a fs[i].b fs[i].l=fs[i].valid from rfl] at g1
  cases hval:fs[i].valid with
  | false=>
   rw [hval] at g1
   refine⟨.ret,i,.bool true,.bool false,.bool true,a6,a7,a8,a9,a10,1,i,m1,?_,E1,.inr ⟨rfl,.inr ⟨i,rfl,h,ho,.inl ⟨rfl,hval⟩⟩⟩⟩
   rw [G7]
   simp [AQ,D8,trD,I4,z8,p9,o7,h,l1,e1,e2,g1]
  | true=>
   rw [hval] at g1
   obtain⟨x,t',b7,b8,b9,b10,c1,c2,m2,g2,E2,hx⟩:=Vd hb hs n fu hfu i h (.bool true) i 0 (by omega) fu (by omega) m1 E1.ok (hv.ext E1) (fun i h=>(hw i h).ext E1) a7 a8 a9 a10
   simp [D8,trD,I4,z8,p9,o7] at g2
   have E12:=E1.trans E2
   rcases hx with⟨rfl,rfl,rfl,hx⟩ | ⟨rfl,rfl,rfl,u,hu,hx⟩
   ·obtain⟨x,k,b3,b4,b5,b6,b7,b8,b9,b10,d1,d2,m',g3,E3,h3⟩:=ih (i + 1) (by omega) N (by omega) m2 E2.ok (by rw [E12.lim];have:=E12.next;omega) (hv.ext E12) (fun i h=>(hw i h).ext E12)
     (fun t ht=>by
      by_cases hti:t=i
      ·subst hti;exact⟨h,hval,fun u hu=>hx u hu (by omega)⟩
      ·exact ho t (by omega)) (.bool true) (.bool true) (.bool false) t' b7 b8 b9 b10
    refine⟨x,k,b3,b4,b5,b6,b7,b8,b9,b10,d1,d2,m',?_,E12.trans E3,h3⟩
    rw [G7,← g3]
    simp [AQ,D8,trD,I4,z8,p9,o7,h,l1,e1,e2,g1,g2,Q6 (i:=i) (by omega)]
   ·refine⟨.ret,i,.bool true,.bool true,.bool false,t',b7,b8,b9,b10,9,i,m2,?_,E12,.inr ⟨rfl,.inr ⟨i,rfl,h,ho,.inr ⟨rfl,hval,u,hu,hx⟩⟩⟩⟩
    rw [G7]
    simp [AQ,D8,trD,I4,z8,p9,o7,h,l1,e1,e2,g1,g2]
theorem Ve {m:Mem}{v:l8}{fs:List FR}(hm:m.Ok)(hl:m.lim≤m.next)(hv:rQ m v fs)(hw:∀i (h:i < fs.length),nU m fs[i])(hb:fs.length≤36)(hs:∀t (h:t < fs.length),fs[t].small=true)(n fu:Nat)(hfu:1000≤fu):
  ∃c i m',F9 KW fu (n + 8) (.func 10) [v] m=some [⟨.tuple [.int .i64 c,.int .i64 i],m'⟩]∧Ext m m'∧LH fs c i:=by
 rw [enter (sf:=f10) rfl rfl]
 have l1:=hv.len
 have hb':¬ 200 < (fs.length:Int):=by omega
 obtain⟨x,k,b3,b4,b5,b6,b7,b8,b9,b10,c1,c2,m',g,E1,hx⟩:=LJ hb hs n fu hfu fs.length 0 (by omega) fu (by omega) m hm hl hv hw (fun t h=>by omega) .undef .undef .undef .undef .undef .undef .undef .undef
 simp [D8,trD,I4,z8,p9,o7] at g
 rcases hx with⟨rfl,hx⟩ | ⟨rfl,hx⟩
 ·refine⟨0,-1,m',?_,E1,.inl ⟨rfl,rfl,hx⟩⟩
  simp [f10,D8,trD,I4,z8,p9,o7,l1,hb',g]
 ·refine⟨c1,c2,m',?_,E1,hx⟩
  simp [f10,D8,trD,I4,z8,p9,o7,l1,hb',g]
end Go.Proofs.YtefodipjjofocaaGreatDoor.TT
namespace Go.Proofs.YtefodipjjofocaaGreatDoor.TT
open Go Go.AM
set_option linter.unusedSimpArgs false
set_option linter.unusedVariables false
set_option maxRecDepth 100000
set_option maxHeartbeats 2000000
noncomputable def nk (r:FR):l8:=.agg [.int .i64 r.f.room,.int .i64 r.f.no]
noncomputable def ent (r:FR):l8×l8:=(nk r,.agg r.f.cells)
theorem rR (r:FR):∀(ms:List FR) (p:Nat),cu (ms.map ent) (nk r) (.agg r.f.cells) p=(ms.set p r).map ent
 | [],p=>by cases p <;> rfl
 | s :: ms,0=>rfl
 | s :: ms,p + 1=>by
  show ent s :: cu (ms.map ent) (nk r) (.agg r.f.cells) p=ent s :: (ms.set p r).map ent
  rw [rR r ms p]
theorem Vf (r s:FR):O6 [.i,.i] (nk r) (nk s)=some (r.O5 s):=by
 simp [nk,FR.O5]
theorem zR (r:FR):∀(ms:List FR) (i0:Nat),((∀s,s∈ms→r.O5 s=false)∧findKey (O6 [.i,.i]) (nk r) (ms.map ent) i0=some none)∨
  ∃p s,ms[p]?=some s∧r.O5 s=true∧findKey (O6 [.i,.i]) (nk r) (ms.map ent) i0=some (some (i0 + p,.agg s.f.cells))
 | [],i0=>.inl ⟨fun s h=>by simp at h,rfl⟩
 | s :: ms,i0=>by
  have hh:findKey (O6 [.i,.i]) (nk r) ((s :: ms).map ent) i0=bi (r.O5 s) (some (some (i0,.agg s.f.cells))) (findKey (O6 [.i,.i]) (nk r) (ms.map ent) (i0 + 1)):=by
   rw [List.map_cons,M6]
   show ob (O6 [.i,.i] (nk r) (nk s)) _=_
   rw [Vf,Q7];rfl
  rw [hh]
  cases hn:r.O5 s with
  | true=>exact .inr ⟨0,s,rfl,hn,rfl⟩
  | false=>
   rcases zR r ms (i0 + 1) with⟨h1,h2⟩ | ⟨p,t,h1,h2,h3⟩
   ·refine .inl ⟨fun t ht=>?_,h2⟩
    rcases List.mem_cons.mp ht with rfl | ht
    ·exact hn
    ·exact h1 t ht
   ·exact .inr ⟨p + 1,t,h1,h2,by rw [Y1,h3];congr 3;omega⟩
theorem Dm (r:FR)(ms:List FR):((∀s,s∈ms→r.O5 s=false)∧P5 (O6 [.i,.i]) 2 (nk r) (ms.map ent)=some none)∨
  ∃p s,ms[p]?=some s∧r.O5 s=true∧P5 (O6 [.i,.i]) 2 (nk r) (ms.map ent)=some (some (p,.agg s.f.cells)):=by
 cases ms with
 | nil=>
  refine .inl ⟨fun s h=>by simp at h,?_⟩
  show bi true (ob (O6 [.i,.i] (nk r) (nk r)) fun _=>some none) none=_
  rw [Vf];rfl
 | cons s ms=>
  have hh:P5 (O6 [.i,.i]) 2 (nk r) ((s :: ms).map ent)=findKey (O6 [.i,.i]) (nk r) ((s :: ms).map ent) 0:=rfl
  rw [hh]
  rcases zR r (s :: ms) 0 with h | ⟨p,t,h1,h2,h3⟩
  ·exact .inl h
  ·exact .inr ⟨p,t,h1,h2,by rw [h3,Nat.zero_add]⟩
theorem FR.gW (r s:FR):r.O5 s=s.O5 r:=by simp only [FR.O5,K8 r.f.room,K8 r.f.no]
theorem FR.ji {r s t:FR}(h:r.O5 s=true)(k:s.O5 t=true):r.O5 t=true:=by
 simp only [FR.O5,Bool.and_eq_true,decide_eq_true_eq] at *
 exact⟨h.1.trans k.1,h.2.trans k.2⟩
theorem FR.Dn (r s:FR):r.same s=s.same r:=rP ..
theorem FR.rT {r s t:FR}(h:r.same s=true)(k:s.same t=true):r.same t=true:=by
 simp only [FR.same,V6,X4,nG,Bool.and_eq_true,decide_eq_true_eq] at *
 simp [h,k]
def dx (fs:List FR)(i:Nat)(ms:List FR):Prop:=(∀r,r∈ms→∃j,∃h:j < fs.length,j < i∧r=fs[j])∧∀j (h:j < fs.length),j < i→∃r,r∈ms∧fs[j].O5 r=true
theorem dx.nil (fs:List FR):dx fs 0 []:=⟨fun r h=>by simp at h,fun j _ h=>by omega⟩
theorem dx.push {fs:List FR}{i:Nat}{ms:List FR}(h:dx fs i ms)(hi:i < fs.length):dx fs (i + 1) (ms ++ [fs[i]]):=by
 refine⟨fun r hr=>?_,fun j hj hji=>?_⟩
 ·rcases List.mem_append.mp hr with hr | hr
  ·obtain⟨j,h1,h2,h3⟩:=h.1 r hr;exact⟨j,h1,by omega,h3⟩
  ·exact⟨i,hi,by omega,by simpa using hr⟩
 ·by_cases hj':j=i
  ·subst hj';exact⟨fs[j],by simp,by simp [FR.O5]⟩
  ·obtain⟨r,h1,h2⟩:=h.2 j hj (by omega);exact⟨r,List.mem_append.mpr (.inl h1),h2⟩
theorem dx.put {fs:List FR}{i:Nat}{ms:List FR}(h:dx fs i ms)(hi:i < fs.length){p:Nat}{s:FR}(hp:ms[p]?=some s)(hn:fs[i].O5 s=true):dx fs (i + 1) (ms.set p fs[i]):=by
 have hpl:p < ms.length:=by
  rcases Nat.lt_or_ge p ms.length with hl | hl
  ·exact hl
  ·rw [List.getElem?_eq_none hl] at hp;simp at hp
 have hmem:fs[i]∈ms.set p fs[i]:=List.mem_set hpl _
 refine⟨fun r hr=>?_,fun j hj hji=>?_⟩
 ·rcases List.mem_or_eq_of_mem_set hr with hr | hr
  ·obtain⟨j,h1,h2,h3⟩:=h.1 r hr;exact⟨j,h1,by omega,h3⟩
  ·exact⟨i,hi,by omega,hr⟩
 ·by_cases hj':j=i
  ·subst hj';exact⟨fs[j],hmem,by simp [FR.O5]⟩
  ·obtain⟨r,h1,h2⟩:=h.2 j hj (by omega)
   obtain⟨q,hq⟩:=List.mem_iff_getElem?.mp h1
   by_cases hqp:q=p
   ·subst hqp
    rw [hp] at hq
    cases hq
    exact⟨fs[i],hmem,FR.ji h2 (by rw [FR.gW];exact hn)⟩
   ·exact⟨r,List.mem_iff_getElem?.mpr ⟨q,by rw [List.getElem?_set_ne (fun e=>hqp e.symm)];exact hq⟩,h2⟩
theorem dx.none {fs:List FR}{i:Nat}{ms:List FR}(h:dx fs i ms)(hi:i < fs.length)(hv:fs[i].valid=true)(hn:∀s,s∈ms→fs[i].O5 s=false):Dl fs i:=by
 refine⟨hi,hv,fun u hu hne=>?_⟩
 obtain⟨r,h1,h2⟩:=h.2 u (by omega) hu
 have h3:fs[i].O5 r=true:=FR.ji (by rw [FR.gW];exact hne) h2
 rw [hn r h1] at h3;simp at h3
theorem dx.same {fs:List FR}{i:Nat}{ms:List FR}(h:dx fs i ms)(hi:i < fs.length)(ho:∀t,t < i→Dl fs t)(hv:fs[i].valid=true){s:FR}(hm:s∈ms)(hn:fs[i].O5 s=true)(hs:s.same fs[i]=true):Dl fs i:=by
 refine⟨hi,hv,fun u hu hne=>?_⟩
 obtain⟨j,h1,h2,rfl⟩:=h.1 s hm
 have h3:(fs[u]'(by omega)).O5 fs[j]=true:=FR.ji hne hn
 rcases Nat.lt_trichotomy u j with hl | hl | hl
 ·obtain⟨_,_,h4⟩:=ho j h2
  exact FR.rT (h4 u hl h3) hs
 ·subst hl;exact hs
 ·obtain⟨_,_,h4⟩:=ho u hu
  have h5:=h4 j hl (by rw [FR.gW];exact h3)
  exact FR.rT (by rw [FR.Dn];exact h5) hs
theorem dx.bad {fs:List FR}{i:Nat}{ms:List FR}(h:dx fs i ms)(hi:i < fs.length)(ho:∀t,t < i→Dl fs t)(hv:fs[i].valid=true){s:FR}(hm:s∈ms)(hn:fs[i].O5 s=true)(hs:s.same fs[i]=false):Gq fs 9 i:=by
 obtain⟨j,h1,h2,rfl⟩:=h.1 s hm
 exact⟨hi,ho,.inr ⟨rfl,hv,j,h2,by rw [FR.gW];exact hn,hs⟩⟩
theorem wm {ms:List FR}{r:FR}(h:P5 (O6 [.i,.i]) 2 (nk r) (ms.map ent)=some none):msB (some (.map (ms.map ent))) (O6 [.i,.i]) 2 (nk r) (.agg r.f.cells)=some (.map ((ms ++ [r]).map ent)):=by
 rw [tO,h,Q7,List.map_append];rfl
theorem wo {ms:List FR}{r:FR}{p:Nat}{s:FR}(hp:ms[p]?=some s)(h:P5 (O6 [.i,.i]) 2 (nk r) (ms.map ent)=some (some (p,.agg s.f.cells))):msB (some (.map (ms.map ent))) (O6 [.i,.i]) 2 (nk r) (.agg r.f.cells)=some (.map ((ms.set p r).map ent)):=by
 rw [tO,h,Q7]
 show ob (ms.map ent)[p]? _=_
 rw [List.getElem?_map,hp]
 show bi (Nat.beq 2 2) (some (Blk.map (cu (ms.map ent) (nk r) (.agg r.f.cells) p))) none=_
 rw [rR];rfl
end Go.Proofs.YtefodipjjofocaaGreatDoor.TT
namespace Go.Proofs.YtefodipjjofocaaGreatDoor.TT
open Go Go.AM
set_option linter.unusedSimpArgs false
set_option linter.unusedVariables false
set_option maxRecDepth 100000
set_option maxHeartbeats 2000000
theorem nU.one {m:Mem}{r:FR}(h:nU m r):ah r.f.cells=true:=by
 have o1:=h.a.J5
 have o2:=h.b.J5
 have o3:=h.l.J5
 have hi:∀k x,J5 (.int k x)=true:=fun _ _=>rfl
 simp [Fct.cells,o1,o2,o3,hi,-Fct.M4]
theorem Vg {v:l8}{fs:List FR}{m0:Mem}{mp:Nat}(hm0:m0.Ok)(hl0:m0.lim≤m0.next)(hv:rQ m0 v fs)(hw:∀i (h:i < fs.length),nU m0 fs[i])(hmp:m0.next≤mp)(hb:fs.length≤36)(hs:∀t (h:t < fs.length),fs[t].small=true)(n fu:Nat)(hfu:1000≤fu):
  ∀(j i:Nat),i + j=fs.length→∀(N:Nat),j < N→∀(m:Mem) (ms:List FR),Ext m0 m→mp < m.next→m.get mp=some (.map (ms.map ent))→dx fs i ms→(∀t,t < i→Dl fs t)→∀(a4 a6 a7 a8 a10 a11 a12:l8),
   ∃x k b4 b6 b7 b8 b10 b11 b12 c1 c2 m',aW (fun env m k=>Ky (F9 KW fu (n + 11)) fu none env m k) N (.nd (.nd (.nd (.nd .e a7 .e) (.int .i64 ((fs.length:Nat):Int)) (.nd .e a11 .e)) (.bool false) (.nd (.nd .e (.map mp) .e) v (.nd .e (.int .i64 0) .e))) v (.nd (.nd (.nd .e a8 .e) a4 (.nd .e a12 .e)) (.int .i64 ((i:Nat):Int)) (.nd (.nd .e a10 .e) a6 (.nd .e (.int .i64 0) .e)))) m []=some [⟨x,(.nd (.nd (.nd (.nd .e b7 .e) (.int .i64 ((fs.length:Nat):Int)) (.nd .e b11 .e)) (.bool false) (.nd (.nd .e (.map mp) .e) v (.nd .e (.int .i64 c1) .e))) v (.nd (.nd (.nd .e b8 .e) b4 (.nd .e b12 .e)) (.int .i64 ((k:Nat):Int)) (.nd (.nd .e b10 .e) b6 (.nd .e (.int .i64 c2) .e)))),m',[],none⟩]∧Ext m0 m'∧
    ((x=.exit 0∧∀t,t < fs.length→Dl fs t)∨(x=.ret∧LH fs c1 c2)):=by
 intro j
 induction j with
 | zero=>
  intro i hi N hN m ms E0 hmn hgm hI ho a4 a6 a7 a8 a10 a11 a12
  obtain⟨N,rfl⟩:∃M,N=M + 1:=⟨N - 1,by omega⟩
  refine⟨.exit 0,i,.bool false,a6,a7,a8,a10,a11,a12,0,0,m,?_,E0,.inl ⟨rfl,fun t h=>ho t (by omega)⟩⟩
  rw [G7]
  have h:¬ i < fs.length:=by omega
  simp [Ky,D8,trD,I4,z8,p9,o7,h]
 | succ j ih=>
  intro i hi N hN m ms E0 hmn hgm hI ho a4 a6 a7 a8 a10 a11 a12
  obtain⟨N,rfl⟩:∃M,N=M + 1:=⟨N - 1,by omega⟩
  have h:i < fs.length:=by omega
  have hm:m.Ok:=E0.ok
  have hl:m.lim≤m.next:=by rw [E0.lim];have:=E0.next;omega
  obtain⟨p,e1,hp,e2,_⟩:=(hv.ext E0).at h
  have one:=(hw i h).one
  have Eb:=F3 hm [C9 fs[i].f.cells]
  have Eb0:=E0.trans Eb
  obtain⟨m1,g1,E1⟩:=IC (J3 hm _) (by simp;omega) (((hw i h).ext Eb0).at (hs i h)) n fu hfu (hw i h).ga (hw i h).gb
  rw [show eZ fs[i].f fs[i].a fs[i].b fs[i].l=fs[i].valid from rfl] at g1
  have E01:=Eb0.trans E1
  cases hval:fs[i].valid with
  | false=>
   rw [hval] at g1
   refine⟨.ret,i,.bool true,.ptr m.next 0,.bool true,(.int .i64 (i:Nat)),a10,a11,a12,1,i,m1,?_,E01,.inr ⟨rfl,.inr ⟨i,rfl,h,ho,.inl ⟨rfl,hval⟩⟩⟩⟩
   rw [G7]
   simp [Ky,D8,trD,I4,z8,p9,o7,A8,C8,j4 hm,j6 hm,F5 hm hl,w9 hm hl,l6 hm,l5 hm,D9,o9,u6,u7,J5,h,e1,e2,g1,one]
  | true=>
   rw [hval] at g1
   have k1:m1.Ok:=E1.ok
   have n1:m.next + 1≤m1.next:=by have:=E1.next;simpa using this
   have l1:m1.lim≤m1.next:=by rw [E01.lim];have:=E01.next;omega
   have q1:m1.get m.next=some (C9 fs[i].f.cells):=by rw [E1.old _ (by simp),j4 hm];rfl
   have qm:m1.get mp=some (.map (ms.map ent)):=by rw [E1.old _ (by simp;omega),F6 hm _ hmn];exact hgm
   have c35:=rM (n + 10) fu fs[i].f m1 k1 l1
   have hmpl:∀{M:Mem},Ext m0 M→Nat.blt mp M.lim=false:=fun E=>by
    cases hh:Nat.blt mp _ with
    | false=>rfl
    | true=>have:=Nat.blt_eq.mp hh;rw [E.lim] at this;omega
   rcases Dm fs[i] ms with⟨hn,hf⟩ | ⟨pp,s,hp1,hn,hf⟩
   ·have hlook:∀(zero:l8) (mp' k:OF) ls env,mp' ls env=.map mp→k ls env=.agg [.int .i64 fs[i].f.room,.int .i64 fs[i].f.no]→ay (O6 [.i,.i]) 2 zero true mp' k ls env (ext m1 [C9 fs[i].f.cells,C9 [.int .i64 fs[i].f.room,.int .i64 fs[i].f.no]])=some (.tuple [zero,.bool false]):=by
     intro zero mp' k ls env x1 x2
     rw [bZ _ _ _ _ _ _ _ _ _ _ (ms.map ent) x1 (by rw [F6 k1 _ (by omega)];exact qm),x2]
     rw [show P5 (O6 [.i,.i]) 2 (.agg [.int .i64 fs[i].f.room,.int .i64 fs[i].f.no]) (ms.map ent)=some none from hf]
     rfl
    have E03:=E01.trans (F3 k1 [C9 fs[i].f.cells,C9 [.int .i64 fs[i].f.room,.int .i64 fs[i].f.no],C9 [.int .i64 0,.int .i64 0,.int .i64 0,.int .i64 0,.int .i64 0,.int .i64 0,.int .i64 0,.int .i64 0,.int .i64 0,.int .i64 0,.int .i64 0,.int .i64 0,.int .i64 0,.int .i64 0,.int .i64 0,.int .i64 0,.int .i64 0,.int .i64 0,.int .i64 0,.int .i64 0,.int .i64 0,.int .i64 0,.nilSlice,.nilSlice,.int .i64 0,.int .i64 0,.int .i64 0,.int .i64 0,.int .i64 0,.nilSlice,.int .i64 0,.int .i64 0]])
    have r1:(ext m1 [C9 fs[i].f.cells,C9 [.int .i64 fs[i].f.room,.int .i64 fs[i].f.no],C9 [.int .i64 0,.int .i64 0,.int .i64 0,.int .i64 0,.int .i64 0,.int .i64 0,.int .i64 0,.int .i64 0,.int .i64 0,.int .i64 0,.int .i64 0,.int .i64 0,.int .i64 0,.int .i64 0,.int .i64 0,.int .i64 0,.int .i64 0,.int .i64 0,.int .i64 0,.int .i64 0,.int .i64 0,.int .i64 0,.nilSlice,.nilSlice,.int .i64 0,.int .i64 0,.int .i64 0,.int .i64 0,.int .i64 0,.nilSlice,.int .i64 0,.int .i64 0]]).get m.next=some (C9 fs[i].f.cells):=by rw [F6 k1 _ (by omega)];exact q1
    have d35:=rM (n + 10) fu fs[i].f (ext m1 [C9 fs[i].f.cells,C9 [.int .i64 fs[i].f.room,.int .i64 fs[i].f.no],C9 [.int .i64 0,.int .i64 0,.int .i64 0,.int .i64 0,.int .i64 0,.int .i64 0,.int .i64 0,.int .i64 0,.int .i64 0,.int .i64 0,.int .i64 0,.int .i64 0,.int .i64 0,.int .i64 0,.int .i64 0,.int .i64 0,.int .i64 0,.int .i64 0,.int .i64 0,.int .i64 0,.int .i64 0,.int .i64 0,.nilSlice,.nilSlice,.int .i64 0,.int .i64 0,.int .i64 0,.int .i64 0,.int .i64 0,.nilSlice,.int .i64 0,.int .i64 0]]) E03.ok (by simp;omega)
    have r2:(ext m1 [C9 fs[i].f.cells,C9 [.int .i64 fs[i].f.room,.int .i64 fs[i].f.no],C9 [.int .i64 0,.int .i64 0,.int .i64 0,.int .i64 0,.int .i64 0,.int .i64 0,.int .i64 0,.int .i64 0,.int .i64 0,.int .i64 0,.int .i64 0,.int .i64 0,.int .i64 0,.int .i64 0,.int .i64 0,.int .i64 0,.int .i64 0,.int .i64 0,.int .i64 0,.int .i64 0,.int .i64 0,.int .i64 0,.nilSlice,.nilSlice,.int .i64 0,.int .i64 0,.int .i64 0,.int .i64 0,.int .i64 0,.nilSlice,.int .i64 0,.int .i64 0],C9 fs[i].f.cells,C9 [.int .i64 fs[i].f.room,.int .i64 fs[i].f.no]]).get m.next=some (C9 fs[i].f.cells):=by rw [F6 k1 _ (by omega)];exact q1
    have r3:msB ((ext m1 [C9 fs[i].f.cells,C9 [.int .i64 fs[i].f.room,.int .i64 fs[i].f.no],C9 [.int .i64 0,.int .i64 0,.int .i64 0,.int .i64 0,.int .i64 0,.int .i64 0,.int .i64 0,.int .i64 0,.int .i64 0,.int .i64 0,.int .i64 0,.int .i64 0,.int .i64 0,.int .i64 0,.int .i64 0,.int .i64 0,.int .i64 0,.int .i64 0,.int .i64 0,.int .i64 0,.int .i64 0,.int .i64 0,.nilSlice,.nilSlice,.int .i64 0,.int .i64 0,.int .i64 0,.int .i64 0,.int .i64 0,.nilSlice,.int .i64 0,.int .i64 0],C9 fs[i].f.cells,C9 [.int .i64 fs[i].f.room,.int .i64 fs[i].f.no]]).get mp) (O6 [.i,.i]) 2 (.agg [.int .i64 fs[i].f.room,.int .i64 fs[i].f.no]) (.agg fs[i].f.cells)=some (.map ((ms ++ [fs[i]]).map ent)):=by
     rw [F6 k1 _ (by omega),qm];exact wm hf
    have E04:=E01.trans (F3 k1 [C9 fs[i].f.cells,C9 [.int .i64 fs[i].f.room,.int .i64 fs[i].f.no],C9 [.int .i64 0,.int .i64 0,.int .i64 0,.int .i64 0,.int .i64 0,.int .i64 0,.int .i64 0,.int .i64 0,.int .i64 0,.int .i64 0,.int .i64 0,.int .i64 0,.int .i64 0,.int .i64 0,.int .i64 0,.int .i64 0,.int .i64 0,.int .i64 0,.int .i64 0,.int .i64 0,.int .i64 0,.int .i64 0,.nilSlice,.nilSlice,.int .i64 0,.int .i64 0,.int .i64 0,.int .i64 0,.int .i64 0,.nilSlice,.int .i64 0,.int .i64 0],C9 fs[i].f.cells,C9 [.int .i64 fs[i].f.room,.int .i64 fs[i].f.no]])
    have r4:=hmpl E01
    have E05:=E04.set (i:=mp) (by simp;omega) hmp (.map ((ms ++ [fs[i]]).map ent))
    obtain⟨x,k,b4,b6,b7,b8,b10,b11,b12,c1,c2,m',g2,E2,hx⟩:=ih (i + 1) (by omega) N (by omega) _ (ms ++ [fs[i]]) E05 (by show mp < (ext m1 _).next;simp;omega) (P9 E04.ok _ (by simp;omega) rfl) (hI.push h)
     (fun t ht=>by
      by_cases hti:t=i
      ·subst hti;exact hI.none h hval hn
      ·exact ho t (by omega)) (.bool true) (.ptr m.next 0) (.bool false) (.int .i64 (i:Nat)) (.bool false) (.ptr (m1.next + 2) 0) (.bool false)
    refine⟨x,k,b4,b6,b7,b8,b10,b11,b12,c1,c2,m',?_,E2,hx⟩
    rw [G7,← g2]
    simp [Ky,D8,trD,I4,z8,p9,o7,A8,C8,j4 hm,j4 k1,j6 hm,j6 k1,F5 hm hl,F5 k1 l1,w9 k1 l1,w9 hm hl,l6 hm,l6 k1,l5 hm,l5 k1,D9,o9,u6,u7,J5,h,e1,e2,g1,one,q1,c35,hlook,r1,d35,r2,r3,r4,jG,(hw i h).at (hs i h) |>.same,Q6 (i:=i) (by omega)]
   ·have hmem:s∈ms:=List.mem_iff_getElem?.mpr ⟨pp,hp1⟩
    obtain⟨jj,hj1,hj2,hsj⟩:=hI.1 s hmem
    have hsw:nU m0 s:=by rw [hsj];exact hw jj hj1
    have hss:s.small=true:=by rw [hsj];exact hs jj hj1
    have one2:=hsw.one
    have hlook:∀(zero:l8) (mp' k:OF) ls env,mp' ls env=.map mp→k ls env=.agg [.int .i64 fs[i].f.room,.int .i64 fs[i].f.no]→ay (O6 [.i,.i]) 2 zero true mp' k ls env (ext m1 [C9 fs[i].f.cells,C9 [.int .i64 fs[i].f.room,.int .i64 fs[i].f.no]])=some (.tuple [.agg s.f.cells,.bool true]):=by
     intro zero mp' k ls env x1 x2
     rw [bZ _ _ _ _ _ _ _ _ _ _ (ms.map ent) x1 (by rw [F6 k1 _ (by omega)];exact qm),x2]
     rw [show P5 (O6 [.i,.i]) 2 (.agg [.int .i64 fs[i].f.room,.int .i64 fs[i].f.no]) (ms.map ent)=some (some (pp,.agg s.f.cells)) from hf]
     rfl
    have E03:=E01.trans (F3 k1 [C9 fs[i].f.cells,C9 [.int .i64 fs[i].f.room,.int .i64 fs[i].f.no],C9 s.f.cells])
    have r1:(ext m1 [C9 fs[i].f.cells,C9 [.int .i64 fs[i].f.room,.int .i64 fs[i].f.no],C9 s.f.cells]).get m.next=some (C9 fs[i].f.cells):=by rw [F6 k1 _ (by omega)];exact q1
    obtain⟨M3,g13,E3⟩:∃M3,F9 KW fu (n + 11) (.func 13) [.agg s.f.cells,.agg fs[i].f.cells] (ext m1 [C9 fs[i].f.cells,C9 [.int .i64 fs[i].f.room,.int .i64 fs[i].f.no],C9 s.f.cells])=some [⟨.bool (s.same fs[i]),M3⟩]∧Ext (ext m1 [C9 fs[i].f.cells,C9 [.int .i64 fs[i].f.room,.int .i64 fs[i].f.no],C9 s.f.cells]) M3:=
     ⟨_,jT E03.ok (by simp;omega) ((hsw.ext E03).at hss) (((hw i h).ext E03).at (hs i h)) (n + 8) fu hfu,F3 E03.ok _⟩
    have E04:=E03.trans E3
    have k3:M3.Ok:=E3.ok
    have n3:m1.next + 3≤M3.next:=by have:=E3.next;simpa using this
    have l3:M3.lim≤M3.next:=by rw [E04.lim];have:=E04.next;omega
    cases hsm:s.same fs[i] with
    | false=>
     rw [hsm] at g13
     refine⟨.ret,i,.bool true,.ptr m.next 0,.bool false,(.int .i64 (i:Nat)),.bool true,.ptr (m1.next + 2) 0,.bool true,9,i,M3,?_,E04,.inr ⟨rfl,.inr ⟨i,rfl,hI.bad h ho hval hmem hn hsm⟩⟩⟩
     rw [G7]
     simp [Ky,D8,trD,I4,z8,p9,o7,A8,C8,j4 hm,j4 k1,j6 hm,j6 k1,F5 hm hl,F5 k1 l1,w9 k1 l1,w9 hm hl,l6 hm,l6 k1,l5 hm,l5 k1,D9,o9,u6,u7,J5,h,e1,e2,g1,one,one2,q1,c35,hlook,r1,g13]
    | true=>
     rw [hsm] at g13
     have s1:M3.get m.next=some (C9 fs[i].f.cells):=by rw [E3.old _ (by simp;omega)];exact r1
     have d35:=rM (n + 10) fu fs[i].f M3 k3 l3
     have r2:(ext M3 [C9 fs[i].f.cells,C9 [.int .i64 fs[i].f.room,.int .i64 fs[i].f.no]]).get m.next=some (C9 fs[i].f.cells):=by rw [F6 k3 _ (by omega)];exact s1
     have r3:msB ((ext M3 [C9 fs[i].f.cells,C9 [.int .i64 fs[i].f.room,.int .i64 fs[i].f.no]]).get mp) (O6 [.i,.i]) 2 (.agg [.int .i64 fs[i].f.room,.int .i64 fs[i].f.no]) (.agg fs[i].f.cells)=some (.map ((ms.set pp fs[i]).map ent)):=by
      rw [F6 k3 _ (by omega),E3.old _ (by simp;omega),F6 k1 _ (by omega),qm];exact wo hp1 hf
     have E06:=E04.trans (F3 k3 [C9 fs[i].f.cells,C9 [.int .i64 fs[i].f.room,.int .i64 fs[i].f.no]])
     have r4:=hmpl E04
     have E05:=E06.set (i:=mp) (by simp;omega) hmp (.map ((ms.set pp fs[i]).map ent))
     obtain⟨x,k,b4,b6,b7,b8,b10,b11,b12,c1,c2,m',g2,E2,hx⟩:=ih (i + 1) (by omega) N (by omega) _ (ms.set pp fs[i]) E05 (by show mp < (ext M3 _).next;simp;omega) (P9 E06.ok _ (by simp;omega) rfl) (hI.put h hp1 hn)
      (fun t ht=>by
       by_cases hti:t=i
       ·subst hti;exact hI.same h ho hval hmem hn hsm
       ·exact ho t (by omega)) (.bool true) (.ptr m.next 0) (.bool false) (.int .i64 (i:Nat)) (.bool true) (.ptr (m1.next + 2) 0) (.bool false)
     refine⟨x,k,b4,b6,b7,b8,b10,b11,b12,c1,c2,m',?_,E2,hx⟩
     rw [G7,← g2]
     simp [Ky,D8,trD,I4,z8,p9,o7,A8,C8,j4 hm,j4 k1,j6 hm,j6 k1,F5 hm hl,F5 k1 l1,w9 k1 l1,w9 hm hl,l6 hm,l6 k1,l5 hm,l5 k1,D9,o9,u6,u7,J5,h,e1,e2,g1,one,one2,q1,c35,hlook,r1,g13,s1,d35,r2,r3,r4,jG,(hw i h).at (hs i h) |>.same,Q6 (i:=i) (by omega)]
theorem ahh {m:Mem}{v:l8}{fs:List FR}(hm:m.Ok)(hl:m.lim≤m.next)(hv:rQ m v fs)(hw:∀i (h:i < fs.length),nU m fs[i])(hb:fs.length≤36)(hs:∀t (h:t < fs.length),fs[t].small=true)(n fu:Nat)(hfu:1000≤fu):
  ∃c i m',F9 KW fu (n + 12) (.func 9) [v] m=some [⟨.tuple [.int .i64 c,.int .i64 i],m'⟩]∧Ext m m'∧LH fs c i:=by
 rw [enter (sf:=f9) rfl rfl]
 have l1:=hv.len
 have hb':¬ 200 < (fs.length:Int):=by omega
 obtain⟨x,k,b4,b6,b7,b8,b10,b11,b12,c1,c2,m',g,E1,hx⟩:=Vg hm hl hv hw (Nat.le_refl _) hb hs n fu hfu fs.length 0 (by omega) fu (by omega) (ext m [.map []]) [] (F3 hm _) (by simp) (by rw [j4 hm];rfl) (dx.nil fs) (fun t h=>by omega) .undef .undef .undef .undef .undef .undef .undef
 simp [D8,trD,I4,z8,p9,o7] at g
 rcases hx with⟨rfl,hx⟩ | ⟨rfl,hx⟩
 ·refine⟨0,-1,m',?_,E1,.inl ⟨rfl,rfl,hx⟩⟩
  simp [f9,D8,trD,I4,z8,p9,o7,A8,C8,j4 hm,j6 hm,F5 hm hl,w9 hm hl,l6 hm,l5 hm,D9,o9,u6,u7,J5,l1,hb',g]
 ·refine⟨c1,c2,m',?_,E1,hx⟩
  simp [f9,D8,trD,I4,z8,p9,o7,A8,C8,j4 hm,j6 hm,F5 hm hl,w9 hm hl,l6 hm,l5 hm,D9,o9,u6,u7,J5,l1,hb',g]
end Go.Proofs.YtefodipjjofocaaGreatDoor.TT
namespace Go.Proofs.YtefodipjjofocaaGreatDoor.TT
open Go Go.AM
set_option linter.unusedSimpArgs false
set_option linter.unusedVariables false
set_option maxRecDepth 100000
set_option maxHeartbeats 400000
theorem ahi (n fu:Nat)(m:Mem):F9 KW fu (n + 1) (.func 8) [] m=some [⟨.bool true,m⟩]:=by
 rw [dX]
 have h:KW.fns 8=some {f8 with pure:=true}:=rfl
 simp only [h,Q7,bn]
 rfl
end Go.Proofs.YtefodipjjofocaaGreatDoor.TT
namespace Go.Proofs.YtefodipjjofocaaGreatDoor.TT
open Go Go.AM
set_option linter.unusedSimpArgs false
set_option linter.unusedVariables false
set_option maxRecDepth 100000
set_option maxHeartbeats 2000000
theorem FR.Dp (r:FR):r.same r=true:=by simp [FR.same,V6,X4,nG]
theorem ahj {m:Mem}{v:l8}{fs:List FR}{rf rg:FR}(hm:m.Ok)(hl:m.lim≤m.next)(hv:rQ m v fs)(hw:∀i (h:i < fs.length),nU m fs[i])(hf:nU m rf)(hg:nU m rg)(n fu:Nat)(hfu:1000≤fu):
  ∃m',F9 KW fu (n + 13) (.func 3) [v,.agg rf.f.cells,.agg rg.f.cells] m=some [⟨.bool true,m'⟩]∧Ext m m':=by
 rw [enter (sf:=f3) rfl rfl]
 have E0:=F3 hm [C9 rf.f.cells,C9 rg.f.cells]
 obtain⟨r,m1,g1,E1,hr⟩:=ahg E0.ok (hv.ext E0) (fun i h=>(hw i h).ext E0) (n + 10) fu hfu
 have E01:=E0.trans E1
 have k1:m1.Ok:=E1.ok
 have n1:m.next + 2≤m1.next:=by have:=E1.next;simpa using this
 have qf:∀{M:Mem},Ext m1 M→M.get m.next=some (C9 rf.f.cells):=fun E=>by rw [E.old _ (by omega),E1.old _ (by simp),j4 hm];rfl
 have qg:∀{M:Mem},Ext m1 M→M.get (m.next + 1)=some (C9 rg.f.cells):=fun E=>by rw [E.old _ (by omega),E1.old _ (by simp),j6 hm];rfl
 have qf1:=qf (Ext.refl k1)
 have c8:=ahi (n + 11) fu
 cases r with
 | false=>exact⟨m1,by simp [f3,D8,trD,I4,z8,p9,o7,A8,C8,j4 hm,j6 hm,F5 hm hl,w9 hm hl,l6 hm,l5 hm,D9,o9,u6,u7,J5,g1,c8],E01⟩
 | true=>
 obtain⟨hb,hs⟩:=hr rfl
 have s1:=Dk k1 (hf.ext E01) (n + 11) fu
 have E1a:=F3 k1 [C9 rf.f.cells]
 have E1b:=F3 k1 [C9 rf.f.cells,C9 rg.f.cells]
 cases hsf:rf.small with
 | false=>
  rw [hsf] at s1
  exact⟨ext m1 [C9 rf.f.cells],by simp [f3,D8,trD,I4,z8,p9,o7,A8,C8,j4 hm,j6 hm,F5 hm hl,w9 hm hl,l6 hm,l5 hm,D9,o9,u6,u7,J5,g1,c8,qf1,s1],E01.trans E1a⟩
 | true=>
 rw [hsf] at s1
 have s2:=Dk E1a.ok (hg.ext (E01.trans E1a)) (n + 11) fu
 have qga:=qg E1a
 cases hsg:rg.small with
 | false=>
  rw [hsg] at s2
  exact⟨ext m1 [C9 rf.f.cells,C9 rg.f.cells],by simp [f3,D8,trD,I4,z8,p9,o7,A8,C8,j4 hm,j6 hm,F5 hm hl,w9 hm hl,l6 hm,l5 hm,D9,o9,u6,u7,J5,g1,c8,qf1,s1,qga,s2],E01.trans E1b⟩
 | true=>
 rw [hsg] at s2
 have E02:=E01.trans E1b
 have lim:∀{M:Mem},Ext m M→M.lim≤M.next:=fun E=>by rw [E.lim];have:=E.next;omega
 obtain⟨c,i,m3,g3,E3,v3⟩:=ahh E02.ok (lim E02) (hv.ext E02) (fun i h=>(hw i h).ext E02) (by omega) hs n fu hfu
 have E03:=E02.trans E3
 obtain⟨c',i',m4,g4,E4,v4⟩:=Ve E03.ok (lim E03) (hv.ext E03) (fun i h=>(hw i h).ext E03) (by omega) hs (n + 4) fu hfu
 obtain⟨rfl,rfl⟩:=v3.uniq v4
 have E04:=E03.trans E4
 have E14:=(E1b.trans E3).trans E4
 obtain⟨m5,g5,E5⟩:=Va E04.ok (lim E04) ((hf.ext E04).at hsf) n fu hfu hf.ga hf.gb
 have E05:=E04.trans E5
 have E15:=E14.trans E5
 obtain⟨m6,g6,E6⟩:=Iz E05.ok (lim E05) ((hf.ext E05).at hsf) (n + 5) fu hfu hf.ga hf.gb
 have E06:=E05.trans E6
 have E16:=E15.trans E6
 obtain⟨m7,g7,E7⟩:∃M,F9 KW fu (n + 12) (.func 13) [.agg rf.f.cells,.agg rg.f.cells] m6=some [⟨.bool (rf.same rg),M⟩]∧Ext m6 M:=⟨_,jT E06.ok (lim E06) ((hf.ext E06).at hsf) ((hg.ext E06).at hsg) (n + 9) fu hfu,F3 E06.ok _⟩
 have E07:=E06.trans E7
 have E17:=E16.trans E7
 obtain⟨m8,g8,E8⟩:∃M,F9 KW fu (n + 12) (.func 14) [.agg rf.f.cells,.agg rg.f.cells] m7=some [⟨.bool (rf.same rg),M⟩]∧Ext m7 M:=⟨_,Dh E07.ok ((hf.ext E07).at hsf) ((hg.ext E07).at hsg) (n + 9) fu hfu,F3 E07.ok _⟩
 have E08:=E07.trans E8
 have E18:=E17.trans E8
 obtain⟨m9,g9,E9⟩:∃M,F9 KW fu (n + 12) (.func 13) [.agg rf.f.cells,.agg rf.f.cells] m8=some [⟨.bool (rf.same rf),M⟩]∧Ext m8 M:=⟨_,jT E08.ok (lim E08) ((hf.ext E08).at hsf) ((hf.ext E08).at hsf) (n + 9) fu hfu,F3 E08.ok _⟩
 rw [FR.Dp] at g9
 have a4:=qf E14
 have a5:=qf E15
 have a6:=qf E16
 have b6:=qg E16
 have a7:=qf E17
 have b7:=qg E17
 have a8:=qf E18
 have hbq:∀a,jK (.bool a) (.bool a)=some true:=fun a=>by cases a <;> rfl
 have sf:=(hf.at hsf).same
 have sg:=(hg.at hsg).same
 refine⟨m9,?_,E08.trans E9⟩
 cases hvf:eZ rf.f rf.a rf.b rf.l <;> rw [hvf] at g5 g6 <;> simp [f3,D8,trD,I4,z8,p9,o7,A8,C8,j4 hm,j6 hm,F5 hm hl,w9 hm hl,l6 hm,l5 hm,D9,o9,u6,u7,J5,g1,c8,qf1,s1,qga,s2,g3,g4,g5,g6,g7,g8,g9,a4,a5,a6,b6,a7,b7,a8,sf,sg,hbq]
end Go.Proofs.YtefodipjjofocaaGreatDoor.TT
namespace Go.AM
open Go
def stT (P:Program)(t:TypeId):Option (List TypeId):=match P.underlying t with
 | some (.struct fs)=>some (fs.toList.map (·.type))
 | _=>none
def slT (P:Program)(t:TypeId):Option TypeId:=match P.underlying t with
 | some (.slice e)=>some e
 | _=>none
def inT (P:Program)(t:TypeId):Option IntKind:=match P.underlying t with
 | some (.int k)=>some k
 | _=>none
def Gr (S:TypeId→List l8→Prop):List TypeId→List l8→Prop
 | [],vs=>vs=[]
 | t :: ts,vs=>∃a b,vs=a ++ b∧S t a∧Gr S ts b
theorem zS {S:TypeId→List l8→Prop}:∀fs vs,AP S fs vs→Gr S (fs.map (·.type)) vs
 | [],_,h=>h
 | _ :: fs,_,⟨a,b,h1,h2,h3⟩=>⟨a,b,h1,h2,zS fs b h3⟩
theorem rU {P:Program}{m:Mem}{n:Nat}{t:TypeId}{ts:List TypeId}{vs:List l8}(h:stT P t=some ts)(hs:shp P m (n + 1) t vs):Gr (shp P m n) ts vs:=by
 unfold shp at hs
 unfold stT at h
 split at h
 ·rename_i fs hu
  rw [hu] at hs
  cases h
  exact zS _ _ hs
 ·cases h
theorem Dq {P:Program}{m:Mem}{n:Nat}{t:TypeId}{k:IntKind}{vs:List l8}(h:inT P t=some k)(hs:shp P m (n + 1) t vs):∃i,vs=[.int k i]∧(Lit.int k i).wf=true:=by
 unfold shp at hs
 unfold inT at h
 split at h
 ·rename_i k' hu
  rw [hu] at hs
  cases h
  exact hs
 ·cases h
theorem wu {P:Program}{m:Mem}{n:Nat}{t e:TypeId}{vs:List l8}(h:slT P t=some e)(hs:shp P m (n + 1) t vs):vs=[.nilSlice]∨∃id len cap,vs=[.slice id 0 len cap]∧len≤cap∧cap≤maxLen∧
        ((cap=0∧m.get id=some .dead)∨∃rows,0 < cap∧m.get id=some (.cells (P.cellsOf e) cap rows)∧∀i,i < cap→∃row,rows.get i=some row∧row.length=P.cellsOf e∧shp P m n e row):=by
 unfold shp at hs
 unfold slT at h
 split at h
 ·rename_i e' hu
  rw [hu] at hs
  cases h
  exact hs
 ·cases h
end Go.AM
namespace Go.Proofs.YtefodipjjofocaaGreatDoor.TT
open Go Go.AM
theorem t3:inT Tryz.prog 3=some .i64:=by kernel_rfl
theorem t33:slT Tryz.prog 33=some 3:=by kernel_rfl
theorem t22:slT Tryz.prog 22=some 41:=by kernel_rfl
theorem c3:Tryz.prog.cellsOf 3=1:=by kernel_rfl
theorem c41:Tryz.prog.cellsOf 41=32:=by kernel_rfl
theorem t41:stT Tryz.prog 41=some [3,3,3,3,24,28,30,32,35,37,39]:=by kernel_rfl
theorem t24:stT Tryz.prog 24=some [3,3]:=by kernel_rfl
theorem t26:stT Tryz.prog 26=some [3,3]:=by kernel_rfl
theorem t28:stT Tryz.prog 28=some [3,3,3,24,26,3]:=by kernel_rfl
theorem t30:stT Tryz.prog 30=some [3,3]:=by kernel_rfl
theorem t32:stT Tryz.prog 32=some [3,24,3]:=by kernel_rfl
theorem t35:stT Tryz.prog 35=some [3,3,33,33,3,3,24]:=by kernel_rfl
theorem t37:stT Tryz.prog 37=some [3,33]:=by kernel_rfl
theorem t39:stT Tryz.prog 39=some [3,3]:=by kernel_rfl
end Go.Proofs.YtefodipjjofocaaGreatDoor.TT
namespace Go.Proofs.YtefodipjjofocaaGreatDoor.TT
open Go Go.AM
set_option linter.unusedSimpArgs false
set_option linter.unusedVariables false
set_option maxRecDepth 100000
set_option maxHeartbeats 2000000
theorem zT {m:Mem}(hm:m.Ok){i:Nat}{b:Blk}(h:m.get i=some b):i < m.next:=Mem.K6 hm h
abbrev IE (m:Mem)(n:Nat):=Gr (shp Tryz.prog m n)
theorem Vh {i:Int}(h:(Lit.int .i64 i).wf=true):eu i:=by
 simp only [Lit.wf,Bool.and_eq_true,decide_eq_true_eq] at h
 have h1:IntKind.min .i64=-9223372036854775808:=by decide +kernel
 have h2:IntKind.max .i64=9223372036854775807:=by decide +kernel
 rw [h1,h2] at h
 exact⟨h.1,by omega⟩
theorem U2 {m:Mem}{n:Nat}{ts:List TypeId}{vs:List l8}(h:IE m (n + 1) (3 :: ts) vs):∃i w,vs=.int .i64 i :: w∧eu i∧IE m (n + 1) ts w:=by
 obtain⟨a,b,rfl,ha,hb⟩:=h
 obtain⟨i,rfl,hi⟩:=Dq t3 ha
 exact⟨i,b,rfl,Vh hi,hb⟩
theorem pR {m:Mem}{n:Nat}{t:TypeId}{us ts:List TypeId}{vs:List l8}(ht:stT Tryz.prog t=some us)(h:IE m (n + 1) (t :: ts) vs):∃a w,vs=a ++ w∧IE m n us a∧IE m (n + 1) ts w:=by
 obtain⟨a,b,rfl,ha,hb⟩:=h
 exact⟨a,b,rfl,rU ht ha,hb⟩
theorem ahk {m:Mem}(hm:m.Ok){n:Nat}{vs:List l8}(h:shp Tryz.prog m (n + 2) 33 vs):∃v xs,vs=[v]∧bV m v xs:=by
 rcases wu t33 h with rfl | ⟨id,len,cap,rfl,hlc,_,hr⟩
 ·exact⟨_,[],rfl,.inl ⟨rfl,rfl⟩⟩
 ·rcases hr with⟨rfl,hd⟩ | ⟨rows,hc,hb,hrow⟩
  ·obtain rfl:len=0:=by omega
   exact⟨_,[],rfl,.inr ⟨id,.inl ⟨0,rfl⟩,zT hm hd,.inl rfl⟩⟩
  ·let g:Nat→Int:=fun i=>match rows.get i with
    | some [.int _ x]=>x
    | _=>0
   refine⟨_,(List.range len).map g,rfl,.inr ⟨id,.inl ⟨cap,by simp⟩,zT hm hb,.inr ⟨cap,rows,by rw [hb,c3],by simpa using hlc,fun i hi=>?_⟩⟩⟩
   have hi':i < len:=by simpa using hi
   obtain⟨row,h1,_,h2⟩:=hrow i (by omega)
   obtain⟨x,rfl,_⟩:=Dq t3 h2
   rw [h1]
   simp only [List.getElem_map,List.getElem_range]
   show some [l8.int .i64 x]=some [.int .i64 (g i)]
   simp only [g,h1]
theorem LK {m:Mem}(hm:m.Ok){n:Nat}{ts:List TypeId}{vs:List l8}(h:IE m (n + 2) (33 :: ts) vs):∃v xs w,vs=v :: w∧bV m v xs∧IE m (n + 2) ts w:=by
 obtain⟨a,b,rfl,ha,hb⟩:=h
 obtain⟨v,xs,rfl,hv⟩:=ahk hm ha
 exact⟨v,xs,b,rfl,hv,hb⟩
theorem tV {m:Mem}(hm:m.Ok){n:Nat}{vs:List l8}(h0:shp Tryz.prog m (n + 6) 41 vs):∃r:FR,vs=r.f.cells∧nU m r:=by
 have h:IE m (n + 5) [3,3,3,3,24,28,30,32,35,37,39] vs:=rU t41 h0
 obtain⟨room,wq0,rfl,broom,q0⟩:=U2 h
 obtain⟨no,wq1,rfl,bno,q1⟩:=U2 q0
 obtain⟨known,wq2,rfl,bknown,q2⟩:=U2 q1
 obtain⟨kind,wq3,rfl,bkind,q3⟩:=U2 q2
 obtain⟨aq4,wq4,rfl,rq4,q4⟩:=pR t24 q3
 obtain⟨flo,wq5,rfl,bflo,q5⟩:=U2 rq4
 obtain⟨fhi,wq6,rfl,bfhi,q6⟩:=U2 q5
 obtain rfl:=q6
 obtain⟨aq8,wq8,rfl,rq8,q8⟩:=pR t28 q4
 obtain⟨gid,wq9,rfl,bgid,q9⟩:=U2 rq8
 obtain⟨made,wq10,rfl,bmade,q10⟩:=U2 q9
 obtain⟨nom,wq11,rfl,bnom,q11⟩:=U2 q10
 obtain⟨aq12,wq12,rfl,rq12,q12⟩:=pR t24 q11
 obtain⟨tlo,wq13,rfl,btlo,q13⟩:=U2 rq12
 obtain⟨thi,wq14,rfl,bthi,q14⟩:=U2 q13
 obtain rfl:=q14
 obtain⟨aq16,wq16,rfl,rq16,q16⟩:=pR t26 q12
 obtain⟨gn,wq17,rfl,bgn,q17⟩:=U2 rq16
 obtain⟨gd,wq18,rfl,bgd,q18⟩:=U2 q17
 obtain rfl:=q18
 obtain⟨wear,wq20,rfl,bwear,q20⟩:=U2 q16
 obtain rfl:=q20
 obtain⟨aq22,wq22,rfl,rq22,q22⟩:=pR t30 q8
 obtain⟨ug,wq23,rfl,bug,q23⟩:=U2 rq22
 obtain⟨ud,wq24,rfl,bud,q24⟩:=U2 q23
 obtain rfl:=q24
 obtain⟨aq26,wq26,rfl,rq26,q26⟩:=pR t32 q22
 obtain⟨lg,wq27,rfl,blg,q27⟩:=U2 rq26
 obtain⟨aq28,wq28,rfl,rq28,q28⟩:=pR t24 q27
 obtain⟨ll,wq29,rfl,bll,q29⟩:=U2 rq28
 obtain⟨lh,wq30,rfl,blh,q30⟩:=U2 q29
 obtain rfl:=q30
 obtain⟨lw,wq32,rfl,blw,q32⟩:=U2 q28
 obtain rfl:=q32
 obtain⟨aq34,wq34,rfl,rq34,q34⟩:=pR t35 q26
 obtain⟨cid,wq35,rfl,bcid,q35⟩:=U2 rq34
 obtain⟨cday,wq36,rfl,bcday,q36⟩:=U2 q35
 obtain⟨A,xa,wq37,rfl,sA,q37⟩:=LK hm q36
 obtain⟨B,xb,wq38,rfl,sB,q38⟩:=LK hm q37
 obtain⟨diff,wq39,rfl,bdiff,q39⟩:=U2 q38
 obtain⟨err,wq40,rfl,berr,q40⟩:=U2 q39
 obtain⟨aq41,wq41,rfl,rq41,q41⟩:=pR t24 q40
 obtain⟨hlo,wq42,rfl,bhlo,q42⟩:=U2 rq41
 obtain⟨hhi,wq43,rfl,bhhi,q43⟩:=U2 q42
 obtain rfl:=q43
 obtain rfl:=q41
 obtain⟨aq46,wq46,rfl,rq46,q46⟩:=pR t37 q34
 obtain⟨mday,wq47,rfl,bmday,q47⟩:=U2 rq46
 obtain⟨L,xl,wq48,rfl,sL,q48⟩:=LK hm q47
 obtain rfl:=q48
 obtain⟨aq50,wq50,rfl,rq50,q50⟩:=pR t39 q46
 obtain⟨tr,wq51,rfl,btr,q51⟩:=U2 rq50
 obtain⟨tn,wq52,rfl,btn,q52⟩:=U2 q51
 obtain rfl:=q52
 obtain rfl:=q50
 exact⟨⟨{room:=room,no:=no,known:=known,kind:=kind,flo:=flo,fhi:=fhi,gid:=gid,made:=made,nom:=nom,tlo:=tlo,thi:=thi,gn:=gn,gd:=gd,wear:=wear,ug:=ug,ud:=ud,lg:=lg,ll:=ll,lh:=lh,lw:=lw,cid:=cid,cday:=cday,A:=A,B:=B,diff:=diff,err:=err,hlo:=hlo,hhi:=hhi,mday:=mday,L:=L,tr:=tr,tn:=tn},xa,xb,xl⟩,rfl,⟨sA,sB,sL,bgn,bgd⟩⟩
theorem Gs {m:Mem}(hm:m.Ok){n:Nat}{vs:List l8}(h:shp Tryz.prog m (n + 7) 22 vs):∃v fs,vs=[v]∧rQ m v fs∧∀i (h:i < fs.length),nU m fs[i]:=by
 rcases wu t22 h with rfl | ⟨id,len,cap,rfl,hlc,_,hr⟩
 ·exact⟨_,[],rfl,.inl ⟨rfl,rfl⟩,fun i h=>by simp at h⟩
 ·rcases hr with⟨rfl,hd⟩ | ⟨rows,hc,hb,hrow⟩
  ·obtain rfl:len=0:=by omega
   exact⟨_,[],rfl,.inr ⟨id,.inl ⟨0,rfl⟩,zT hm hd,.inl rfl⟩,fun i h=>by simp at h⟩
  ·have hg:∀i,∃r:FR,i < cap→rows.get i=some r.f.cells∧nU m r:=fun i=>by
    by_cases hi:i < cap
    ·obtain⟨row,h1,_,h2⟩:=hrow i hi
     obtain⟨r,rfl,h3⟩:=tV hm h2
     exact⟨r,fun _=>⟨h1,h3⟩⟩
    ·obtain⟨row,h1,_,h2⟩:=hrow 0 hc
     obtain⟨r,_,_⟩:=tV hm h2
     exact⟨r,fun h=>absurd h hi⟩
   let g:Nat→FR:=fun i=>Classical.choose (hg i)
   have gs:∀i,i < cap→rows.get i=some (g i).f.cells∧nU m (g i):=fun i=>Classical.choose_spec (hg i)
   refine⟨_,(List.range len).map g,rfl,.inr ⟨id,.inl ⟨cap,by simp⟩,zT hm hb,.inr ⟨cap,rows,by rw [hb,c41],by simpa using hlc,fun i hi=>?_⟩⟩,fun i hi=>?_⟩
   ·have hi':i < len:=by simpa using hi
    simp only [List.getElem_map,List.getElem_range]
    exact (gs i (by omega)).1
   ·have hi':i < len:=by simpa using hi
    simp only [List.getElem_map,List.getElem_range]
    exact (gs i (by omega)).2
end Go.Proofs.YtefodipjjofocaaGreatDoor.TT
