/- The law BenchLexes answers true on every text; conditions: the memory holds what the arguments say. -/
import Derived.Test.YteecnooaopfkeaaGreatDoorLD1
set_option linter.unusedSimpArgs false
set_option linter.unusedVariables false
namespace Go.Proofs.YteecnooaopfkeaaGreatDoor.TT
open Go Go.AM
set_option maxRecDepth 100000
set_option maxHeartbeats 8000000
attribute [simp] I J S U Z A V tt ff zaa zab zap zaU zaX zb2 zdn zgH zhf zin
theorem aco {m:Mem}(hm:m.Ok)(hl:m.lim≤m.next)(s:By)(hs:s.length≤8000)(n fu:Nat)(hfu:s.length+20≤fu):
  ∃(v:j3) (e a:Int) (m':Mem),w9 KW fu (n+5) (.func 8) [.str s] m=some [⟨.tuple [v,.int .i64 e,.int .i64 a],m'⟩]∧Ext m m'∧
   match tT 0 s with
   | .inr ts=>mW m.next 2 m' v (P6 ts)∧ts.length≤s.length∧e=0∧a=-1
   | .inl j=>v=.nilSlice∧e=7∧a=(j:Int):=by
 have hM:(m.new (.siter s 0)).Ok:=Mem.Ok.new hm _
 have g:=QV (p:=m.next) (n:=n) (fu:=fu) s (by omega) hfu s.length 0 (by omega) (by omega) 0 [] .undef .undef .undef .undef .undef .undef .undef .undef .nilSlice .undef (m.new (.siter s 0)) fu hM (by simpa using hl) (by simp) (pF hm _ rfl)
  ⟨by omega,.inr (.inl fun i hi h1 h2=>by omega)⟩ (mW.nil _ _ _) (by simp) (by omega)
 have rs:∀cf ls env mm x,x ls env=.str s→qA x cf ls env mm=some [⟨.ptr mm.next 0,mm.new (.siter s 0)⟩]:=fun cf ls env mm x hx=>by
  show pO (x ls env) _=_
  rw [hx];rfl
 have e1:decide ((8000:Int)<(s.length:Int))=false:=decide_eq_false (by omega)
 have hE:∀M',Fr (m.next+1) m.next (m.new (.siter s 0)) M'→Ext m M':=fun M' F=>by
  refine⟨F.ok,Nat.le_trans (by simp) F.next,F.lim,fun i hi=>?_⟩
  rw [F.old i (by omega) (by omega),jR hm _ (by omega)]
 rw [show max 0 0=0 from rfl,List.drop_zero] at g
 rcases g with⟨ts,e3,e4,e5,e6,e7,e8,e9,e10,e11,out,e13,M',h1,h2,h3,h4,h5⟩ | ⟨j,e3,e4,e5,e6,e7,e8,e9,e10,e11,out,e13,M',h1,h2,h3⟩
 ·have g':aD (fun env m k=>Er (w9 KW fu (n+4)) fu none env m k) fu (.nd (.nd (.nd (.nd (.nd .e (.int .i64 0) .e) .undef .e) .undef (.nd .e .undef .e)) (.bool false) (.nd (.nd .e .undef .e) .undef (.nd .e .undef .e))) (.str s) (.nd (.nd (.nd (.nd .e (.int .i64 0) .e) .undef .e) .undef (.nd .e .nilSlice .e)) (.ptr m.next 0) (.nd (.nd .e .undef .e) (.int .i64 0) (.nd .e .nilSlice .e)))) (m.new (.siter s 0)) []=_:=h2
  rw [List.nil_append] at h4 h5
  refine⟨out,0,-1,M',?_,hE M' h3,?_⟩
  ·rw [enter (sf:=f8) rfl rfl]
   simp [f8,D6,trD,M7,z8,u7,p8,rs,e1,g']
  ·rw [h1];exact⟨h4.down (by omega),h5,rfl,rfl⟩
 ·have g':aD (fun env m k=>Er (w9 KW fu (n+4)) fu none env m k) fu (.nd (.nd (.nd (.nd (.nd .e (.int .i64 0) .e) .undef .e) .undef (.nd .e .undef .e)) (.bool false) (.nd (.nd .e .undef .e) .undef (.nd .e .undef .e))) (.str s) (.nd (.nd (.nd (.nd .e (.int .i64 0) .e) .undef .e) .undef (.nd .e .nilSlice .e)) (.ptr m.next 0) (.nd (.nd .e .undef .e) (.int .i64 0) (.nd .e .nilSlice .e)))) (m.new (.siter s 0)) []=_:=h2
  refine⟨.nilSlice,7,j,M',?_,hE M' h3,?_⟩
  ·rw [enter (sf:=f8) rfl rfl]
   simp [f8,D6,trD,M7,z8,u7,p8,rs,e1,g']
  ·rw [h1];exact⟨rfl,rfl,rfl⟩
theorem QW {m:Mem}(s:By)(hs:8000<s.length)(n fu:Nat):w9 KW fu (n+1) (.func 8) [.str s] m=some [⟨.tuple [.nilSlice,.int .i64 2,.int .i64 (-1)],m⟩]:=by
 have e1:decide ((8000:Int)<(s.length:Int))=true:=decide_eq_true (by omega)
 rw [enter (sf:=f8) rfl rfl]
 simp [f8,D6,trD,M7,z8,u7,p8,e1]
theorem Nc {x y:OF}{ls:List j3}{env:T j3}{a b:Nat}(hx:x ls env=.int .i64 (a:Int))(hy:y ls env=.int .i64 (b:Int)):pMm false x [y] ls env=some (.int .i64 ((min a b:Nat):Int)):=by
 show ob (mm2 false (x ls env) (y ls env)) some=_
 rw [hx,hy]
 show some (j3.int .i64 (bi (kW (b:Int) (a:Int)) (b:Int) (a:Int)))=_
 by_cases h:b<a
 ·rw [show kW (b:Int) (a:Int)=true from by rw [bJ];simp;omega,H9,Nat.min_eq_right (by omega)]
 ·rw [show kW (b:Int) (a:Int)=false from by rw [bJ];simp;omega,J8,Nat.min_eq_left (by omega)]
theorem acp (b:UInt8)(h:T9 b=true):xg .u8 ((b.toNat:Nat):Int) 48=some (.int .u8 ((b.toNat-48:Nat):Int)):=by
 simp only [T9,Bool.and_eq_true,decide_eq_true_eq] at h
 show some (j3.int .u8 ((((b.toNat:Nat):Int)-48)%256))=_
 congr 2
 omega
theorem Nf {m:Mem}(s:By)(hs:s.length≤100000)(hd:∀b∈s,T9 b=true)(cf:y8)(fu:Nat):∀(j i:Nat),i+j=s.length→∀(c:j3) (N:Nat),j+1≤N→
  aD (fun env m k=>GY cf fu none env m k) N (.nd (.nd (.nd .e (.int .i64 (zu (s.take i):Int)) .e) (.str s) .e) (.int .i64 (i:Int)) (.nd (.nd .e (.int .i64 0) .e) c .e)) m []=some [⟨.exit 0,(.nd (.nd (.nd .e (.int .i64 (zu s:Int)) .e) (.str s) .e) (.int .i64 (s.length:Int)) (.nd (.nd .e (.int .i64 0) .e) (.bool false) .e)),m,[],none⟩]:=by
 intro j
 induction j with
 | zero=>
  intro i hi c N hN
  obtain⟨N,rfl⟩:∃k,N=k+1:=⟨N-1,by omega⟩
  obtain rfl:i=s.length:=by omega
  rw [y7,List.take_of_length_le (Nat.le_refl _)]
  simp [GY,D6,trD,M7,z8,u7,p8]
 | succ j ih=>
  intro i hi c N hN
  obtain⟨N,rfl⟩:∃k,N=k+1:=⟨N-1,by omega⟩
  have hlt:i<s.length:=by omega
  have q:=fun x lo ls env hx hl=>Z7 (x:=x) (lo:=lo) (ls:=ls) (env:=env) (s:=s) (l:=i) hx hl hlt
  have hb:=hd s[i] (List.getElem_mem hlt)
  have e2:=acp s[i] hb
  have hv:=MX (s.take i)
  have hbt:(s[i]).toNat-48<10:=by
   simp only [T9,Bool.and_eq_true,decide_eq_true_eq] at hb;omega
  have e3:w64 (10*(zu (s.take i):Int))=((10*zu (s.take i):Nat):Int):=by rw [kF (by omega) (by omega)];omega
  have cw:∀k:Int,0≤k→k<256→pQ .i64 k=k:=fun k h1 h2=>kF (by omega) (by omega)
  have e4:pQ .i64 (((s[i]).toNat-48:Nat):Int)=(((s[i]).toNat-48:Nat):Int):=cw _ (by omega) (by omega)
  have e5:w64 (((10*zu (s.take i):Nat):Int)+(((s[i]).toNat-48:Nat):Int))=((10*zu (s.take i)+((s[i]).toNat-48):Nat):Int):=by rw [kF (by omega) (by omega)];omega
  have hmm:=fun (x:OF) ls env (hx:x ls env=.int .i64 ((10*zu (s.take i)+((s[i]).toNat-48):Nat):Int))=>Nc (x:=x) (y:=x9 (.int .i64 9007199254740993)) (ls:=ls) (env:=env) (a:=10*zu (s.take i)+((s[i]).toNat-48)) (b:=9007199254740993) hx rfl
  have e6:min (10*zu (s.take i)+((s[i]).toNat-48)) 9007199254740993=zu (s.take (i+1)):=by
   rw [List.take_succ_eq_append_getElem hlt,He]
  simp only [e6] at hmm
  have g:=ih (i+1) (by omega) (.bool true) N (by omega)
  rw [y7,← g]
  generalize hA:10*zu (s.take i)=A at *
  generalize hB:(s[i]).toNat-48=B at *
  simp only [Int.natCast_add] at e5
  simp [GY,D6,trD,M7,z8,u7,p8,hlt,q,e2,e3,e4,e5,hmm,Z6 (i:=i) (by omega)]
theorem QX (s:By)(hs:s.length≤100000)(hd:∀b∈s,T9 b=true)(n fu:Nat)(hfu:s.length+1≤fu)(m:Mem):w9 KW fu (n+1) (.func 53) [.str s] m=some [⟨.int .i64 (zu s:Int),m⟩]:=by
 have g:=Nf (m:=m) s hs hd (w9 KW fu n) fu s.length 0 (by omega) .undef fu (by omega)
 have g':aD (fun env m k=>GY (w9 KW fu n) fu none env m k) fu (.nd (.nd (.nd .e (.int .i64 0) .e) (.str s) .e) (.int .i64 0) (.nd (.nd .e (.int .i64 0) .e) .undef .e)) m []=_:=g
 rw [enter (sf:=f53) rfl rfl]
 simp [f53,D6,trD,M7,z8,u7,p8,g']
theorem Ng {m:Mem}{v:j3}(l:List By)(hlen:l.length≤100000)(hv:nk m v (strs l))(s:By)(cf:y8)(fu:Nat):∀(j i:Nat),i+j=l.length→∀(c x:j3) (N:Nat),j+1≤N→
  ∃i' c' x':j3,aD (fun env m k=>Ed cf fu none env m k) N (.nd (.nd (.nd .e (.str s) .e) v (.nd .e (.bool false) .e)) (.int .i64 (i:Int)) (.nd (.nd .e x .e) c .e)) m [] =
   bi ((l.drop i).any fun t=>decide (s=t)) (some [⟨.ret,(.nd (.nd (.nd .e (.str s) .e) v (.nd .e (.bool true) .e)) i' (.nd (.nd .e x' .e) c' .e)),m,[],none⟩]) (some [⟨.exit 0,(.nd (.nd (.nd .e (.str s) .e) v (.nd .e (.bool false) .e)) i' (.nd (.nd .e x' .e) c' .e)),m,[],none⟩]):=by
 intro j
 induction j with
 | zero=>
  intro i hi c x N hN
  obtain⟨N,rfl⟩:∃k,N=k+1:=⟨N-1,by omega⟩
  obtain rfl:i=l.length:=by omega
  have hn:=hv.len
  rw [jU] at hn
  refine⟨.int .i64 (l.length:Int),.bool false,x,?_⟩
  rw [y7,List.drop_of_length_le (Nat.le_refl _)]
  simp [Ed,D6,trD,M7,z8,u7,p8,hn]
 | succ j ih=>
  intro i hi c x N hN
  obtain⟨N,rfl⟩:∃k,N=k+1:=⟨N-1,by omega⟩
  have hlt:i<l.length:=by omega
  have hn:=hv.len
  rw [jU] at hn
  obtain⟨id,off,g1,g2,g3⟩:=hv.at (i:=i) (by rw [jU];omega)
  have e3:(strs l)[i]'(by rw [jU];exact hlt)=.str l[i]:=List.getElem_map ..
  rw [e3] at g3
  have hd:l.drop i=l[i]::l.drop (i+1):=List.drop_eq_getElem_cons hlt
  by_cases ht:s=l[i]
  ·refine⟨.int .i64 (i:Int),.bool true,.bool true,?_⟩
   have ht':decide (l[i]=s)=true:=decide_eq_true ht.symm
   rw [y7,hd,List.any_cons,decide_eq_true ht,Bool.true_or]
   simp [Ed,D6,trD,M7,z8,u7,p8,hn,hlt,g1,g3,ht']
  ·have ht':decide (l[i]=s)=false:=decide_eq_false fun e=>ht e.symm
   obtain⟨i',c',x',gg⟩:=ih (i+1) (by omega) (.bool true) (.bool false) N (by omega)
   refine⟨i',c',x',?_⟩
   rw [y7,hd,List.any_cons,decide_eq_false ht,Bool.false_or,← gg]
   simp [Ed,D6,trD,M7,z8,u7,p8,hn,hlt,g1,g3,ht',Z6 (i:=i) (by omega)]
theorem Hz {m:Mem}{v:j3}(l:List By)(hlen:l.length≤1000)(hv:nk m v (strs l))(s:By)(n fu:Nat)(hfu:1001≤fu):w9 KW fu (n+1) (.func 54) [v,.str s] m=some [⟨.bool (l.any fun t=>decide (s=t)),m⟩]:=by
 obtain⟨i',c',x',g⟩:=Ng (m:=m) l (by omega) hv s (w9 KW fu n) fu l.length 0 (by omega) .undef .undef fu (by omega)
 have g':aD (fun env m k=>Ed (w9 KW fu n) fu none env m k) fu (.nd (.nd (.nd .e (.str s) .e) v (.nd .e (.bool false) .e)) (.int .i64 0) (.nd (.nd .e .undef .e) .undef .e)) m []=_:=g
 rw [List.drop_zero] at g'
 rw [enter (sf:=f54) rfl rfl]
 cases h:l.any fun t=>decide (s=t)<;>rw [h] at g'<;>simp [f54,D6,trD,M7,z8,u7,p8,g']
attribute [simp] I J S U Z A V tt ff zaa zab zap zaU zaX zb2 zdn zgH zhf zin
theorem HV {m:Mem}{n fu a:Nat}{b2 b6:j3}(s:By)(hs:s.length≤100000)(ha:a<s.length):∀(j i:Nat),a≤i→i+j=a+H8 ldB (s.drop a)→∀(c:j3) (N:Nat),j+1≤N→
  aD (fun env m k=>Ec (w9 KW fu (n+1)) fu none env m k) N (.nd (.nd (.nd (.nd .e .undef .e) (.int .i64 (i:Int)) (.nd .e (.int .i64 0) .e)) (.str s) (.nd (.nd .e .undef .e) .undef .e)) (.int .i64 (a:Int)) (.nd (.nd (.nd .e .undef .e) c (.nd .e (.int .i64 0) .e)) b2 (.nd (.nd .e .undef .e) .undef .e))) m []=some [⟨.exit 0,(.nd (.nd (.nd (.nd .e .undef .e) (.int .i64 ((a+H8 ldB (s.drop a):Nat):Int)) (.nd .e (.int .i64 0) .e)) (.str s) (.nd (.nd .e .undef .e) .undef .e)) (.int .i64 (a:Int)) (.nd (.nd (.nd .e .undef .e) (.bool false) (.nd .e (.int .i64 0) .e)) b2 (.nd (.nd .e .undef .e) .undef .e))),m,[],none⟩]:=by
 have hle:=X7 ldB (s.drop a)
 rw [List.length_drop] at hle
 intro j
 induction j with
 | zero=>
  intro i hi hi2 c N hN
  obtain⟨N,rfl⟩:∃k,N=k+1:=⟨N-1,by omega⟩
  obtain rfl:i=a+H8 ldB (s.drop a):=by omega
  rw [y7]
  by_cases hl:a+H8 ldB (s.drop a)<s.length
  ·have q:=fun x lo ls env hx hl'=>Z7 (x:=x) (lo:=lo) (ls:=ls) (env:=env) (s:=s) (l:=a+H8 ldB (s.drop a)) hx hl' hl
   have hb:=jV ldB (s.drop a) (by rw [List.length_drop];omega)
   rw [List.getElem_drop] at hb
   obtain⟨i,hI⟩:∃i,i=a+H8 ldB (s.drop a):=⟨_,rfl⟩
   simp only [← hI] at hb q hl ⊢
   have h51:=Ht s[i] n fu m
   have h52:=zB s[i] n fu m
   simp only [ldB,Bool.or_eq_false_iff] at hb
   rw [hb.1] at h51;rw [hb.2] at h52
   have e1:decide ((i:Int)<(s.length:Int))=true:=decide_eq_true (by omega)
   simp [Ec,D6,trD,M7,z8,u7,p8,e1,hl,q,h51,h52]
  ·obtain⟨i,hI⟩:∃i,i=a+H8 ldB (s.drop a):=⟨_,rfl⟩
   simp only [← hI] at hl ⊢
   have e1:decide ((i:Int)<(s.length:Int))=false:=decide_eq_false (by omega)
   simp [Ec,D6,trD,M7,z8,u7,p8,e1,hl]
 | succ j ih=>
  intro i hi hi2 c N hN
  obtain⟨N,rfl⟩:∃k,N=k+1:=⟨N-1,by omega⟩
  have hl:i<s.length:=by omega
  have q:=fun x lo ls env hx hl'=>Z7 (x:=x) (lo:=lo) (ls:=ls) (env:=env) (s:=s) (l:=i) hx hl' hl
  have e1:decide ((i:Int)<(s.length:Int))=true:=decide_eq_true (by omega)
  have hb:=jC ldB (s.drop a) (i-a) (by rw [List.length_drop];omega) (by omega)
  rw [List.getElem_drop] at hb
  simp only [show a+(i-a)=i from by omega] at hb
  have h51:=Ht s[i] n fu m
  have h52:=zB s[i] n fu m
  have gg:=ih (i+1) (by omega) (by omega) (.bool true) N (by omega)
  rw [y7,← gg]
  simp only [ldB,Bool.or_eq_true] at hb
  cases hA:Cy s[i] with
  | true=>rw [hA] at h51;simp [Ec,D6,trD,M7,z8,u7,p8,e1,hl,q,h51,Z6 (i:=i) (by omega)]
  | false=>
   rw [hA] at h51
   rw [hb.resolve_left (by rw [hA];decide)] at h52
   simp [Ec,D6,trD,M7,z8,u7,p8,e1,hl,q,h51,h52,Z6 (i:=i) (by omega)]
theorem HY {m:Mem}{n fu a:Nat}{b2 b6:j3}(s:By)(hs:s.length≤100000)(ha:a<s.length):∀(j i:Nat),a≤i→i+j=a+H8 T9 (s.drop a)→∀(c:j3) (N:Nat),j+1≤N→
  aD (fun env m k=>GX (w9 KW fu (n+1)) fu none env m k) N (.nd (.nd (.nd (.nd .e c .e) (.int .i64 (i:Int)) (.nd .e (.int .i64 0) .e)) (.str s) (.nd (.nd .e .undef .e) .undef .e)) (.int .i64 (a:Int)) (.nd (.nd (.nd .e .undef .e) .undef (.nd .e (.int .i64 0) .e)) b2 (.nd (.nd .e .undef .e) b6 .e))) m []=some [⟨.exit 2,(.nd (.nd (.nd (.nd .e (.bool false) .e) (.int .i64 ((a+H8 T9 (s.drop a):Nat):Int)) (.nd .e (.int .i64 0) .e)) (.str s) (.nd (.nd .e .undef .e) .undef .e)) (.int .i64 (a:Int)) (.nd (.nd (.nd .e .undef .e) .undef (.nd .e (.int .i64 0) .e)) b2 (.nd (.nd .e .undef .e) b6 .e))),m,[],none⟩]:=by
 have hle:=X7 T9 (s.drop a)
 rw [List.length_drop] at hle
 intro j
 induction j with
 | zero=>
  intro i hi hi2 c N hN
  obtain⟨N,rfl⟩:∃k,N=k+1:=⟨N-1,by omega⟩
  obtain rfl:i=a+H8 T9 (s.drop a):=by omega
  rw [y7]
  by_cases hl:a+H8 T9 (s.drop a)<s.length
  ·have q:=fun x lo ls env hx hl'=>Z7 (x:=x) (lo:=lo) (ls:=ls) (env:=env) (s:=s) (l:=a+H8 T9 (s.drop a)) hx hl' hl
   have hb:=jV T9 (s.drop a) (by rw [List.length_drop];omega)
   rw [List.getElem_drop] at hb
   obtain⟨i,hI⟩:∃i,i=a+H8 T9 (s.drop a):=⟨_,rfl⟩
   simp only [← hI] at hb q hl ⊢
   have h52:=zB s[i] n fu m
   rw [hb] at h52
   have e1:decide ((i:Int)<(s.length:Int))=true:=decide_eq_true (by omega)
   simp [GX,D6,trD,M7,z8,u7,p8,e1,hl,q,h52]
  ·obtain⟨i,hI⟩:∃i,i=a+H8 T9 (s.drop a):=⟨_,rfl⟩
   simp only [← hI] at hl ⊢
   have e1:decide ((i:Int)<(s.length:Int))=false:=decide_eq_false (by omega)
   simp [GX,D6,trD,M7,z8,u7,p8,e1,hl]
 | succ j ih=>
  intro i hi hi2 c N hN
  obtain⟨N,rfl⟩:∃k,N=k+1:=⟨N-1,by omega⟩
  have hl:i<s.length:=by omega
  have q:=fun x lo ls env hx hl'=>Z7 (x:=x) (lo:=lo) (ls:=ls) (env:=env) (s:=s) (l:=i) hx hl' hl
  have e1:decide ((i:Int)<(s.length:Int))=true:=decide_eq_true (by omega)
  have hb:=jC T9 (s.drop a) (i-a) (by rw [List.length_drop];omega) (by omega)
  rw [List.getElem_drop] at hb
  simp only [show a+(i-a)=i from by omega] at hb
  have h52:=zB s[i] n fu m
  have gg:=ih (i+1) (by omega) (by omega) (.bool true) N (by omega)
  rw [y7,← gg]
  rw [hb] at h52
  simp [GX,D6,trD,M7,z8,u7,p8,e1,hl,q,h52,Z6 (i:=i) (by omega)]
def kT:List By:=ones.map ([·])
theorem Ti (ls:List j3)(env:T j3)(nid:Nat):F6 1 14 [.str []] [(0,1,x9 (.str [123])),(1,1,x9 (.str [125])),(2,1,x9 (.str [40])),(3,1,x9 (.str [41])),(4,1,x9 (.str [44])),(5,1,x9 (.str [59])),(6,1,x9 (.str [61])),(7,1,x9 (.str [43])),(8,1,x9 (.str [45])),(9,1,x9 (.str [42])),(10,1,x9 (.str [47])),(11,1,x9 (.str [37])),(12,1,x9 (.str [60])),(13,1,x9 (.str [62]))] ls env nid =
  some (.slice nid 0 14 14,some (.cells 1 14 (T.ofList ((strs kT).map ([·]))))):=rfl
theorem CJ (b:UInt8):(kT.any fun t=>decide ([b]=t))=ones.contains b:=by
 rw [kT,List.any_map,List.contains_eq_any_beq]
 congr 1
 funext c
 show decide ([b]=[c])=(b==c)
 rw [Bool.eq_iff_iff];simp
theorem QY {m:Mem}(hm:m.Ok)(s:By)(hs:s.length≤100000)(a:Nat)(ha:a<s.length)(n fu:Nat)(hfu:s.length+1010≤fu):
  ∃(l k:Int) (m':Mem),w9 KW fu (n+2) (.func 27) [.str s,.int .i64 (a:Int)] m=some [⟨.tuple [.int .i64 l,.int .i64 k],m'⟩]∧Ext m m'∧
   match nu (s.drop a) with
   | none=>l=0
   | some p=>l=(p.2:Int)∧k=(p.1:Int):=by
 have hdr:s.drop a=s[a]::s.drop (a+1):=List.drop_eq_getElem_cons ha
 have q0:=fun x lo ls env hx hl'=>Z7 (x:=x) (lo:=lo) (ls:=ls) (env:=env) (s:=s) (l:=a) hx hl' ha
 have c51:=Ht s[a] n fu m
 have c52:=zB s[a] n fu m
 have ht:∀P,(nu (s.drop a)=P)=(nu (s[a]::s.drop (a+1))=P):=fun P=>by rw [← hdr]
 by_cases h1:Cy s[a]=true
 ·rw [h1] at c51
  have hr1:1≤H8 ldB (s.drop a):=by rw [hdr,H8,if_pos (by simp [ldB,h1])];omega
  have hle:=X7 ldB (s.drop a)
  rw [List.length_drop] at hle
  have g:=HV (m:=m) (n:=n) (fu:=fu) (b2:=.bool true) (b6:=.undef) s hs ha (H8 ldB (s.drop a)) a (Nat.le_refl _) rfl .undef fu (by omega)
  have e:w64 (((a+H8 ldB (s.drop a):Nat):Int)-(a:Int))=((H8 ldB (s.drop a):Nat):Int):=by rw [kF (by omega) (by omega)];omega
  have htk:nu (s.drop a)=if H8 ldB (s.drop a)≤16 then some (1,H8 ldB (s.drop a)) else none:=by
   rw [hdr,nu,if_pos h1]
  rw [htk]
  generalize hR:H8 ldB (s.drop a)=R at *
  simp only [Int.natCast_add] at g e
  by_cases h:R≤16
  ·have e16:decide ((16:Int)<(R:Int))=false:=decide_eq_false (by omega)
   refine⟨(R:Int),1,m,?_,Ext.refl hm,by rw [if_pos h];exact⟨rfl,rfl⟩⟩
   rw [enter (sf:=f27) rfl rfl]
   simp [f27,D6,trD,M7,z8,u7,p8,q0,c51,g,e,e16,-Int.natCast_add]
  ·have e16:decide ((16:Int)<(R:Int))=true:=decide_eq_true (by omega)
   refine⟨0,0,m,?_,Ext.refl hm,by rw [if_neg h]⟩
   rw [enter (sf:=f27) rfl rfl]
   simp [f27,D6,trD,M7,z8,u7,p8,q0,c51,g,e,e16,-Int.natCast_add]
 ·have h1':Cy s[a]=false:=by simpa using h1
  rw [h1'] at c51
  by_cases h2:T9 s[a]=true
  ·rw [h2] at c52
   have hr1:1≤H8 T9 (s.drop a):=by rw [hdr,H8,if_pos h2];omega
   have hle:=X7 T9 (s.drop a)
   rw [List.length_drop] at hle
   have g:=HY (m:=m) (n:=n) (fu:=fu) (b2:=.bool false) (b6:=.bool true) s hs ha (H8 T9 (s.drop a)) a (Nat.le_refl _) rfl .undef fu (by omega)
   have e:w64 (((a+H8 T9 (s.drop a):Nat):Int)-(a:Int))=((H8 T9 (s.drop a):Nat):Int):=by rw [kF (by omega) (by omega)];omega
   have htk:nu (s.drop a)=if (s[a]=48∧1<H8 T9 (s.drop a))∨9007199254740992<Es ((s.drop a).take (H8 T9 (s.drop a))) then none else some (2,H8 T9 (s.drop a)):=by
    have:nu (s[a]::s.drop (a+1))=if (s[a]=48∧1<H8 T9 (s[a]::s.drop (a+1)))∨9007199254740992<Es ((s[a]::s.drop (a+1)).take (H8 T9 (s[a]::s.drop (a+1)))) then none else some (2,H8 T9 (s[a]::s.drop (a+1))):=by
     rw [nu,if_neg h1,if_pos h2]
    rwa [← hdr] at this
   have hv:=QX ((s.drop a).take (H8 T9 (s.drop a))) (by simp;omega) (Ho T9 _) n fu (by simp;omega) m
   rw [Hf] at hv
   have q2:=fun x lo hi ls env hx hl hh=>mU (x:=x) (lo:=lo) (hi:=hi) (ls:=ls) (env:=env) (s:=s) (l:=a) (h:=a+H8 T9 (s.drop a)) hx hl hh (by omega) (by omega)
   simp only [Nat.add_sub_cancel_left] at q2
   have h48:decide ((((s[a]).toNat:Nat):Int)=48)=decide (s[a]=48):=by
    rw [Bool.eq_iff_iff];simp only [decide_eq_true_eq]
    exact⟨fun h=>UInt8.toNat_inj.1 (by simp;omega),fun h=>by rw [h];rfl⟩
   rw [htk]
   generalize hT:(s.drop a).take (H8 T9 (s.drop a))=tx at *
   generalize hR:H8 T9 (s.drop a)=R at *
   generalize hV:Es tx=Vn at *
   simp only [Int.natCast_add] at g e q2
   by_cases h3:s[a]=48∧1<R
   ·have e1:decide ((1:Int)<(R:Int))=true:=decide_eq_true (by omega)
    have h48':(((s[a]).toNat:Nat):Int)=48:=by rw [h3.1];rfl
    refine⟨0,0,m,?_,Ext.refl hm,by rw [if_pos (.inl h3)]⟩
    rw [enter (sf:=f27) rfl rfl]
    rw [h48'] at c51 c52
    simp [f27,D6,trD,M7,z8,u7,p8,q0,c51,c52,g,e,e1,h48',-Int.natCast_add]
   ·have e3:(decide ((((s[a]).toNat:Nat):Int)=48)&&decide ((1:Int)<(R:Int)))=false:=by
     rw [h48]
     cases h4:decide (s[a]=48) with
     | false=>rfl
     | true=>
      have:¬ 1<R:=fun h=>h3 ⟨of_decide_eq_true h4,h⟩
      rw [decide_eq_false (by omega)];rfl
    by_cases h5:9007199254740992<Vn
    ·have e5:decide ((9007199254740992:Int)<((min Vn 9007199254740993:Nat):Int))=true:=decide_eq_true (by omega)
     refine⟨0,0,m,?_,Ext.refl hm,by rw [if_pos (.inr h5)]⟩
     rw [enter (sf:=f27) rfl rfl]
     generalize min Vn 9007199254740993=mv at *
     cases h4:decide ((((s[a]).toNat:Nat):Int)=48) with
     | false=>
      simp only [decide_eq_false_iff_not] at h4
      simp [f27,D6,trD,M7,z8,u7,p8,q0,c51,c52,g,e,h4,q2,hv,e5,-Int.natCast_add]
     | true=>
      rw [h4,Bool.true_and] at e3
      simp only [decide_eq_true_eq] at h4
      rw [h4] at c51 c52
      simp [f27,D6,trD,M7,z8,u7,p8,q0,c51,c52,g,e,h4,e3,q2,hv,e5,-Int.natCast_add]
    ·have e5:decide ((9007199254740992:Int)<((min Vn 9007199254740993:Nat):Int))=false:=decide_eq_false (by omega)
     refine⟨(R:Int),2,m,?_,Ext.refl hm,by rw [if_neg (by rintro (h | h);exact h3 h;exact h5 h)];exact⟨rfl,rfl⟩⟩
     rw [enter (sf:=f27) rfl rfl]
     generalize min Vn 9007199254740993=mv at *
     cases h4:decide ((((s[a]).toNat:Nat):Int)=48) with
     | false=>
      simp only [decide_eq_false_iff_not] at h4
      simp [f27,D6,trD,M7,z8,u7,p8,q0,c51,c52,g,e,h4,q2,hv,e5,-Int.natCast_add]
     | true=>
      rw [h4,Bool.true_and] at e3
      simp only [decide_eq_true_eq] at h4
      rw [h4] at c51 c52
      simp [f27,D6,trD,M7,z8,u7,p8,q0,c51,c52,g,e,h4,e3,q2,hv,e5,-Int.natCast_add]
  ·have h2':T9 s[a]=false:=by simpa using h2
   rw [h2'] at c52
   have htk:nu (s.drop a)=if ow ((s.drop a).take 2) then some (3,2) else if ones.contains s[a] then some (3,1) else none:=by
    have:nu (s[a]::s.drop (a+1))=if ow ((s[a]::s.drop (a+1)).take 2) then some (3,2) else if ones.contains s[a] then some (3,1) else none:=by
     rw [nu,if_neg h1,if_neg h2]
    rwa [← hdr] at this
   have q1:=fun x lo hi ls env hx hl hh=>mU (x:=x) (lo:=lo) (hi:=hi) (ls:=ls) (env:=env) (s:=s) (l:=a) (h:=a+1) hx hl hh (by omega) (by omega)
   simp only [Nat.add_sub_cancel_left] at q1
   have htk1:(s.drop a).take 1=[s[a]]:=by rw [hdr];rfl
   simp only [htk1] at q1
   have w1:w64 ((a:Int)+1)=((a+1:Nat):Int):=Z6 (by omega)
   rw [htk]
   by_cases ha1:a+1<s.length
   ·have w2:w64 ((a:Int)+2)=((a+2:Nat):Int):=by rw [kF (by omega) (by omega)];rfl
    have q2:=fun x lo hi ls env hx hl hh=>mU (x:=x) (lo:=lo) (hi:=hi) (ls:=ls) (env:=env) (s:=s) (l:=a) (h:=a+2) hx hl hh (by omega) (by omega)
    simp only [Nat.add_sub_cancel_left] at q2
    have hv4:nk (ext m [.cells 1 4 (T.ofList ((strs sgs).map ([·])))]) (.slice m.next 0 4 4) (strs sgs):=CG hm (strs sgs)
    have g4:=Hz (n:=n) (fu:=fu) sgs (by decide) hv4 ((s.drop a).take 2) (by omega)
    rw [Hw] at g4
    have e1:decide (((a+1:Nat):Int)<(s.length:Int))=true:=decide_eq_true (by omega)
    generalize hA1:((a+1:Nat):Int)=A1 at *
    generalize hA2:((a+2:Nat):Int)=A2 at *
    cases h3:ow ((s.drop a).take 2) with
    | true=>
     rw [h3] at g4
     refine⟨2,3,ext m [.cells 1 4 (T.ofList ((strs sgs).map ([·])))],?_,dh hm _,by rw [if_pos rfl];exact⟨rfl,rfl⟩⟩
     rw [enter (sf:=f27) rfl rfl]
     simp [f27,D6,trD,M7,z8,u7,p8,q0,c51,c52,w1,w2,e1,q2,bs4,V8,V9,g4]
    | false=>
     rw [h3] at g4
     have hv14:nk (ext m [.cells 1 4 (T.ofList ((strs sgs).map ([·]))),.cells 1 14 (T.ofList ((strs kT).map ([·])))]) (.slice (m.next+1) 0 14 14) (strs kT):=
      CG (m:=m.new (.cells 1 4 (T.ofList ((strs sgs).map ([·]))))) (Mem.Ok.new hm _) (strs kT)
     have g14:=Hz (n:=n) (fu:=fu) kT (by decide) hv14 [s[a]] (by omega)
     rw [CJ] at g14
     rw [if_neg (by decide)]
     cases h4:ones.contains s[a] with
     | true=>
      rw [h4] at g14
      refine⟨1,3,ext m [.cells 1 4 (T.ofList ((strs sgs).map ([·]))),.cells 1 14 (T.ofList ((strs kT).map ([·])))],?_,dh hm _,by rw [if_pos rfl];exact⟨rfl,rfl⟩⟩
      rw [enter (sf:=f27) rfl rfl]
      simp [f27,D6,trD,M7,z8,u7,p8,q0,c51,c52,w1,w2,e1,q1,q2,bs4,Ti,V8,V9,g4,g14]
     | false=>
      rw [h4] at g14
      refine⟨0,0,ext m [.cells 1 4 (T.ofList ((strs sgs).map ([·]))),.cells 1 14 (T.ofList ((strs kT).map ([·])))],?_,dh hm _,by rw [if_neg (by decide)]⟩
      rw [enter (sf:=f27) rfl rfl]
      simp [f27,D6,trD,M7,z8,u7,p8,q0,c51,c52,w1,w2,e1,q1,q2,bs4,Ti,V8,V9,g4,g14]
   ·have e1:decide (((a+1:Nat):Int)<(s.length:Int))=false:=decide_eq_false (by omega)
    have h3:ow ((s.drop a).take 2)=false:=by
     have hl1:((s.drop a).take 2).length=1:=by simp;omega
     obtain⟨x,hx⟩:=List.length_eq_one_iff.1 hl1
     rw [hx];simp [ow]
    have hv14:nk (ext m [.cells 1 14 (T.ofList ((strs kT).map ([·])))]) (.slice m.next 0 14 14) (strs kT):=CG hm (strs kT)
    have g14:=Hz (n:=n) (fu:=fu) kT (by decide) hv14 [s[a]] (by omega)
    rw [CJ] at g14
    rw [h3,if_neg (by decide)]
    generalize hA1:((a+1:Nat):Int)=A1 at *
    cases h4:ones.contains s[a] with
    | true=>
     rw [h4] at g14
     refine⟨1,3,ext m [.cells 1 14 (T.ofList ((strs kT).map ([·])))],?_,dh hm _,by rw [if_pos rfl];exact⟨rfl,rfl⟩⟩
     rw [enter (sf:=f27) rfl rfl]
     simp [f27,D6,trD,M7,z8,u7,p8,q0,c51,c52,w1,e1,q1,Ti,V8,V9,g14]
    | false=>
     rw [h4] at g14
     refine⟨0,0,ext m [.cells 1 14 (T.ofList ((strs kT).map ([·])))],?_,dh hm _,by rw [if_neg (by decide)]⟩
     rw [enter (sf:=f27) rfl rfl]
     simp [f27,D6,trD,M7,z8,u7,p8,q0,c51,c52,w1,e1,q1,Ti,V8,V9,g14]
attribute [simp] I J S U Z A V tt ff zaa zab zap zaU zaX zb2 zdn zgH zhf zin
theorem adT (b:UInt8):(!decide (((b.toNat:Nat):Int)=10))=(b != 10):=by
 rw [Bool.eq_iff_iff]
 simp only [Bool.not_eq_true',decide_eq_false_iff_not,bne_iff_ne,ne_eq]
 exact not_congr ⟨fun h=>UInt8.toNat_inj.1 (by simp;omega),fun h=>by rw [h];rfl⟩
theorem JL {m:Mem}{p n fu a:Nat}{e4 e5 e6 e8 e9 e10 e11:j3}(s:By)(hs:s.length≤100000)(ha:a≤s.length):∀(j i:Nat),a≤i→i+j=a+H8 (fun c=>c != 10) (s.drop a)→∀(c:j3) (N:Nat),j+1≤N→
  aD (fun env m k=>Qk (w9 KW fu (n+2)) fu none env m k) N (.nd (.nd (.nd (.nd .e c .e) (.int .i64 (i:Int)) (.nd .e e11 .e)) (.bool false) (.nd (.nd .e e9 .e) e5 .e)) (.str s) (.nd (.nd (.nd .e e8 .e) e4 .e) (.ptr p 0) (.nd (.nd .e e10 .e) e6 .e))) m []=some [⟨.exit 2,(.nd (.nd (.nd (.nd .e (.bool false) .e) (.int .i64 ((a+H8 (fun c=>c != 10) (s.drop a):Nat):Int)) (.nd .e e11 .e)) (.bool false) (.nd (.nd .e e9 .e) e5 .e)) (.str s) (.nd (.nd (.nd .e e8 .e) e4 .e) (.ptr p 0) (.nd (.nd .e e10 .e) e6 .e))),m,[],none⟩]:=by
 have hle:=X7 (fun c=>c != 10) (s.drop a)
 rw [List.length_drop] at hle
 intro j
 induction j with
 | zero=>
  intro i hi hi2 c N hN
  obtain⟨N,rfl⟩:∃k,N=k+1:=⟨N-1,by omega⟩
  rw [y7]
  have hI:i=a+H8 (fun c=>c != 10) (s.drop a):=by omega
  rw [← hI]
  by_cases hl:i<s.length
  ·have q:=fun x lo ls env hx hl'=>Z7 (x:=x) (lo:=lo) (ls:=ls) (env:=env) (s:=s) (l:=i) hx hl' hl
   have hb:=jV (fun c=>c != 10) (s.drop a) (by rw [List.length_drop];omega)
   rw [List.getElem_drop] at hb
   simp only [← hI] at hb
   have e1:decide ((i:Int)<(s.length:Int))=true:=decide_eq_true (by omega)
   have e2:=adT s[i]
   rw [hb] at e2
   have e3:(((s[i]).toNat:Nat):Int)=10:=by simpa using e2
   simp [Qk,D6,trD,M7,z8,u7,p8,e1,hl,q,e3]
  ·have e1:decide ((i:Int)<(s.length:Int))=false:=decide_eq_false (by omega)
   simp [Qk,D6,trD,M7,z8,u7,p8,e1,hl]
 | succ j ih=>
  intro i hi hi2 c N hN
  obtain⟨N,rfl⟩:∃k,N=k+1:=⟨N-1,by omega⟩
  have hl:i<s.length:=by omega
  have q:=fun x lo ls env hx hl'=>Z7 (x:=x) (lo:=lo) (ls:=ls) (env:=env) (s:=s) (l:=i) hx hl' hl
  have e1:decide ((i:Int)<(s.length:Int))=true:=decide_eq_true (by omega)
  have hb:=jC (fun c=>c != 10) (s.drop a) (i-a) (by rw [List.length_drop];omega) (by omega)
  rw [List.getElem_drop] at hb
  simp only [show a+(i-a)=i from by omega] at hb
  have e2:=adT s[i]
  rw [hb] at e2
  have e3:¬ (((s[i]).toNat:Nat):Int)=10:=by simpa using e2
  have gg:=ih (i+1) (by omega) (by omega) (.bool true) N (by omega)
  rw [y7,← gg]
  simp [Qk,D6,trD,M7,z8,u7,p8,e1,hl,q,e3,Z6 (i:=i) (by omega)]
def dw (s:By)(p:Nat)(acc:List Tok)(M:Mem)(r:Option (List Out))(l:Sum Nat (List Tok)):Prop:=
 (∃(ts:List Tok) (e3 e4 e5 e6 e7 e8 e9 out e11:j3) (M':Mem),l=.inr ts∧r=some [⟨.exit 0,(.nd (.nd (.nd (.nd .e e7 .e) e3 (.nd .e e11 .e)) (.bool false) (.nd (.nd .e e9 .e) e5 .e)) (.str s) (.nd (.nd (.nd .e e8 .e) e4 .e) (.ptr p 0) (.nd (.nd .e out .e) e6 .e))),M',[],none⟩]∧Fr (p+1) p M M'∧M'.get p=some (Q9 [.nilSlice,.int .i64 0,.int .i64 0])∧mW (p+1) 2 M' out (P6 (acc++ts))∧(acc++ts).length≤s.length)∨
 (∃(j:Nat) (e3 e4 e5 e6 e7 e8 e9 out e11:j3) (M':Mem),l=.inl j∧r=some [⟨.ret,(.nd (.nd (.nd (.nd .e e7 .e) e3 (.nd .e e11 .e)) (.bool false) (.nd (.nd .e e9 .e) e5 .e)) (.str s) (.nd (.nd (.nd .e e8 .e) e4 .e) (.ptr p 0) (.nd (.nd .e out .e) e6 .e))),M',[],none⟩]∧Fr (p+1) p M M'∧M'.get p=some (Q9 [.nilSlice,.int .i64 7,.int .i64 (j:Int)]))
theorem dw.fr {s:By}{p:Nat}{acc:List Tok}{M M1:Mem}{r:Option (List Out)}{l:Sum Nat (List Tok)}(h:dw s p acc M1 r l)(hf:Fr (p+1) p M M1):dw s p acc M r l:=by
 rcases h with⟨ts,e3,e4,e5,e6,e7,e8,e9,out,e11,M',h1,h2,h3,h4⟩ | ⟨j,e3,e4,e5,e6,e7,e8,e9,out,e11,M',h1,h2,h3,h4⟩
 ·exact .inl ⟨ts,e3,e4,e5,e6,e7,e8,e9,out,e11,M',h1,h2,hf.trans h3,h4⟩
 ·exact .inr ⟨j,e3,e4,e5,e6,e7,e8,e9,out,e11,M',h1,h2,hf.trans h3,h4⟩
theorem dw.tok {s:By}{p k l i:Nat}{b:UInt8}{t:By}{acc:List Tok}{M:Mem}{r:Option (List Out)}(hb:¬(b=32∨b=10))(h1:b≠35)(ht:nu (b::t)=some (k,l))
  (h:dw s p (acc ++ [(k,(b::t).take l)]) M r (tT (i+l) ((b::t).drop l))):dw s p acc M r (tT i (b::t)):=by
 rw [CB hb h1 ht]
 rcases h with⟨ts,e3,e4,e5,e6,e7,e8,e9,out,e11,M',h1,h2,h3,h4,h5⟩ | ⟨j,e3,e4,e5,e6,e7,e8,e9,out,e11,M',h1,h2,h3,h4⟩
 ·rw [h1]
  exact .inl ⟨_,e3,e4,e5,e6,e7,e8,e9,out,e11,M',rfl,h2,h3,h4,by simpa using h5⟩
 ·rw [h1]
  exact .inr ⟨j,e3,e4,e5,e6,e7,e8,e9,out,e11,M',rfl,h2,h3,h4⟩
theorem QZ {p n fu:Nat}(s:By)(hs:s.length≤10000)(hfu:s.length+1010≤fu):∀(r i:Nat),s.length-i≤r→i≤s.length→
  ∀(acc:List Tok) (e4 e5 e6 e7 e8 e9 out e11:j3) (M:Mem) (N:Nat),M.Ok→M.lim≤p→p<M.next→M.get p=some (Q9 [.nilSlice,.int .i64 0,.int .i64 0])→mW (p+1) 2 M out (P6 acc)→acc.length≤i→r+1≤N→
  dw s p acc M (aD (fun env m k=>GV (w9 KW fu (n+2)) fu none env m k) N (.nd (.nd (.nd (.nd .e e7 .e) (.int .i64 (i:Int)) (.nd .e e11 .e)) (.bool false) (.nd (.nd .e e9 .e) e5 .e)) (.str s) (.nd (.nd (.nd .e e8 .e) e4 .e) (.ptr p 0) (.nd (.nd .e out .e) e6 .e))) M []) (tT i (s.drop i)):=by
 intro r
 induction r with
 | zero=>
  intro i hr hle acc e4 e5 e6 e7 e8 e9 out e11 M N hM hl hp hg ho hac hN
  obtain⟨N,rfl⟩:∃k,N=k+1:=⟨N-1,by omega⟩
  obtain rfl:i=s.length:=by omega
  rw [List.drop_of_length_le (Nat.le_refl _),qx]
  refine .inl ⟨[],.int .i64 (s.length:Int),.bool false,e5,e6,e7,e8,e9,out,e11,M,rfl,?_,Fr.refl hM,hg,by simpa using ho,by simpa using hac⟩
  rw [y7]
  simp [GV,D6,trD,M7,z8,u7,p8]
 | succ r ih=>
  intro i hr hle acc e4 e5 e6 e7 e8 e9 out e11 M N hM hl hp hg ho hac hN
  obtain⟨N,rfl⟩:∃k,N=k+1:=⟨N-1,by omega⟩
  by_cases hlt:i<s.length
  ·have hdr:s.drop i=s[i]::s.drop (i+1):=List.drop_eq_getElem_cons hlt
   have q0:=fun x lo ls env hx hl'=>Z7 (x:=x) (lo:=lo) (ls:=ls) (env:=env) (s:=s) (l:=i) hx hl' hlt
   have el:decide ((i:Int)<(s.length:Int))=true:=decide_eq_true (by omega)
   have cv:∀(k:Nat) (c:UInt8),c.toNat=k→(((((s[i]).toNat:Nat):Int)=(k:Int))↔s[i]=c):=fun k c hc=>
    ⟨fun h=>UInt8.toNat_inj.1 (by omega),fun h=>by rw [h];omega⟩
   have c32:(((s[i]).toNat:Nat):Int)=32↔s[i]=32:=cv 32 32 rfl
   have c10:(((s[i]).toNat:Nat):Int)=10↔s[i]=10:=cv 10 10 rfl
   have c35:(((s[i]).toNat:Nat):Int)=35↔s[i]=35:=cv 35 35 rfl
   rw [hdr]
   by_cases hbl:s[i]=32∨s[i]=10
   ·rw [vo hbl]
    have g:=ih (i+1) (by omega) (by omega) acc (.bool true) (.bool true) e6 e7 e8 e9 out e11 M N hM hl hp hg ho (by omega) (by omega)
    rw [y7]
    refine Eq.mpr (congrArg (fun r=>dw s p _ _ r _) ?_) g
    rcases hbl with h | h
    ·have e1:=c32.2 h
     simp [GV,D6,trD,M7,z8,u7,p8,el,hlt,q0,e1,Z6 (i:=i) (by omega)]
    ·have e1:=c10.2 h
     have e2:¬ (((s[i]).toNat:Nat):Int)=32:=by omega
     simp [GV,D6,trD,M7,z8,u7,p8,el,hlt,q0,e1,e2,Z6 (i:=i) (by omega)]
   ·have n32:¬ (((s[i]).toNat:Nat):Int)=32:=fun h=>hbl (.inl (c32.1 h))
    have n10:¬ (((s[i]).toNat:Nat):Int)=10:=fun h=>hbl (.inr (c10.1 h))
    by_cases h35:s[i]=35
    ·have hc:=c35.2 h35
     have hrl:=X7 (fun c=>c != 10) (s.drop i)
     rw [List.length_drop] at hrl
     have hr1:1≤H8 (fun c=>c != 10) (s.drop i):=by rw [hdr,H8,if_pos (by rw [h35];decide)];omega
     have g0:=JL (m:=M) (p:=p) (n:=n) (fu:=fu) (a:=i) (e4:=.bool true) (e5:=.bool false) (e6:=.bool true) (e8:=e8) (e9:=e9) (e10:=out) (e11:=e11) s (by omega) hle (H8 (fun c=>c != 10) (s.drop i)) i (Nat.le_refl _) rfl e7 fu (by omega)
     have g:=ih (i+H8 (fun c=>c != 10) (s.drop i)) (by omega) (by omega) acc (.bool true) (.bool false) (.bool true) (.bool false) e8 e9 out e11 M N hM hl hp hg ho (by omega) (by omega)
     have hlx:tT i (s[i]::s.drop (i+1))=tT (i+H8 (fun c=>c != 10) (s.drop i)) (s.drop (i+H8 (fun c=>c != 10) (s.drop i))):=by
      have:s.drop i=35::s.drop (i+1):=by rw [hdr,h35]
      rw [h35,zw,← this,List.drop_drop]
     rw [hlx,y7]
     refine Eq.mpr (congrArg (fun r=>dw s p _ _ r _) ?_) g
     simp [GV,D6,trD,M7,z8,u7,p8,el,hlt,q0,hc,g0,-Int.natCast_add]
    ·have n35:¬ (((s[i]).toNat:Nat):Int)=35:=fun h=>h35 (c35.1 h)
     obtain⟨l,k,M2,ga,E2,hk⟩:=QY hM s (by omega) i hlt n fu hfu
     have hm:=E2.ok
     have hl2:M2.lim≤p:=by rw [E2.lim];exact hl
     have hg2:M2.get p=some (Q9 [.nilSlice,.int .i64 0,.int .i64 0]):=(E2.old p hp).trans hg
     have hp2:p<M2.next:=Nat.lt_of_lt_of_le hp E2.next
     have hf2:Fr (p+1) p M M2:=E2.fr (by omega)
     rw [hdr] at hk
     cases htk:nu (s[i]::s.drop (i+1)) with
     | none=>
      rw [htk] at hk
      obtain rfl:l=0:=hk
      rw [Cz hbl h35 htk]
      have st:=fun (β:Type) off vs (k:Mem→Option β)=>jT hl2 off vs k
      refine .inr ⟨i,.int .i64 (i:Int),.bool true,.bool false,.bool false,e7,.int .i64 0,.bool true,out,.int .i64 k,M2.set p (Q9 [.nilSlice,.int .i64 7,.int .i64 (i:Int)]),rfl,?_,hf2.trans ⟨Mem.Ok.set hm hp2 _,by simp,by simp,fun j hj hn=>jS hm _ hp2 hn⟩,bX hm _ hp2 rfl⟩
      rw [y7]
      simp [GV,D6,trD,M7,z8,u7,p8,el,hlt,q0,n32,n10,n35,ga,eP,O3,st,hg2,P8,bM]
     | some q=>
      obtain⟨k',l'⟩:=q
      rw [htk] at hk
      obtain⟨rfl,rfl⟩:=hk
      obtain⟨hl1',hl2',hk1,hk2,hasc⟩:=qw htk
      have hlen:l'≤s.length-i:=by simpa [← hdr] using hl2'
      have qs:=fun x lo hi ls env hx hl hh=>mU (x:=x) (lo:=lo) (hi:=hi) (ls:=ls) (env:=env) (s:=s) (l:=i) (h:=i+l') hx hl hh (by omega) (by omega)
      simp only [Nat.add_sub_cancel_left] at qs
      have e1:w64 ((i:Int)+(l':Int))=((i+l':Nat):Int):=by rw [kF (by omega) (by omega)];omega
      have n0:¬ l'=0:=by omega
      have hx:mV (M2.new (Q9 (iC (k',(s.drop i).take l')))) 2 (.slice M2.next 0 1 1) [iC (k',(s.drop i).take l')]:=KG hm (iC (k',(s.drop i).take l')) (by simp [iC])
      have ho2:=(ho.ext E2).ext ((Ext.refl hm).new (Q9 (iC (k',(s.drop i).take l'))))
      obtain⟨v5,M5,gb,ho5,F5,old5⟩:=KF (lo:=p+1) (rs:=2) (bytes:=24) (r:=iC (k',(s.drop i).take l')) (Mem.Ok.new hm _) (by simp;omega) (by simp;omega) (by omega) ho2 hx (by simp [iC]) (by simp [iC,bM]) (by simp [P6];omega) ⟨by omega,by omega⟩
      have po:=fun {β:Type} (p:j3→β) q=>ho5.slice.pan p q
      have hg5:M5.get p=some (Q9 [.nilSlice,.int .i64 0,.int .i64 0]):=by
       rw [old5 p (by simp;omega) (fun o n e hv=>by have:=(ho.lt hv).1;omega),jR hm _ (by omega)];exact hg2
      have FF:Fr (p+1) p M M5:=hf2.trans ⟨F5.ok,Nat.le_trans (by simp) F5.next,F5.lim,fun j hj hn=>by rw [F5.old j hj (by omega),jR hm _ (by omega)]⟩
      have g:=ih (i+l') (by omega) (by omega) (acc ++ [(k',(s.drop i).take l')]) (.bool true) (.bool false) (.bool false) e7 (.int .i64 (l':Int)) (.bool false) v5 (.int .i64 (k':Int)) M5 N F5.ok (by rw [FF.lim];exact hl) (Nat.lt_of_lt_of_le hp FF.next) hg5 (by rw [sP];exact ho5) (by simp;omega) (by omega)
      refine dw.tok hbl h35 htk ?_
      rw [show (s[i]::s.drop (i+1)).drop l'=s.drop (i+l') from by rw [← hdr,List.drop_drop],← hdr]
      refine dw.fr ?_ FF
      rw [y7]
      refine Eq.mpr (congrArg (fun r=>dw s p _ _ r _) ?_) g
      have hbs:∀z ps ls env nid,List.length z=2→F6 2 1 z ps ls env nid=ob (lay ps ls env z) fun cells=>if cells.length=2 then some (.slice nid 0 1 1,some (Q9 cells)) else none:=fun z ps ls env nid h=>kG 2 z ps ls env nid h
      generalize (s.drop i).take l'=tx at *
      simp only [iC] at gb
      simp [GV,D6,trD,M7,z8,u7,p8,el,hlt,q0,n32,n10,n35,ga,n0,e1,qs,eP,bM,hbs,gb,po,-Int.natCast_add]
  ·obtain rfl:i=s.length:=by omega
   rw [List.drop_of_length_le (Nat.le_refl _),qx]
   refine .inl ⟨[],.int .i64 (s.length:Int),.bool false,e5,e6,e7,e8,e9,out,e11,M,rfl,?_,Fr.refl hM,hg,by simpa using ho,by simpa using hac⟩
   rw [y7]
   simp [GV,D6,trD,M7,z8,u7,p8]
attribute [simp] I J S U Z A V tt ff zaa zab zap zaU zaX zb2 zdn zgH zhf zin
@[simp] theorem Tj (k:IntKind)(n:Int):bM (.int k n)=true:=_root_.id rfl
@[simp] theorem Tk (s:By):bM (.str s)=true:=_root_.id rfl
@[simp] theorem Ra (b:Bool):bM (.bool b)=true:=_root_.id rfl
def sQ (m m':Mem)(s:By)(v:j3)(e a:Int):Prop:=match tT 0 s with
 | .inr ts=>mW m.next 2 m' v (P6 ts)∧ts.length≤s.length∧e=0∧a=-1
 | .inl j=>v=.nilSlice∧e=7∧a=(j:Int)
theorem acr {m:Mem}(hm:m.Ok)(hl:m.lim≤m.next)(s:By)(hs:s.length≤8000)(n fu:Nat)(hfu:s.length+1010≤fu):
  ∃(v:j3) (e a:Int) (m':Mem),w9 KW fu (n+3) (.func 9) [.str s] m=some [⟨.agg [v,.int .i64 e,.int .i64 a],m'⟩]∧Ext m m'∧sQ m m' s v e a:=by
 have hM:(m.new (Q9 [.nilSlice,.int .i64 0,.int .i64 0])).Ok:=Mem.Ok.new hm _
 have g:=QZ (p:=m.next) (n:=n) (fu:=fu) s (by omega) hfu s.length 0 (by omega) (by omega) [] .undef .undef .undef .undef .undef .undef .nilSlice .undef (m.new (Q9 [.nilSlice,.int .i64 0,.int .i64 0])) fu hM (by simpa using hl) (by simp) (pF hm _ rfl)
  (mW.nil _ _ _) (by simp) (by omega)
 have e1:decide ((8000:Int)<(s.length:Int))=false:=decide_eq_false (by omega)
 have hE:∀M',Fr (m.next+1) m.next (m.new (Q9 [.nilSlice,.int .i64 0,.int .i64 0])) M'→Ext m M':=fun M' F=>by
  refine⟨F.ok,Nat.le_trans (by simp) F.next,F.lim,fun i hi=>?_⟩
  rw [F.old i (by omega) (by omega),jR hm _ (by omega)]
 rw [List.drop_zero] at g
 unfold sQ
 rcases g with⟨ts,e3,e4,e5,e6,e7,e8,e9,out,e11,M',h1,h2,h3,h4,h5,h6⟩ | ⟨j,e3,e4,e5,e6,e7,e8,e9,out,e11,M',h1,h2,h3,h4⟩
 ·have g':aD (fun env m k=>GV (w9 KW fu (n+2)) fu none env m k) fu (.nd (.nd (.nd (.nd .e .undef .e) (.int .i64 0) (.nd .e .undef .e)) (.bool false) (.nd (.nd .e .undef .e) .undef .e)) (.str s) (.nd (.nd (.nd .e .undef .e) .undef .e) (.ptr m.next 0) (.nd (.nd .e .nilSlice .e) .undef .e))) (m.new (Q9 [.nilSlice,.int .i64 0,.int .i64 0])) []=_:=h2
  rw [List.nil_append] at h5 h6
  have hl':M'.lim≤m.next:=by rw [h3.lim];simpa using hl
  have hp':m.next<M'.next:=Nat.lt_of_lt_of_le (by simp) h3.next
  have st:=fun (β:Type) off vs (k:Mem→Option β)=>jT hl' off vs k
  have gs:∀B,(M'.set m.next B).get m.next=some B:=fun B=>bX h3.ok _ hp' rfl
  have hoc:=h5.slice.cells
  have ho1:=h5.slice.bM
  refine⟨out,0,-1,M'.set m.next (Q9 [out,.int .i64 0,.int .i64 (-1)]),?_,(hE M' h3).set hp' (Nat.le_refl _) _,?_⟩
  ·rw [enter (sf:=f9) rfl rfl]
   simp [f9,D6,trD,M7,z8,u7,p8,e1,g',eP,O3,st,h4,P8,hoc,ho1,gs,S9]
  ·rw [h1]
   exact⟨(h5.keep (by simp) fun i h1 h2=>jS h3.ok _ hp' (by omega)).down (by omega),h6,rfl,rfl⟩
 ·have g':aD (fun env m k=>GV (w9 KW fu (n+2)) fu none env m k) fu (.nd (.nd (.nd (.nd .e .undef .e) (.int .i64 0) (.nd .e .undef .e)) (.bool false) (.nd (.nd .e .undef .e) .undef .e)) (.str s) (.nd (.nd (.nd .e .undef .e) .undef .e) (.ptr m.next 0) (.nd (.nd .e .nilSlice .e) .undef .e))) (m.new (Q9 [.nilSlice,.int .i64 0,.int .i64 0])) []=_:=h2
  refine⟨.nilSlice,7,j,M',?_,hE M' h3,?_⟩
  ·rw [enter (sf:=f9) rfl rfl]
   simp [f9,D6,trD,M7,z8,u7,p8,e1,g',h4,S9]
  ·rw [h1];exact⟨rfl,rfl,rfl⟩
theorem Rb {m:Mem}(hm:m.Ok)(hl:m.lim≤m.next)(s:By)(hs:8000<s.length)(n fu:Nat):w9 KW fu (n+1) (.func 9) [.str s] m=some [⟨.agg [.nilSlice,.int .i64 2,.int .i64 (-1)],m.new (Q9 [.nilSlice,.int .i64 2,.int .i64 (-1)])⟩]:=by
 have e1:decide ((8000:Int)<(s.length:Int))=true:=decide_eq_true (by omega)
 rw [enter (sf:=f9) rfl rfl]
 simp [f9,D6,trD,M7,z8,u7,p8,V8,V9,H6 hm,M0 hm,Z4 hm hl,J3 hm hl,M4 hm,O1 hm,eP,O3,S9,P8,bM,e1]
@[simp] theorem adU:Ih .s=eqStr:=_root_.id rfl
theorem Rc {M:Mem}{q fu:Nat}{s:By}{v1 v2 e2 e4 x y:j3}{cf:y8}(ts:List Tok)(hts:ts.length≤100000)(hq:M.get q=some (Q9 [v2,x,y]))(h1:mV M 2 v1 (P6 ts))(h2:mV M 2 v2 (P6 ts)):
  ∀(j i:Nat),i+j=ts.length→∀(c8 c9:j3) (N:Nat),j+1≤N→
  ∃c8' c9',aD (fun env m k=>Qj cf fu none env m k) N (.nd (.nd (.nd (.nd .e (.int .i64 (i:Int)) .e) (.ptr q 0) .e) (.bool false) (.nd (.nd .e c9 .e) v1 .e)) (.str s) (.nd (.nd (.nd .e c8 .e) e4 .e) e2 (.nd (.nd .e (.bool false) .e) (.bool false) .e))) M []=some [⟨.exit 0,(.nd (.nd (.nd (.nd .e (.int .i64 (ts.length:Int)) .e) (.ptr q 0) .e) (.bool false) (.nd (.nd .e c9' .e) v1 .e)) (.str s) (.nd (.nd (.nd .e c8' .e) e4 .e) e2 (.nd (.nd .e (.bool false) .e) (.bool false) .e))),M,[],none⟩]:=by
 have hlen:=h1.len
 rw [show (P6 ts).length=ts.length from by simp [P6]] at hlen
 intro j
 induction j with
 | zero=>
  intro i hi c8 c9 N hN
  obtain⟨N,rfl⟩:∃k,N=k+1:=⟨N-1,by omega⟩
  obtain rfl:i=ts.length:=by omega
  refine⟨.bool false,c9,?_⟩
  rw [y7]
  simp [Qj,D6,trD,M7,z8,u7,p8,hlen]
 | succ j ih=>
  intro i hi c8 c9 N hN
  obtain⟨N,rfl⟩:∃k,N=k+1:=⟨N-1,by omega⟩
  have hlt:i<ts.length:=by omega
  have hlt':i<(P6 ts).length:=by simpa [P6] using hlt
  obtain⟨id1,o1,a1,a2,a3,a4,a5⟩:=h1.at hlt'
  obtain⟨id2,o2,b1,b2,b3,b4,b5⟩:=h2.at hlt'
  have hrow:(P6 ts)[i]=iC ts[i]:=by simp [P6]
  have a4':=a4 0 2 (by omega) (by omega)
  have b4':=b4 0 2 (by omega) (by omega)
  rw [hrow] at a4' b4'
  simp only [Nat.add_zero,iC,List.drop_zero,List.take_succ_cons,List.take_zero] at a4' b4'
  obtain⟨c8',c9',gg⟩:=ih (i+1) (by omega) (.bool true) (.bool false) N (by omega)
  refine⟨c8',c9',?_⟩
  rw [y7,← gg]
  simp [Qj,D6,trD,M7,z8,u7,p8,hlen,hlt,a1,a4',b1,b4',hq,Z6 (i:=i) (by omega)]
theorem sQ.same {m m1 m2 m3:Mem}{s:By}{v1 v2:j3}{e1 a1 e2 a2:Int}(h1:sQ m m1 s v1 e1 a1)(h2:sQ m2 m3 s v2 e2 a2):e1=e2∧a1=a2∧∃ts:List Tok,ts.length≤s.length∧mV m1 2 v1 (P6 ts)∧mV m3 2 v2 (P6 ts):=by
 unfold sQ at h1 h2
 cases h:tT 0 s with
 | inr ts=>
  rw [h] at h1 h2
  obtain⟨x1,x2,rfl,rfl⟩:=h1
  obtain⟨y1,y2,rfl,rfl⟩:=h2
  exact⟨rfl,rfl,ts,x2,x1.slice,y1.slice⟩
 | inl j=>
  rw [h] at h1 h2
  obtain⟨rfl,rfl,rfl⟩:=h1
  obtain⟨rfl,rfl,rfl⟩:=h2
  exact⟨rfl,rfl,[],by simp,.inl ⟨rfl,rfl⟩,.inl ⟨rfl,rfl⟩⟩
theorem acs {m:Mem}(hm:m.Ok)(hl:m.lim≤m.next)(s:By)(n fu:Nat)(hfu:20000≤fu):∃m',w9 KW fu (n+6) (.func 3) [.str s] m=some [⟨.bool true,m'⟩]∧Ext m m':=by
 by_cases hbig:8100<s.length
 ·have e1:decide ((8100:Int)<(s.length:Int))=true:=decide_eq_true (by omega)
  refine⟨m,?_,Ext.refl hm⟩
  rw [enter (sf:=f3) rfl rfl]
  simp [f3,D6,trD,M7,z8,u7,p8,e1,zA]
 ·have e1:decide ((8100:Int)<(s.length:Int))=false:=decide_eq_false (by omega)
  obtain⟨v1,v2,e,a,m1,m2,ts,g1,g2,E1,E2,hts,r1,r2⟩:∃(v1 v2:j3) (e a:Int) (m1 m2:Mem) (ts:List Tok),w9 KW fu (n+5) (.func 8) [.str s] m=some [⟨.tuple [v1,.int .i64 e,.int .i64 a],m1⟩]∧
    w9 KW fu (n+5) (.func 9) [.str s] m1=some [⟨.agg [v2,.int .i64 e,.int .i64 a],m2⟩]∧Ext m m1∧Ext m1 m2∧ts.length≤10000∧mV m2 2 v1 (P6 ts)∧mV m2 2 v2 (P6 ts):=by
   by_cases h8:s.length≤8000
   ·obtain⟨v1,e,a,m1,g1,E1,k1⟩:=aco hm hl s h8 n fu (by omega)
    obtain⟨v2,e',a',m2,g2,E2,k2⟩:=acr (m:=m1) E1.ok (by rw [E1.lim];exact Nat.le_trans hl E1.next) s h8 (n+2) fu (by omega)
    have k1':sQ m m1 s v1 e a:=k1
    obtain⟨rfl,rfl,ts,h1,h2,h3⟩:=k1'.same k2
    exact⟨v1,v2,e,a,m1,m2,ts,g1,g2,E1,E2,by omega,h2.ext E2,h3⟩
   ·exact⟨.nilSlice,.nilSlice,2,-1,m,_,[],QW s (by omega) _ _,Rb hm hl s (by omega) _ _,Ext.refl hm,(Ext.refl hm).new _,by simp,.inl ⟨rfl,rfl⟩,.inl ⟨rfl,rfl⟩⟩
  have hm2:=E2.ok
  have hl2:m2.lim≤m2.next:=by rw [E2.lim,E1.lim];exact Nat.le_trans hl (Nat.le_trans E1.next E2.next)
  have E3:=dh hm2 [Q9 [v2,.int .i64 e,.int .i64 a]]
  have hq:(ext m2 [Q9 [v2,.int .i64 e,.int .i64 a]]).get m2.next=some (Q9 [v2,.int .i64 e,.int .i64 a]):=by rw [H6 hm2];rfl
  have c1:=r1.pan (β:=Option (List EM))
  have o2:=r2.bM
  have l1:=r1.len
  have l2:=r2.len
  rw [show (P6 ts).length=ts.length from by simp [P6]] at l1 l2
  obtain⟨c8',c9',g3⟩:=Rc (M:=ext m2 [Q9 [v2,.int .i64 e,.int .i64 a]]) (q:=m2.next) (fu:=fu) (s:=s) (e2:=.int .i64 e) (e4:=.int .i64 a) (x:=.int .i64 e) (y:=.int .i64 a) (cf:=w9 KW fu (n+5)) ts (by omega) hq (r1.ext E3) (r2.ext E3) ts.length 0 (by omega) .undef .undef fu (by omega)
  have g3':aD (fun env m k=>Qj (w9 KW fu (n+5)) fu none env m k) fu (.nd (.nd (.nd (.nd .e (.int .i64 0) .e) (.ptr m2.next 0) .e) (.bool false) (.nd (.nd .e .undef .e) v1 .e)) (.str s) (.nd (.nd (.nd .e .undef .e) (.int .i64 a) .e) (.int .i64 e) (.nd (.nd .e (.bool false) .e) (.bool false) .e))) (ext m2 [Q9 [v2,.int .i64 e,.int .i64 a]]) []=_:=g3
  obtain⟨x1,x2,x3,x4,x5,x6⟩:=acn hm2 hl2
  refine⟨ext m2 [Q9 [v2,.int .i64 e,.int .i64 a]],?_,E1.trans (E2.trans E3)⟩
  rw [enter (sf:=f3) rfl rfl]
  simp [f3,D6,trD,M7,z8,u7,p8,e1,g1,g2,V8,V9,x1,x2,x3,x4,x5,x6,eP,O3,S9,P8,o2,l1,l2,g3',zA]
end Go.Proofs.YteecnooaopfkeaaGreatDoor.TT
