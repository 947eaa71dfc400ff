/- Functions of the program and of the specification, walked; conditions: the memory holds what the arguments say. -/
import Derived.Test.YtfnlnpllpfhhnaaGreatDoorQD3
set_option linter.all false
namespace Go.Proofs.YtfnlnpllpfhhnaaGreatDoor.TT
open Go Go.AM
set_option maxRecDepth 100000
set_option maxHeartbeats 16000000
theorem Ew {x:OF}{ls:List d9}{env:T d9}{M:Mem}{id d:Nat}(c:x ls env=.slice id 0 1 1)(a:M.get id=some (j5 [.int .u8 (d:Int)])):aT x ls env M=some (.str [UInt8.ofNat d]):=by
 show xE (x ls env) _ _ _=_;rw [c];show ob (Y0 M id 0 1) _=_;have:Y0 M id 0 1=some [.int .u8 (d:Int)]:=by
  show aU (M.get id) (λf k rows=>J7 f k rows 1 0)=_;rw [a];show J7 (len' [d9.int .u8 (d:Int)]) 1 (.nd .e [d9.int .u8 (d:Int)] .e) 1 0=_;rw [K7];have:=He (n:=1) (off:=0) (rows:=.nd .e [d9.int .u8 (d:Int)] .e) (xs:=[d9.int .u8 (d:Int)]) (λi b=>by
   obtain rfl:i=0:=by simp at b;omega
   rfl) (by simp) 1 0 rfl
  simpa using this
 rw [this];rfl
theorem afp (a:Nat)(h:a<9223372036854775808):Hy .i64 (a:Int) 10=some (iV ((a / 10:Nat):Int)):=by
 show some (d9.int .i64 (lI ((a:Int).tdiv 10)))=_;have e:(a:Int).tdiv 10=((a / 10:Nat):Int):=by rw [aCs (by omega)];omega
 rw [e,Z8 (by omega) (by omega)]
theorem afq (a:Nat)(h:a<9223372036854775808):Hy .i64 (-(a:Int)) 10=some (iV (-((a / 10:Nat):Int))):=by
 show some (d9.int .i64 (lI ((-(a:Int)).tdiv 10)))=_;have e:(-(a:Int)).tdiv 10=-((a / 10:Nat):Int):=by rw [Int.neg_tdiv,aCs (by omega)];omega
 rw [e,Z8 (by omega) (by omega)]
theorem WQ (a:Nat):BK .i64 (-(a:Int)) 10=some (iV (-((a%10:Nat):Int))):=by
 show some (d9.int .i64 ((-(a:Int)).tmod 10))=_;have e:(-(a:Int)).tmod 10=-((a%10:Nat):Int):=by rw [Int.neg_tmod,Int.tmod_eq_emod_of_nonneg (by omega)];omega
 rw [e]
theorem Pp (d:Nat)(h:d<10):lI (48+(d:Int))=((48+d:Nat):Int)∧iW .u8 ((48+d:Nat):Int)=((48+d:Nat):Int):=by refine⟨by rw [Z8 (by omega) (by omega)];omega,?_⟩;show ((48+d:Nat):Int)%256=_;omega
theorem afr (cf:H7)(A:Nat):∀(u:Nat),u<9223372036854775808->∀(w:By) (m:Mem) (a4:d9) (N:Nat),m.Ok->m.lim<=m.nx->w.length+Lib.nDigits u<=1000->Lib.nDigits u+1<=N->
  ∃(u' a4':d9) (m':Mem),J5 (λenv m k=>Rx cf A none env m k) N (CX (iV (u:Int)) fV uV uV a4 (.str w) (.str [])) m []=some [⟨.exit 0,(CX u' fV uV uV fV (.str ((if u<10 then [] else Lib.decDigits (u / 10))++w)) (.str [])),m',[],none⟩]∧Ext m m':=by
 intro u;induction u using Nat.strongRecOn with
 | _ u ih=>
  intro D w m a4 N n I F C;have j:=C;have o:=Lib.nDigits_pos u;obtain⟨N,rfl⟩:∃k,N=k+1:=⟨N-1,by omega⟩;by_cases h:u<10;rw [if_pos h];refine⟨iV (u:Int),fV,m,?_,Ext.refl n⟩;have i:decide ((9:Int)<(u:Int))=false:=decide_eq_false (by omega);rw [l9];simp [Rx,i,show ¬ (9:Int)<(u:Int) from by omega];rw [if_neg h];have i:decide ((9:Int)<(u:Int))=true:=decide_eq_true (by omega);have p:=afp u D;have r:=zD .i64 (u / 10) 10 (by decide);obtain⟨s,t⟩:=Pp (u / 10%10) (adK _ (by omega));have E2:=r9 n [j5 [.int .u8 ((48+u / 10%10:Nat):Int)]];have v:=λx ls env G=>Ew (x:=x) (ls:=ls) (env:=env) (M:=ext m [j5 [.int .u8 ((48+u / 10%10:Nat):Int)]]) (id:=m.nx) (d:=48+u / 10%10) G (by rw [j6 n];rfl);have l:∀z e ls env b,List.length z=1->I8 1 1 z e ls env b=ob (lay e ls env z) λa=>if a.length=1 then some (.slice b 0 1 1,some (j5 a)) else none:=λz e ls env b h=>J3 1 z e ls env b h
  have H:eH [UInt8.ofNat (48+u / 10%10)] w=some (.str (UInt8.ofNat (48+u / 10%10)::w)):=V9 (by simp;omega);obtain⟨u',a4',m',g,E⟩:=ih (u / 10) (by omega) (by omega) (UInt8.ofNat (48+u / 10%10)::w) (ext m [j5 [.int .u8 ((48+u / 10%10:Nat):Int)]]) tV N E2.ok (by simp;omega) (by
   rw [Lib.nDigits_big h] at F;simp;omega) (by rw [Lib.nDigits_big h] at j;omega)
  refine⟨u',a4',m',?_,E2.trans E⟩;have y:Lib.decDigits (u / 10)++w=(if u / 10<10 then [] else Lib.decDigits (u / 10 / 10))++(UInt8.ofNat (48+u / 10%10)::w):=by rw [Lib.decDigits];split;rename_i B;rw [adO B];rfl;simp
  rw [l9,y,← g];have f:BK .i64 ((u / 10:Nat):Int) 10=some (iV ((u / 10%10:Nat):Int)):=r;generalize UInt8.ofNat (48+u / 10%10)=ch at *;generalize u / 10%10=d at *;generalize hq:u / 10=q at *;have c:(9:Int)<(u:Int):=by omega
  generalize ((48+d:Nat):Int)=Z at *;simp [Rx,i,c,p,f,s,t,v,l,H,o9]
theorem Nv {u:Nat}(h:u<10):Lib.decDigits u=[UInt8.ofNat (48+u)]:=by rw [Lib.decDigits,dif_pos h]
theorem WR {u:Nat}(h:¬ u<10):Lib.decDigits u=Lib.decDigits (u / 10) ++ [UInt8.ofNat (48+u%10)]:=by conv=>lhs;rw [Lib.decDigits,dif_neg h]
theorem afs {m:Mem}(j:m.Ok)(A:m.lim<=m.nx)(u:Nat)(w:u<10000000000000000)(n c:Nat)(t:20001<=c):∃m',l8 KW c (n+1) (.func 91) [iV (u:Int)] m=some [⟨.str (Lib.decDigits u),m'⟩]∧Ext m m':=by
 have v:(10:Nat)^16=10000000000000000:=by decide
 have B:=mh 15 u (by rw [v];exact w);have l:=zD .i64 u 10 (by decide);obtain⟨o,p⟩:=Pp (u%10) (adK _ (by omega));have E2:=r9 j [j5 [.int .u8 ((48+u%10:Nat):Int)]];have q:=λx ls env y=>Ew (x:=x) (ls:=ls) (env:=env) (M:=ext m [j5 [.int .u8 ((48+u%10:Nat):Int)]]) (id:=m.nx) (d:=48+u%10) y (by rw [j6 j];rfl);have i:∀z e ls env b,List.length z=1->I8 1 1 z e ls env b=ob (lay e ls env z) λa=>if a.length=1 then some (.slice b 0 1 1,some (j5 a)) else none:=λz e ls env b h=>J3 1 z e ls env b h
 obtain⟨C,k,m',g,E⟩:=afr (l8 KW c n) c u (by omega) [UInt8.ofNat (48+u%10)] (ext m [j5 [.int .u8 ((48+u%10:Nat):Int)]]) uV c E2.ok (by simp;omega) (by simp;omega) (by omega);refine⟨m',?_,E2.trans E⟩;have r:Lib.decDigits u=(if u<10 then [] else Lib.decDigits (u / 10)) ++ [UInt8.ofNat (48+u%10)]:=by by_cases h:u<10;rw [if_pos h,Nv h,adO h];rfl;rw [if_neg h,WR h]
 rw [r];have s:¬ (u:Int)<0:=by omega
 have f:BK .i64 (u:Int) 10=some (iV ((u%10:Nat):Int)):=l;generalize UInt8.ofNat (48+u%10)=ch at *;generalize u%10=d at *;generalize ((48+d:Nat):Int)=Z at *;rw [enter (sf:=f91) rfl rfl];simp [f91,s,f,o,p,q,i,o9,g]
theorem aft (I:Nat)(U:20001<=I):∀(k u:Nat),0<u->u<10^(k+1)->u<10000000000000000->∀(n:Nat) (m:Mem),m.Ok->m.lim<=m.nx->∃m',l8 KW I (n+k+1) (.func 91) [iV (-(u:Int))] m=some [⟨.str (45::Lib.decDigits u),m'⟩]∧Ext m m':=by
 intro k;induction k with
 | zero=>
  intro u y F K n m s L;have t:u<10:=by simpa using F
  obtain⟨A,B⟩:=Pp u t;have E2:=r9 s [j5 [.int .u8 ((48+u:Nat):Int)]];have C:=λx ls env p=>Ew (x:=x) (ls:=ls) (env:=env) (M:=ext m [j5 [.int .u8 ((48+u:Nat):Int)]]) (id:=m.nx) (d:=48+u) p (by rw [j6 s];rfl);have w:=WQ u;rw [adO t] at w;have E:lI (0 - -(u:Int))=(u:Int):=by rw [Z8 (by omega) (by omega)];omega
  have l:lI (u:Int)=(u:Int):=Z8 (by omega) (by omega);have G:-(u:Int)<0:=by omega
  have r:-10 < -(u:Int):=by omega
  have g:(u:Int)<10:=by omega
  have Y:0<u:=y;have H:eH [45] [UInt8.ofNat (48+u)]=some (.str [45,UInt8.ofNat (48+u)]):=V9 (by simp);have o:∀z j ls env e,List.length z=1->I8 1 1 z j ls env e=ob (lay j ls env z) λa=>if a.length=1 then some (.slice e 0 1 1,some (j5 a)) else none:=λz j ls env e h=>J3 1 z j ls env e h
  refine⟨_,?_,E2⟩;rw [Nv t];generalize UInt8.ofNat (48+u)=ch at *;generalize ((48+u:Nat):Int)=Z at *;rw [enter (sf:=f91) rfl rfl];simp [f91,w,E,l,G,r,g,Y,A,B,C,o,o9,H]
 | succ k ih=>
  intro u y F K n m s L;by_cases t:u<10;have R:u<10^(k+1):=aP t (by
   have:=ajJ (n:=10) (by decide) (show 1<=k+1 by omega);simpa using this)
  have:=ih u y R K (n+1) m s L
  rwa [show n+1+k+1=n+(k+1)+1 from by omega] at this
  have E1:=r9 s [.void];obtain⟨f,Q,E1'⟩:=ih (u / 10) (by omega) (by rw [agS] at F;omega) (by omega) n (ext m [.void]) E1.ok (by simp;omega);have N:(ext m [.void]).get m.nx=some .void:=by rw [j6 s];rfl
  have O:f.get m.nx=some .void:=by rw [E1'.old _ (by simp)];exact N
  have p:m.nx<f.nx:=by have:=E1'.nx;simp at this;omega
  obtain⟨A,B⟩:=Pp (u%10) (adK _ (by omega));have J:(f.set m.nx (j5 [.int .u8 ((48+u%10:Nat):Int)])).get m.nx=some (j5 [.int .u8 ((48+u%10:Nat):Int)]):=by rw [Mem.U6 E1'.ok p,if_pos rfl]
  have C:=λx ls env p=>Ew (x:=x) (ls:=ls) (env:=env) (M:=f.set m.nx (j5 [.int .u8 ((48+u%10:Nat):Int)])) (id:=m.nx) (d:=48+u%10) p J;have S:∀(x:OF) (c:Nat) (d:d9->T d9->T d9) (k:DC) (D:H7) (b:Nat) (ls:List d9) (env:T d9),x ls env=.slice m.nx 0 1 1->Fg x c d k D b ls env (f.set m.nx (j5 [.int .u8 ((48+u%10:Nat):Int)])) [f,ext m [.void]]=ob (aT x ls env (f.set m.nx (j5 [.int .u8 ((48+u%10:Nat):Int)]))) λv=>k D b (v::ls) (d v env) (f.set m.nx (j5 [.int .u8 ((48+u%10:Nat):Int)])) [f,ext m [.void]]:=λx c d k D b ls env h=>XZ h (by rw [ads,O];rfl) (by rw [J];rfl);have w:=WQ u;have P:=afq u (by omega);have E:lI (0 - -((u%10:Nat):Int))=((u%10:Nat):Int):=by rw [Z8 (by omega) (by omega)];omega
  have l:lI ((u%10:Nat):Int)=((u%10:Nat):Int):=Z8 (by omega) (by omega);have G:-(u:Int)<0:=by omega
  have r:¬ -10 < -(u:Int):=by omega
  have g:¬ (u:Int)<10:=by omega
  have W:=mh 15 (u / 10) (by have X:(10:Nat)^16=10000000000000000:=by decide
                             rw [X];omega)
  have H:eH (45::Lib.decDigits (u / 10)) [UInt8.ofNat (48+u%10)]=some (.str (45::Lib.decDigits u)):=by rw [V9 (by simp [Lib.decDigits_length];omega),WR t];rfl
  have o:∀z j ls env e,List.length z=1->I8 1 1 z j ls env e=ob (lay j ls env z) λa=>if a.length=1 then some (.slice e 0 1 1,some (j5 a)) else none:=λz j ls env e h=>J3 1 z j ls env e h
  refine⟨f.set m.nx (j5 [.int .u8 ((48+u%10:Nat):Int)]),?_,⟨Mem.Ok.set E1'.ok p _,by simp;omega,by show f.lim=_;rw [E1'.lim];exact E1.lim,λi V=>by rw [Mem.U6 E1'.ok p,if_neg (by omega),E1'.old i (by simp;omega)];exact E1.old i V⟩⟩;rw [show n+(k+1)+1=(n+k+1)+1 from by omega,enter (sf:=f91) rfl rfl];generalize UInt8.ofNat (48+u%10)=ch at *;generalize u%10=d at *;generalize ((48+d:Nat):Int)=Z at *;generalize hq:u / 10=q at *;simp [f91,w,P,E,l,G,r,g,y,A,B,S,C,o,o9,w9,H,Q,N,O,isVoid,gU]
theorem al4 {m:Mem}(d:m.Ok)(c:m.lim<=m.nx)(x:Int)(f:Sm x)(n b:Nat)(a:20001<=b):∃m',l8 KW b (n+16) (.func 91) [iV x] m=some [⟨.str (Lib.itoa x),m'⟩]∧Ext m m':=by
 unfold Sm at f;by_cases h:x<0;obtain⟨u,rfl⟩:∃u:Nat,x=-(u:Int):=⟨x.natAbs,by omega⟩;have e:(10:Nat)^16=10000000000000000:=by decide
 obtain⟨m',g,E⟩:=aft b a 15 u (by omega) (by rw [e];omega) (by omega) n m d c;refine⟨m',?_,E⟩;rw [g,Lib.itoa,if_pos h];simp;obtain⟨u,rfl⟩:∃u:Nat,x=(u:Int):=⟨x.toNat,by omega⟩;obtain⟨m',g,E⟩:=afs d c u (by omega) (n+15) b a;refine⟨m',?_,E⟩;rw [g,Lib.itoa,if_neg h];simp
theorem Yl (w:By)(a b:List Int):D7 w (a++b)=D7 w a++D7 [] b:=by simp [D7]
theorem afu {v:d9}{xs:List Int}(hb:xs.length<20000)(p:∀n∈xs,Sm n)(w:By)(G:w.length<=100000)(n e:Nat)(f:20001<=e):∀(j i:Nat),i+j=xs.length->∀(m:Mem) (a3:d9) (N:Nat),m.Ok->m.lim<=m.nx->Y9 m v xs->j+1<=N->
  ∃m',J5 (λenv m k=>MU (l8 KW e (n+16)) e none env m k) N (SQ (.str w) (iV (i:Int)) v a3 (.str (D7 w (xs.take i))) (.str [])) m []=some [⟨.exit 0,(SQ (.str w) (iV (xs.length:Int)) v fV (.str (D7 w xs)) (.str [])),m',[],none⟩]∧Ext m m':=by
 intro j;induction j with
 | zero=>
  intro i u m a3 N h l d t;obtain⟨N,rfl⟩:∃k,N=k+1:=⟨N-1,by omega⟩;obtain rfl:i=xs.length:=by omega
  have a:=d.len;refine⟨m,?_,Ext.refl h⟩;rw [l9,aaF (aA _)];simp [MU,a]
 | succ j ih=>
  intro i u m a3 N h l d t;obtain⟨N,rfl⟩:∃k,N=k+1:=⟨N-1,by omega⟩;have b:i<xs.length:=by omega
  obtain⟨id,q,_,r⟩:=d.at b;have a:=d.len;have o:=p _ (M8 b);obtain⟨C,c,E1⟩:=al4 h l xs[i] o n e f;have x:=aL w (xs.take i) (λy B=>p y (acF B));have z:=KH o;have A:(xs.take i).length<=20000:=by simp;omega
  have D:eH (D7 w (xs.take i)) [32]=some (.str (D7 w (xs.take i) ++ [32])):=V9 (by simp;omega);have F:eH (D7 w (xs.take i) ++ [32]) (Lib.itoa xs[i])=some (.str (D7 w (xs.take (i+1)))):=by rw [KI b,V9 (by simp;omega)];simp
  have s:decide ((i:Int)<(xs.length:Int))=true:=decide_eq_true (by omega);obtain⟨m',g,E⟩:=ih (i+1) (by omega) C tV N E1.ok (by rw [E1.lim];have:=E1.nx;omega) (d.ext E1) (by omega);refine⟨m',?_,E1.trans E⟩;rw [l9,← g];simp [MU,s,b,a,q,r,c,D,F,Z7 (i:=i) (by omega)]
theorem rV {m:Mem}{v:d9}{xs:List Int}(h:m.Ok)(f:m.lim<=m.nx)(i:Y9 m v xs)(hb:xs.length<20000)(l:∀n∈xs,Sm n)(w:By)(j:w.length<=100000)(n a:Nat)(c:20001<=a):∃m',l8 KW a (n+17) (.func 49) [.str w,v] m=some [⟨.str (D7 w xs),m'⟩]∧Ext m m':=by
 obtain⟨m',g,E⟩:=afu (v:=v) hb l w j n a c xs.length 0 (by omega) m uV a h f i (by omega);have d:D7 w (xs.take 0)=w:=by rw [akx,Gg]
 rw [d] at g;have e:J5 (λb m k=>MU (l8 KW a (n+16)) a none b m k) a (SQ (.str w) iZ v uV (.str w) (.str [])) m []=_:=g;refine⟨m',?_,E⟩;rw [enter (sf:=f49) rfl rfl];simp [f49,e]
structure TxH (m:Mem)(r:FR)(n fu:Nat)(m1:Mem):Prop where
 g:l8 KW fu (n+17) (.func 49) [.str [102,97,99,116],.slice (m.nx+1) 0 4 4] (ext m [j5 r.f.cells,.cells 1 4 (T.ofList [[iV r.f.room],[iV r.f.no],[iV r.f.known],[iV r.f.kind]])])=some [⟨.str (D7 K4 (G9 r)),m1⟩]
 E:Ext m m1
 q:m1.get m.nx=some (j5 r.f.cells)
 nx:m.nx+2<=m1.nx
 s1:eH (D7 K4 (G9 r)) [10]=some (.str (D7 K4 (G9 r) ++ [10]))
 s2:eH (D7 K4 (G9 r) ++ [10]) (T9 r)=some (.str (D7 K4 (G9 r)++10::T9 r))
 s3:eH (D7 K4 (G9 r)++10::T9 r) [10]=some (.str (D8 r))
theorem txh {m:Mem}{r:FR}(a:m.Ok)(e:m.lim<=m.nx)(d:r.valid=true)(n b:Nat)(c:20001<=b):∃m1,TxH m r n b m1:=by
 let L:List Z6:=[j5 r.f.cells,.cells 1 4 (T.ofList [[iV r.f.room],[iV r.f.no],[iV r.f.known],[iV r.f.kind]])]
 have E0:=r9 a L;obtain⟨m1,g,E1⟩:=rV (v:=.slice (m.nx+1) 0 4 4) (xs:=G9 r) (I5 a L) (by simp [L];omega) (fT (xs:=G9 r) (by rw [l5 a];rfl) (by simp [L]) rfl) (by simp [G9]) (nG d) K4 (by simp [K4]) n b c;have h:=jJ d;have i:=kR d;refine⟨m1,g,E0.trans E1,by rw [E1.old _ (by simp [L]),j6 a];rfl,by have:=E1.nx;simpa [L] using this,V9 (by simp;omega),?_,?_⟩;rw [V9 (by simp;omega)];simp;rw [V9 (by simp;omega)];simp [D8]
theorem ay6 {m:Mem}{r:FR}(o:m.Ok)(l:m.lim<=m.nx)(A:Z4 m r)(p:r.valid=true)(i:r.f.kind=1)(n b:Nat)(c:20001<=b):
  ∃m',l8 KW b (n+18) (.func 15) [.agg r.f.cells] m=some [⟨.str (D8 r),m'⟩]∧Ext m m':=by
 obtain⟨a,h⟩:=txh o l p n b c;have t:=gu p;have s:T9 r=D7 rR [r.f.flo,r.f.fhi]:=by rw [T9,if_pos i]
 have d:a.lim<=a.nx:=by rw [h.E.lim];have:=h.E.nx;omega
 have E2:=r9 h.E.ok [.cells 1 2 (T.ofList [[iV r.f.flo],[iV r.f.fhi]])];obtain⟨u,e,E3⟩:=rV (v:=.slice a.nx 0 2 2) (xs:=[r.f.flo,r.f.fhi]) E2.ok (by rw [E2.lim];have:=E2.nx;omega) (fT (xs:=[r.f.flo,r.f.fhi]) (by rw [j6 h.E.ok];rfl) (by simp) rfl) (by simp) (by simpa using t.k1 i) rR (by simp [rR]) n b c;have e:l8 KW b (n+17) (.func 49) [.str [102,105,108,109],.slice a.nx 0 2 2] _=_:=e;rw [← s] at e;refine⟨u,?_,(h.E.trans E2).trans E3⟩;obtain⟨g,_,q,B,x,y,z⟩:=h;have w:∀k,(ext a k).get m.nx=some (j5 r.f.cells):=λk=>by rw [H6 ‹Ext m a›.ok _ (by omega)];exact q
 rw [i] at g;have j:=‹Ext m a›.ok;rw [enter (sf:=f15) rfl rfl];simp (maxSteps:=3000000) [f15,dI,fB,gD,bR,cu,aX,bD o l,fJ,aC,bC,aB,A8,ku j d,P8,aG,aF,i,g,q,w,x,y,z,e]
theorem ay7 {m:Mem}{r:FR}(o:m.Ok)(l:m.lim<=m.nx)(A:Z4 m r)(p:r.valid=true)(i:r.f.kind=2)(n b:Nat)(c:20001<=b):
  ∃m',l8 KW b (n+18) (.func 15) [.agg r.f.cells] m=some [⟨.str (D8 r),m'⟩]∧Ext m m':=by
 obtain⟨a,h⟩:=txh o l p n b c;have t:=gu p;have s:T9 r=D7 mo [r.f.gid,r.f.made,r.f.nom,r.f.tlo,r.f.thi,r.f.gn,r.f.gd,r.f.wear]:=by rw [T9,if_neg (show ¬ r.f.kind=1 by omega),if_pos i]
 have d:a.lim<=a.nx:=by rw [h.E.lim];have:=h.E.nx;omega
 have E2:=r9 h.E.ok [j5 [iV r.f.gid,iV r.f.made,iV r.f.nom,iV r.f.tlo,iV r.f.thi,iV r.f.gn,iV r.f.gd,iV r.f.wear],.cells 1 8 (T.ofList [[iV r.f.gid],[iV r.f.made],[iV r.f.nom],[iV r.f.tlo],[iV r.f.thi],[iV r.f.gn],[iV r.f.gd],[iV r.f.wear]])];obtain⟨u,e,E3⟩:=rV (v:=.slice (a.nx+1) 0 8 8) (xs:=[r.f.gid,r.f.made,r.f.nom,r.f.tlo,r.f.thi,r.f.gn,r.f.gd,r.f.wear]) E2.ok (by rw [E2.lim];have:=E2.nx;omega) (fT (xs:=[r.f.gid,r.f.made,r.f.nom,r.f.tlo,r.f.thi,r.f.gn,r.f.gd,r.f.wear]) (by rw [l5 h.E.ok];rfl) (by simp) rfl) (by simp) (by simpa using t.k2 i) mo (by simp [mo]) n b c;have e:l8 KW b (n+17) (.func 49) [.str [103,97,117,103,101],.slice (a.nx+1) 0 8 8] _=_:=e;rw [← s] at e;refine⟨u,?_,(h.E.trans E2).trans E3⟩;obtain⟨g,_,q,B,x,y,z⟩:=h;have w:∀k,(ext a k).get m.nx=some (j5 r.f.cells):=λk=>by rw [H6 ‹Ext m a›.ok _ (by omega)];exact q
 rw [i] at g;have j:=‹Ext m a›.ok;rw [enter (sf:=f15) rfl rfl];simp (maxSteps:=3000000) [f15,dI,fB,gD,bR,cu,aX,bD o l,fJ,aC,bC,aB,A8,ku j d,P8,aG,aF,i,g,q,w,x,y,z,e,G6.bJ,-Nk]
theorem ay8 {m:Mem}{r:FR}(o:m.Ok)(l:m.lim<=m.nx)(A:Z4 m r)(p:r.valid=true)(i:r.f.kind=3)(n b:Nat)(c:20001<=b):
  ∃m',l8 KW b (n+18) (.func 15) [.agg r.f.cells] m=some [⟨.str (D8 r),m'⟩]∧Ext m m':=by
 obtain⟨a,h⟩:=txh o l p n b c;have t:=gu p;have s:T9 r=D7 CG [r.f.ug,r.f.ud]:=by rw [T9,if_neg (show ¬ r.f.kind=1 by omega),if_neg (show ¬ r.f.kind=2 by omega),if_pos i]
 have d:a.lim<=a.nx:=by rw [h.E.lim];have:=h.E.nx;omega
 have E2:=r9 h.E.ok [.cells 1 2 (T.ofList [[iV r.f.ug],[iV r.f.ud]])];obtain⟨u,e,E3⟩:=rV (v:=.slice a.nx 0 2 2) (xs:=[r.f.ug,r.f.ud]) E2.ok (by rw [E2.lim];have:=E2.nx;omega) (fT (xs:=[r.f.ug,r.f.ud]) (by rw [j6 h.E.ok];rfl) (by simp) rfl) (by simp) (by simpa using t.k3 i) CG (by simp [CG]) n b c;have e:l8 KW b (n+17) (.func 49) [.str [117,115,101],.slice a.nx 0 2 2] _=_:=e;rw [← s] at e;refine⟨u,?_,(h.E.trans E2).trans E3⟩;obtain⟨g,_,q,B,x,y,z⟩:=h;have w:∀k,(ext a k).get m.nx=some (j5 r.f.cells):=λk=>by rw [H6 ‹Ext m a›.ok _ (by omega)];exact q
 rw [i] at g;have j:=‹Ext m a›.ok;rw [enter (sf:=f15) rfl rfl];simp (maxSteps:=3000000) [f15,dI,fB,gD,bR,cu,aX,bD o l,fJ,aC,bC,aB,A8,ku j d,P8,aG,aF,i,g,q,w,x,y,z,e]
theorem ay9 {m:Mem}{r:FR}(o:m.Ok)(l:m.lim<=m.nx)(A:Z4 m r)(p:r.valid=true)(i:r.f.kind=4)(n b:Nat)(c:20001<=b):
  ∃m',l8 KW b (n+18) (.func 15) [.agg r.f.cells] m=some [⟨.str (D8 r),m'⟩]∧Ext m m':=by
 obtain⟨a,h⟩:=txh o l p n b c;have t:=gu p;have s:T9 r=D7 rT [r.f.lg,r.f.ll,r.f.lh,r.f.lw]:=by rw [T9,if_neg (show ¬ r.f.kind=1 by omega),if_neg (show ¬ r.f.kind=2 by omega),if_neg (show ¬ r.f.kind=3 by omega),if_pos i]
 have d:a.lim<=a.nx:=by rw [h.E.lim];have:=h.E.nx;omega
 have E2:=r9 h.E.ok [.cells 1 4 (T.ofList [[iV r.f.lg],[iV r.f.ll],[iV r.f.lh],[iV r.f.lw]])];obtain⟨u,e,E3⟩:=rV (v:=.slice a.nx 0 4 4) (xs:=[r.f.lg,r.f.ll,r.f.lh,r.f.lw]) E2.ok (by rw [E2.lim];have:=E2.nx;omega) (fT (xs:=[r.f.lg,r.f.ll,r.f.lh,r.f.lw]) (by rw [j6 h.E.ok];rfl) (by simp) rfl) (by simp) (by simpa using t.k4 i) rT (by simp [rT]) n b c;have e:l8 KW b (n+17) (.func 49) [.str [108,111,97,110],.slice a.nx 0 4 4] _=_:=e;rw [← s] at e;refine⟨u,?_,(h.E.trans E2).trans E3⟩;obtain⟨g,_,q,B,x,y,z⟩:=h;have w:∀k,(ext a k).get m.nx=some (j5 r.f.cells):=λk=>by rw [H6 ‹Ext m a›.ok _ (by omega)];exact q
 rw [i] at g;have j:=‹Ext m a›.ok;rw [enter (sf:=f15) rfl rfl];simp (maxSteps:=3000000) [f15,dI,fB,gD,bR,cu,aX,bD o l,fJ,aC,bC,aB,A8,ku j d,P8,aG,aF,i,g,q,w,x,y,z,e]
theorem aya {m:Mem}{r:FR}(o:m.Ok)(l:m.lim<=m.nx)(A:Z4 m r)(p:r.valid=true)(i:r.f.kind=7)(n b:Nat)(c:20001<=b):
  ∃m',l8 KW b (n+18) (.func 15) [.agg r.f.cells] m=some [⟨.str (D8 r),m'⟩]∧Ext m m':=by
 obtain⟨a,h⟩:=txh o l p n b c;have t:=gu p;have s:T9 r=D7 dO [r.f.tr,r.f.tn]:=by rw [T9,if_neg (show ¬ r.f.kind=1 by omega),if_neg (show ¬ r.f.kind=2 by omega),if_neg (show ¬ r.f.kind=3 by omega),if_neg (show ¬ r.f.kind=4 by omega),if_neg (show ¬ r.f.kind=5 by omega),if_neg (show ¬ r.f.kind=6 by omega),if_pos i]
 have d:a.lim<=a.nx:=by rw [h.E.lim];have:=h.E.nx;omega
 have E2:=r9 h.E.ok [.cells 1 2 (T.ofList [[iV r.f.tr],[iV r.f.tn]])];obtain⟨u,e,E3⟩:=rV (v:=.slice a.nx 0 2 2) (xs:=[r.f.tr,r.f.tn]) E2.ok (by rw [E2.lim];have:=E2.nx;omega) (fT (xs:=[r.f.tr,r.f.tn]) (by rw [j6 h.E.ok];rfl) (by simp) rfl) (by simp) (by simpa using t.k7 i) dO (by simp [dO]) n b c;have e:l8 KW b (n+17) (.func 49) [.str [119,105,116,104,100,114,97,119],.slice a.nx 0 2 2] _=_:=e;rw [← s] at e;refine⟨u,?_,(h.E.trans E2).trans E3⟩;obtain⟨g,_,q,B,x,y,z⟩:=h;have w:∀k,(ext a k).get m.nx=some (j5 r.f.cells):=λk=>by rw [H6 ‹Ext m a›.ok _ (by omega)];exact q
 rw [i] at g;have j:=‹Ext m a›.ok;rw [enter (sf:=f15) rfl rfl];simp (maxSteps:=3000000) [f15,dI,fB,gD,bR,cu,aX,bD o l,fJ,aC,bC,aB,A8,ku j d,P8,aG,aF,i,g,q,w,x,y,z,e]
theorem abB {m:Mem}{v:d9}{xs:List Int}(h:Y9 m v xs):AM.lenOf v=some (ints xs).length:=by
 have e:(ints xs).length=xs.length:=by simp [ints]
 rw [e];rcases h with⟨rfl,rfl⟩ | ⟨id,⟨c,rfl⟩ | ⟨c,rfl⟩,_⟩<;>rfl
theorem afv {m:Mem}{v:d9}{xs:List Int}(h:Y9 m v xs):aj m 1 (ints xs).length v=some (ints xs):=by
 have e:(ints xs).length=xs.length:=by simp [ints]
 rw [e];exact h.read
theorem al6 {lo bytes:Nat}{m:Mem}{v x:d9}{l xs:List d9}(o:m.Ok)(a:m.lim<=lo)(c:lo<=m.nx)(h:aM lo m v l)(d:AM.lenOf x=some xs.length)(e:aj m 1 xs.length x=some xs)(k:I7 xs=true)(hb:l.length+xs.length<=100000)(b:1<=bytes∧bytes<=1000):
  ∃v' m',(∀(s y:OF) (cf:H7) (ls:List d9) (env:T d9),s ls env=v->y ls env=x->lu 1 bytes s y cf ls env m=some [⟨v',m'⟩])∧aM lo m' v' (l++xs)∧Fr lo lo m m':=by
 obtain⟨v',m',g,i,j⟩:=VT o a c h k hb b;refine⟨v',m',λs y cf ls env p q=>?_,i,j⟩;show ob (AM.lenOf (y ls env)) (λn=>ob (aj m 1 n (y ls env)) λf=>kT m 1 bytes n f (s ls env))=_;rw [q,p,d,I9,e,I9,g]
theorem ayb {m:Mem}{r:FR}(I:m.Ok)(H:m.lim<=m.nx)(K:Z4 m r)(M:r.valid=true)(w:r.f.kind=6)(n j:Nat)(o:20001<=j):
  ∃m',l8 KW j (n+18) (.func 15) [.agg r.f.cells] m=some [⟨.str (D8 r),m'⟩]∧Ext m m':=by
 obtain⟨c,h⟩:=txh I H M n j o;obtain⟨N,O,Z⟩:=(gu M).k6 w;have P:T9 r=D7 vG (r.f.mday::r.l):=by rw [T9,if_neg (show ¬ r.f.kind=1 by omega),if_neg (show ¬ r.f.kind=2 by omega),if_neg (show ¬ r.f.kind=3 by omega),if_neg (show ¬ r.f.kind=4 by omega),if_neg (show ¬ r.f.kind=5 by omega),if_pos w];exact (Yl vG [r.f.mday] r.l).symm
 obtain⟨g,k,q,nx,W,X,Y⟩:=h;have b:=k.ok;have e:c.lim<=c.nx:=by rw [k.lim];have:=k.nx;omega
 have E2:=r9 b [j5 [iV r.f.mday]];have t:=(K.ext k).ext E2;have D:(ints r.l).length=r.l.length:=by simp [ints]
 obtain⟨A,m2,Q,J,F2⟩:=al6 (bytes:=8) (lo:=c.nx) E2.ok (by rw [E2.lim];exact e) E2.nx (Pn b (aA _) (iV r.f.mday) rfl) (abB t.l) (afv t.l) (Ri _) (by rw [D];simp;omega) ⟨by omega,by omega⟩;have E3:Ext c m2:=(E2.fr (p:=c.nx) (aA _) |>.trans F2).ext (aA _) (aA _)
 have E:aM c.nx m2 A (ints (r.f.mday::r.l)):=J;obtain⟨R,u,E4⟩:=rV (v:=A) (xs:=r.f.mday::r.l) E3.ok (by rw [E3.lim];have:=E3.nx;omega) E.sl (by simp;omega) (λy F=>by
  rcases O9.1 F with rfl | F;exact N;exact O y F) vG (by simp [vG]) n j o
 have u:l8 KW j (n+17) (.func 49) [.str [109,105,120],A] m2=_:=u;rw [← P] at u;refine⟨R,?_,(k.trans E3).trans E4⟩;have V:∀G,(ext c G).get m.nx=some (j5 r.f.cells):=λG=>by rw [H6 b _ (by omega)];exact q
 rw [w] at g;have U:=λ{β:Type} (p:d9->β) q=>J.vs.aY p q;have S:=λ{β:Type} (p:d9->β) q=>K.l.aY p q;have C:∀z x i a d,List.length z=1->I8 1 1 z x i a d=ob (lay x i a z) λcells=>if cells.length=1 then some (.slice d 0 1 1,some (j5 cells)) else none:=λz x i a d h=>J3 1 z x i a d h
 have B:∀(s y:OF) (cf:H7) (i:List d9) (a:T d9),s i a=.slice c.nx 0 1 1->y i a=r.f.L->lu 1 8 s y cf i a (ext c [j5 [iV r.f.mday]])=some [⟨A,m2⟩]:=Q;rw [enter (sf:=f15) rfl rfl];simp (maxSteps:=3000000) [f15,dI,fB,gD,bR,cu,aX,bD I H,fJ,aC,bC,aB,A8,ku b e,P8,C,aG,aF,w,g,q,V,W,X,Y,B,U,S,u]
theorem ayc {m:Mem}{r:FR}(S:m.Ok)(R:m.lim<=m.nx)(j:Z4 m r)(K:r.valid=true)(E:r.f.kind=5)(n d:Nat)(e:20001<=d):
  ∃m',l8 KW d (n+18) (.func 15) [.agg r.f.cells] m=some [⟨.str (D8 r),m'⟩]∧Ext m m':=by
 obtain⟨i,h⟩:=txh S R K n d e;obtain⟨V,N,O,b4,b5⟩:=(gu K).k5 E;have o:∀y∈[r.f.cday,r.f.diff,r.f.err,r.f.hlo,r.f.hhi],Sm y:=by simpa using V
 obtain⟨g,s,q,nx,s1,_,s3⟩:=h;have c:=s.ok;have u:i.lim<=i.nx:=by rw [s.lim];have:=s.nx;omega
 let c5:Z6:=.cells 1 5 (T.ofList [[iV r.f.cday],[iV r.f.diff],[iV r.f.err],[iV r.f.hlo],[iV r.f.hhi]])
 have E1:=r9 c [j5 r.f.cmp,c5];have I:=(j.ext s).ext E1;obtain⟨C,D,E2⟩:=rV (v:=.slice (i.nx+1) 0 5 5) (xs:=[r.f.cday,r.f.diff,r.f.err,r.f.hlo,r.f.hhi]) E1.ok (by rw [E1.lim];have:=E1.nx;omega) (fT (by rw [l5 c];rfl) (by simp) rfl) (by simp) o U4 (by simp [U4]) n d e;have D:l8 KW d (n+17) (.func 49) [.str [99,111,109,112,97,114,101],.slice (i.nx+1) 0 5 5] (ext i [j5 r.f.cmp,c5])=_:=D;have w:C.lim<=C.nx:=by rw [E2.lim,E1.lim];have:=E1.nx;have:=E2.nx;omega
 have t:=I.ext E2;obtain⟨F,G,E3⟩:=rV E2.ok w t.a (by omega) N (32::kA) (by simp [kA]) n d e;have G:l8 KW d (n+17) (.func 49) [.str [32,97],r.f.A] C=_:=G;have z:F.lim<=F.nx:=by rw [E3.lim];have:=E3.nx;omega
 have J:=t.ext E3;obtain⟨Z,H,E4⟩:=rV E3.ok z J.b (by omega) O (32::kB) (by simp [kB]) n d e;have H:l8 KW d (n+17) (.func 49) [.str [32,98],r.f.B] F=_:=H;refine⟨Z,?_,(((s.trans E1).trans E2).trans E3).trans E4⟩;have q':∀P,(ext i P).get m.nx=some (j5 r.f.cells):=λP=>by rw [H6 c _ (by omega)];exact q
 have Q:C.get i.nx=some (j5 r.f.cmp):=by rw [E2.old _ (by simp),j6 c];rfl
 have W:F.get i.nx=some (j5 r.f.cmp):=by rw [E3.old _ (by have:=E2.nx;simp at this;omega)];exact Q
 have v2:∀l:Z6,C.get (i.nx+1)=some c5:=λ_=>by rw [E2.old _ (by simp),l5 c];rfl
 have pa:=λ{β:Type} (p:d9->β) q=>j.a.aY p q;have pb:=λ{β:Type} (p:d9->β) q=>j.b.aY p q;have sa:bS 100 r.f.A r.f.A=true:=fK j.a 99;have sb:bS 100 r.f.B r.f.B=true:=fK j.b 99;have oa:=j.a.A8;have M:=j.b.A8;have o3:I7 r.f.cmp=true:=by simp [G6.cmp,oa,M,show ∀k x,A8 (.int k x)=true from λ_ _=>rfl,-G6.aZ]
 have l0:=jJ K;have L:=aL U4 [r.f.cday,r.f.diff,r.f.err,r.f.hlo,r.f.hhi] o;have U:=aL (32::kA) r.a N;have Y:=aL (32::kB) r.b O;have X:T9 r=D7 U4 [r.f.cday,r.f.diff,r.f.err,r.f.hlo,r.f.hhi]++D7 (32::kA) r.a++D7 (32::kB) r.b:=by rw [T9,if_neg (show ¬ r.f.kind=1 by omega),if_neg (show ¬ r.f.kind=2 by omega),if_neg (show ¬ r.f.kind=3 by omega),if_neg (show ¬ r.f.kind=4 by omega),if_pos E]
 have t1:eH (D7 K4 (G9 r) ++ [10]) (D7 U4 [r.f.cday,r.f.diff,r.f.err,r.f.hlo,r.f.hhi])=some (.str (D7 K4 (G9 r)++10::D7 U4 [r.f.cday,r.f.diff,r.f.err,r.f.hlo,r.f.hhi])):=by rw [V9 (by simp [U4] at L ⊢;omega)];simp
 have t2:eH (D7 K4 (G9 r)++10::D7 U4 [r.f.cday,r.f.diff,r.f.err,r.f.hlo,r.f.hhi]) (D7 (32::kA) r.a)=some (.str (D7 K4 (G9 r)++10::(D7 U4 [r.f.cday,r.f.diff,r.f.err,r.f.hlo,r.f.hhi]++D7 (32::kA) r.a))):=by rw [V9 (by simp [U4,kA] at L U ⊢;omega)];simp
 have t3:eH (D7 K4 (G9 r)++10::(D7 U4 [r.f.cday,r.f.diff,r.f.err,r.f.hlo,r.f.hhi]++D7 (32::kA) r.a)) (D7 (32::kB) r.b)=some (.str (D7 K4 (G9 r)++10::T9 r)):=by rw [V9 (by simp [U4,kA,kB] at L U Y ⊢;omega),X];simp
 rw [E] at g;simp only [c5] at D;rw [enter (sf:=f15) rfl rfl];simp (maxSteps:=3000000) [f15,bD S R,fJ,aC,bC,aB,dI,fB,gD,bR,cu,aX,ku c u,P8,aG,aF,E,g,q,q',s1,s3,t1,t2,t3,D,G,H,Q,W,pa,pb,sa,sb,o3,isVoid,J2,S9]
theorem abC {m:Mem}{r:FR}(e:m.Ok)(d:m.lim<=m.nx)(g:Z4 m r)(c:r.valid=true)(n b:Nat)(a:20001<=b):
  ∃m',l8 KW b (n+18) (.func 15) [.agg r.f.cells] m=some [⟨.str (D8 r),m'⟩]∧Ext m m':=by
 obtain⟨h,i⟩:=jo c;by_cases h1:r.f.kind=1;exact ay6 e d g c h1 n b a;by_cases h2:r.f.kind=2;exact ay7 e d g c h2 n b a;by_cases h3:r.f.kind=3;exact ay8 e d g c h3 n b a;by_cases h4:r.f.kind=4;exact ay9 e d g c h4 n b a;by_cases h5:r.f.kind=5;exact ayc e d g c h5 n b a;by_cases h6:r.f.kind=6;exact ayb e d g c h6 n b a;by_cases h7:r.f.kind=7;exact aya e d g c h7 n b a;omega
theorem afw {lo:Nat}(f p I:d9)(s:By)(R:s.length<=20000)(cf:H7)(L:Nat):∀(k i:Nat),s.length<=i+k->i<=s.length+64->∀(l:List By) (m:Mem) (out a4:d9) (N:Nat),m.Ok->m.lim<=lo->lo<=m.nx->aM lo m out (strs l)->l.length<=i->k+1<=N->
  ∃(out' i':d9) (m':Mem),J5 (λenv m k=>Ke cf L none env m k) N (.nd (.nd (.nd (.nd .e .nilSlice .e) (.str s) .e) p (.nd .e out .e)) f (.nd (.nd .e a4 .e) (.int .i64 (i:Int)) (.nd .e I .e))) m []=some [⟨.exit 0,(.nd (.nd (.nd (.nd .e .nilSlice .e) (.str s) .e) p (.nd .e out' .e)) f (.nd (.nd .e (.bool false) .e) i' (.nd .e I .e))),m',[],none⟩]∧Fr lo lo m m'∧aM lo m' out' (strs (l++chunks (s.drop i))):=by
 intro k;induction k with
 | zero=>intro i hi A l m out a4 N n u b o P O;obtain⟨N,rfl⟩:∃k,N=k+1:=⟨N-1,by omega⟩;have j:decide ((i:Int)<(s.length:Int))=false:=decide_eq_false (by omega);refine⟨out,.int .i64 (i:Int),m,?_,Fr.refl n,by rw [zu (by omega),fM,acH];exact o⟩;rw [l9];simp [Ke,dI,fB,gD,bR,cu,aX,j,show ¬ i<s.length from by omega]
 | succ k ih=>
  intro i hi A l m out a4 N n u b o P O;obtain⟨N,rfl⟩:∃k,N=k+1:=⟨N-1,by omega⟩;by_cases h0:i<s.length;have j:decide ((i:Int)<(s.length:Int))=true:=decide_eq_true (by omega);have B:s.drop i≠[]:=λh=>by have:=congrArg List.length h;simp at this;omega
  have U:=λ{β:Type} (p:d9->β) q=>o.vs.aY p q;have J:lI ((i:Int)+64)=((i+64:Nat):Int):=by rw [Z8 (by omega) (by omega)];omega
  have G:∀(x y:OF) (ls:List d9) (env:T d9),x ls env=.int .i64 (s.length:Int)->y ls env=.int .i64 ((i+64:Nat):Int)->SX false x [y] ls env=some (.int .i64 ((min s.length (i+64):Nat):Int)):=λx y ls env D S=>Iz D S;have E:=λx lo hi ls env D u Q=>MJ (x:=x) (lo:=lo) (hi:=hi) (ls:=ls) (env:=env) (s:=s) (l:=i) (h:=min s.length (i+64)) D u Q (by omega) (aCQ _ _);have K:(s.drop i).take (min s.length (i+64)-i)=(s.drop i).take 64:=by rw [← RX (s.drop i)];congr 1;simp;omega
  rw [K] at E;generalize hz:((i+64:Nat):Int)=Z at J G;generalize ((min s.length (i+64):Nat):Int)=Y at G E;have E2:=(Ext.refl n).new (j5 [.str ((s.drop i).take 64)]);obtain⟨d,m3,M,r,F3⟩:=uD (bytes:=16) E2.ok (by show m.lim<=lo;omega) (nM b E2.nx) (o.ext E2) (zZ n (.str ((s.drop i).take 64))) rfl (by rw [G8];simp;omega) ⟨by omega,by omega⟩;have FF:Fr lo lo m m3:=(E2.fr b).trans F3;have t:aM lo m3 d (strs (l ++ [(s.drop i).take 64])):=by rw [vD];exact r
  have H:=λ{β:Type} (p:d9->β) q=>r.vs.aY p q;have w:∀z v ls env c,List.length z=1->I8 1 1 z v ls env c=ob (lay v ls env z) λa=>if a.length=1 then some (.slice c 0 1 1,some (j5 a)) else none:=λz v ls env c h=>J3 1 z v ls env c h
  obtain⟨out',i',m',g,F,C⟩:=ih (i+64) (by omega) (by omega) (l ++ [(s.drop i).take 64]) m3 d (.bool true) N FF.ok (by rw [FF.lim];exact u) (nM b FF.nx) t (by simp;omega) (by omega);refine⟨out',i',m',?_,FF.trans F,?_⟩;rw [hz] at g;rw [l9,← g];simp [Ke,dI,fB,gD,bR,cu,aX,j,h0,J,G,E,U,H,w,fJ,M];rw [mM B,ajK];simpa using C;have j:decide ((i:Int)<(s.length:Int))=false:=decide_eq_false (by omega);refine⟨out,.int .i64 (i:Int),m,?_,Fr.refl n,by rw [zu (by omega),fM,acH];exact o⟩;rw [l9];simp [Ke,dI,fB,gD,bR,cu,aX,j,h0]
theorem abD {m:Mem}{r:FR}(E:m.Ok)(Q:m.lim<=m.nx)(R:Z4 m r)(J:r.valid=true)(g:Int)(F:Sm g)(n b:Nat)(o:20001<=b):
  ∃v m',l8 KW b (n+19) (.func 18) [.int .i64 g,.agg r.f.cells] m=some [⟨v,m'⟩]∧Ext m m'∧dB m' v (strs (oJ g (D8 r))):=by
 have E0:=r9 E [j5 r.f.cells];obtain⟨l,M,E1⟩:=abC (I5 E [j5 r.f.cells]) (by simp;omega) (R.ext E0) J n b o;have E01:=E0.trans E1;have Y:=jK J;have S:l.lim<=l.nx:=by rw [E01.lim];have:=E01.nx;omega
 obtain⟨U,X,m2,B,F2,w⟩:=afw (lo:=l.nx) (.agg r.f.cells) (.ptr m.nx 0) (.int .i64 g) (D8 r) (by omega) (l8 KW b (n+18)) b (D8 r).length 0 (by omega) (by omega) [] l .nilSlice .undef b E1.ok S (aA _) (aM.nil _ _) (by simp) (by omega);have B:J5 (λa m k=>Ke (l8 KW b (n+18)) b none a m k) b (.nd (.nd (.nd (.nd .e .nilSlice .e) (.str (D8 r)) .e) (.ptr m.nx 0) (.nd .e .nilSlice .e)) (.agg r.f.cells) (.nd (.nd .e .undef .e) (.int .i64 0) (.nd .e (.int .i64 g) .e))) l []=_:=B;have E2:Ext l m2:=F2.ext (aA _) (aA _);rw [aaE,abR] at w;have D:=kF _ _ (aA (D8 r).length);have N:=al1 (D8 r) (by omega) (n+17) b (by omega) m2;let b4:Z6:=.cells 1 4 (T.ofList [[.int .i64 g],[.int .i64 ((chunks (D8 r)).length:Int)],[.int .i64 ((D8 r).length:Int)],[.int .i64 (rU (D8 r):Int)]])
 have E3:=r9 E2.ok [b4];have W:=Iw (D8 r);have H:∀x∈[g,((chunks (D8 r)).length:Int),((D8 r).length:Int),(rU (D8 r):Int)],Sm x:=by intro x K;simp only [O9,ald,or_false] at K;rcases K with rfl | rfl | rfl | rfl;exact F;all_goals unfold Sm;omega
 obtain⟨c,u,E4⟩:=rV (v:=.slice m2.nx 0 4 4) (xs:=[g,((chunks (D8 r)).length:Int),((D8 r).length:Int),(rU (D8 r):Int)]) E3.ok (by rw [E3.lim,E2.lim];have:=E3.nx;have:=E2.nx;omega) (fT (by rw [j6 E2.ok];rfl) (by simp) rfl) (by simp) H jq (by simp [jq]) (n+1) b o;let L:=D7 jq [g,((chunks (D8 r)).length:Int),((D8 r).length:Int),(rU (D8 r):Int)]
 have u:l8 KW b (n+18) (.func 49) [.str [114,101,99,111,114,100],.slice m2.nx 0 4 4] (ext m2 [b4])=some [⟨.str L,c⟩]:=u;have E34:=E3.trans E4;have E5:=r9 E4.ok [j5 [.str L]];have s:(ext c [j5 [.str L]]).lim<=c.nx:=by rw [E5.lim,E34.lim,E2.lim];have:=E34.nx;have:=E2.nx;omega
 have G:aM c.nx (ext c [j5 [.str L]]) (.slice c.nx 0 1 1) [.str L]:=Pn (lo:=c.nx) (m:=c) E4.ok (aA _) (.str L) rfl;obtain⟨v,m5,O,t,F5⟩:=uD (bytes:=16) (lo:=c.nx) E5.ok s E5.nx G ((w.ext E34).ext E5).vs (vC _) (by rw [G8];simp;omega) ⟨by omega,by omega⟩;have E6:Ext c m5:=⟨F5.ok,nM E5.nx F5.nx,by rw [F5.lim];exact E5.lim,λi P=>by rw [F5.old i (by omega) (by omega)];exact E5.old i P⟩;have V:=λ{β:Type} (p:d9->β) q=>w.vs.aY p q;have I:=λ{β:Type} (p:d9->β) q=>t.vs.aY p q;have j:=w.vs.len;rw [G8] at j;have C:∀z A y a d,List.length z=1->I8 1 1 z A y a d=ob (lay A y a z) λcells=>if cells.length=1 then some (.slice d 0 1 1,some (j5 cells)) else none:=λz A y a d h=>J3 1 z A y a d h
 refine⟨v,m5,?_,((E01.trans E2).trans E34).trans E6,t.vs⟩;simp only [b4] at u;rw [enter (sf:=f18) rfl rfl];simp [f18,dI,fB,gD,bR,cu,aX,o9,w9,ku E Q,fJ,aC,bC,aB,A8,M,B,N,u,O,V,I,j,C,P8,aG,aF]
theorem wL (c:UInt8):∀l,((splitB c l).map List.length).sum+(splitB c l).length=l.length+1
 | []=>by simp [splitB]
 | b::l=>by have ih:=wL c l;rw [splitB];split;simp;omega;obtain⟨w,ws,h⟩:=mK c l;rw [h] at ih ⊢;simp [RJ] at ih ⊢;omega
theorem wM (c:UInt8):∀l,∀x∈splitB c l,x.length<=l.length
 | [],x,hx=>by simp [splitB] at hx;subst hx;simp
 | b::l,x,hx=>by rw [splitB] at hx;split at hx;rcases O9.1 hx with rfl | hx;simp;have:=wM c l x hx;simp;omega;obtain⟨w,ws,h⟩:=mK c l;have ih:=wM c l;rw [h] at hx ih;rcases O9.1 hx with rfl | hx;have:=ih w (by simp);simp;omega;have:=ih x (by simp [hx]);simp;omega
theorem Ay:∀(k:Nat) (ws:List By),(aI k ws).1.length<=ws.length∧(aI k ws).2.length<=ws.length
 | _,[]=>by simp [aI]
 | k,w::ws=>by have i1:=Ay 1 ws;have i2:=Ay 2 ws;have i3:=Ay k ws;rw [aI];split;simp;omega;split;simp;omega;split;simp;omega;split;simp;omega;simp;omega
theorem Nw (w:By)(ws:List By)(a:Nat):a<=(dK (w::ws) a).length∧((dK (w::ws) a).length<=max a ws.length):=by simp [dK,zW];omega
theorem Ym (w:List By)(a:Nat):∀x∈dK w a,Z9 x:=by intro x b;simp only [dK,zW,O5,acE,List.mem_replicate] at b;rcases b with⟨y,_,rfl⟩ | ⟨_,rfl⟩;exact abf y;exact⟨by omega,by omega⟩
theorem vat {m:Mem}{v:d9}{xs:List d9}(h:dB m v xs){i:Nat}(hi:i<xs.length):∃id o,id<m.nx∧(∀(x y:OF) (ls:List d9) (env:T d9),x ls env=v->y ls env=iV (i:Int)->jY 1 x y ls env=some (.ptr id o))∧ld1 (m.get id) o=some xs[i]:=by obtain⟨id,o,a,b,c⟩:=h.at hi;refine⟨id,o,b,λx y ls env d e=>?_,c⟩;rw [gK,d,e];simpa using a
theorem iat {lo:Nat}{m:Mem}{v:d9}{xs:List Int}(h:aM lo m v (ints xs))(i:Nat)(hi:i<xs.length):∃id o,id<m.nx∧(∀(x y:OF) (ls:List d9) (env:T d9),x ls env=v->y ls env=iV (i:Int)->jY 1 x y ls env=some (.ptr id o))∧ld1 (m.get id) o=some (iV (xs.getD i 0)):=by obtain⟨id,o,a,b,c⟩:=vat h.vs (i:=i) (by simp [ints];exact hi);refine⟨id,o,a,b,?_⟩;rw [c,M9,cB hi];simp [ints]
theorem KJ (w:List By)(a i:Nat):Z9 ((dK w a).getD i 0):=by by_cases h:i<(dK w a).length;rw [M9,cB h];exact Ym w a _ (M8 h);rw [M9,ajv (by omega)];exact⟨by decide,by decide⟩
theorem abE {N:Mem}{r:FR}{s:By}{a q:Nat}(F:N.Ok)(u:N.lim<=N.nx)(o:Z4 N r)(G:r.a.length<20000)(H:r.b.length<20000)(I:r.l.length<20000)(E:q<N.nx)(x:a<N.nx)(j:N.lim<=a)(D:N.get q=some (j5 r.f.cells))(C:N.get a=some (j5 zr))(n d:Nat)(z:20001<=d):
  (∃m8 Nz,r.valid=false∧l8 KW d (n+18) (.func 14) [.agg r.f.cells] N=some [⟨fV,m8⟩]∧(∀{β:Type} (k:Mem->Option β),storeAt m8 a 0 zr k=k Nz)∧Nz.get a=some (j5 zr)∧dh a N Nz)∨
  (∃m8 m9 Nz,r.valid=true∧D8 r≠s∧l8 KW d (n+18) (.func 14) [.agg r.f.cells] N=some [⟨tV,m8⟩]∧m8.get q=some (j5 r.f.cells)∧l8 KW d (n+18) (.func 15) [.agg r.f.cells] m8=some [⟨.str (D8 r),m9⟩]∧(∀{β:Type} (k:Mem->Option β),storeAt m9 a 0 zr k=k Nz)∧Nz.get a=some (j5 zr)∧dh a N Nz)∨
  (∃m8 m9 Nz,r.valid=true∧D8 r=s∧l8 KW d (n+18) (.func 14) [.agg r.f.cells] N=some [⟨tV,m8⟩]∧m8.get q=some (j5 r.f.cells)∧l8 KW d (n+18) (.func 15) [.agg r.f.cells] m8=some [⟨.str (D8 r),m9⟩]∧m9.get q=some (j5 r.f.cells)∧(∀{β:Type} (k:Mem->Option β),storeAt m9 a 0 r.f.cells k=k Nz)∧Nz.get a=some (j5 r.f.cells)∧dh a N Nz∧Z4 Nz r):=by
 obtain⟨m8,g,E8⟩:=akM F u (o.at' G H I) (n+11) d (by omega) o.ga o.gb;have g:l8 KW d (n+18) (.func 14) [.agg r.f.cells] N=some [⟨.bool r.valid,m8⟩]:=g;have y:m8.get a=some (j5 zr):=by rw [E8.old a x];exact C
 have A:m8.lim<=m8.nx:=by rw [E8.lim];have:=E8.nx;omega
 by_cases hv:r.valid=true;rw [hv] at g;have p:m8.get q=some (j5 r.f.cells):=by rw [E8.old q E];exact D
 obtain⟨m9,B,E9⟩:=abC E8.ok A (o.ext E8) hv n d z;have E89:=E8.trans E9;have i:m9.get a=some (j5 zr):=by rw [E89.old a x];exact C
 have t:a<m9.nx:=aP x E89.nx;by_cases ht:D8 r=s;obtain⟨Nf,w,h,X⟩:=aK (off:=0) (vs:=r.f.cells) E9.ok t (by rw [E89.lim];exact j) i (by rw [G6.len];simp) (by rw [G6.len];omega) (Po o);have h:Nf.get a=some (j5 r.f.cells):=by rw [h,G6.len];simp
 have m:∀n rows,m9.get a≠some (.cells 1 n rows):=λn rows e=>by rw [i] at e;have e:Z6.cells 32 1 _=.cells 1 n rows:=su e;injection e with e1;cases e1
 have c:=o.ext E89;exact .inr (.inr ⟨m8,m9,Nf,hv,ht,g,p,B,by rw [E89.old q E];exact D,w,h,(E89.toB (id:=a)).trans X,⟨Y9.wZ c.a X m,Y9.wZ c.b X m,Y9.wZ c.l X m,c.ga,c.gb,c.nb⟩⟩);obtain⟨Nz,w,h,X⟩:=aK (off:=0) (vs:=zr) E9.ok t (by rw [E89.lim];exact j) i (by simp) (by simp) rfl;exact .inr (.inl ⟨m8,m9,Nz,hv,ht,g,p,B,w,by rw [h];simp,(E89.toB (id:=a)).trans X⟩);have v:r.valid=false:=aaD.2 hv;rw [v] at g;obtain⟨Nz,w,h,X⟩:=aK (off:=0) (vs:=zr) E8.ok (aP x E8.nx) (by rw [E8.lim];exact j) y (by simp) (by simp) rfl;exact .inl ⟨m8,Nz,v,g,w,by rw [h];simp,(E8.toB (id:=a)).trans X⟩
theorem abF {s b c e:By}{r:FR}(hs:splitB 10 s=[b,c,e])(a:r.cn=RO b c)(h:r.valid=false∨D8 r≠s):∀r',¬ kV s r':=λr' ⟨h1,h2⟩=>by have d:=jo h1;rw [← h2,KF d] at hs;injection hs with e0 hs;injection hs with e1 _;rw [← e0,← e1,UM h1] at a;rcases h with h | h;rw [← lG,a,lG] at h;rw [h1] at h;cases h;exact h (by rw [← wJ r,a,wJ];exact h2)
theorem Yn {s:By}(h:(splitB 10 s).length≠3):∀r',¬ kV s r':=λr' ⟨h1,h2⟩=>h (by rw [← h2,KF (jo h1)];rfl)
theorem Sd (xs:List Int):(ints xs).length=xs.length:=by simp [ints]
theorem afx {lo:Nat}{m:Mem}{v:d9}{xs:List Int}{k:Nat}(h:aM lo m v (ints xs))(w:k<=xs.length)(nid:Nat):∃v' blk,(∀(x a:OF) (ls:List d9) (env:T d9),x ls env=v->a ls env=iV (k:Int)->PU 1 x (some a) none ls env nid=some (v',blk))∧
  ((blk=none∧Y9 m v' (xs.drop k))∨(∃id,blk=some (.tail id)∧v'=.sliceU nid 0 0 1∧xs.drop k=[])):=by
 have b:∀{v':d9} {blk:Option Z6},K6 nid 1 v k none=some (v',blk)->∀(x a:OF) (ls:List d9) (env:T d9),x ls env=v->a ls env=iV (k:Int)->PU 1 x (some a) none ls env nid=some (v',blk):=λC x a ls env s A=>by show jL (a ls env) (λl=>K6 nid 1 (x ls env) l none)=_;rw [A,lN,jB,s];exact C
 have f:Nat.ble k xs.length=true:=qb w;have g:Nat.ble xs.length xs.length=true:=qb (aA _);rcases h with⟨rfl,h0⟩ | ⟨id,h1,h2,h3,h4,h5⟩;have s:xs=[]:=by have:=congrArg List.length h0;rw [Sd] at this;exact abm.1 (by simpa using this)
 subst s;obtain rfl:k=0:=by simpa using w
 exact⟨nS,none,b rfl,.inl ⟨rfl,.inl ⟨rfl,rfl⟩⟩⟩;rw [Sd] at h5;obtain⟨p,F,c,t,E,y,z,G,H,D⟩:=h4;have z:xs.length<=c:=by simpa [ints] using z
 have j:k<xs.length->∀i (u:i<(xs.drop k).length),t.get (k+i)=some [iV (xs.drop k)[i]]:=λd i u=>by
  have r:k+i<xs.length:=by simp at u;omega
  rw [D (k+i) (by simpa [ints] using r)];simp [ints]
 rcases h5 with rfl | rfl;refine⟨.slice id (bi (Nat.beq k xs.length) 0 (Nat.add 0 (Nat.mul k 1))) (Nat.sub xs.length k) (Nat.sub xs.length k),none,b ?_,.inl ⟨rfl,?_⟩⟩;show bi (Nat.ble k xs.length) (bi (Nat.ble xs.length xs.length) _ none) none=_;rw [f,g];rfl;by_cases d:k<xs.length;have B:Nat.beq k xs.length=false:=aaD.2 λe=>by have:=l7 e;omega
 rw [B];have q:(bi false 0 (Nat.add 0 (Nat.mul k 1)):Nat)=k:=by show 0+k*1=k;omega
 rw [q];refine .inr ⟨(id,k),.inl ⟨Nat.sub xs.length k,?_⟩,h2,.inr ⟨c,t,y,by simp;omega,j d⟩⟩;rw [alm];rfl;have o:xs.drop k=[]:=zu (by omega);rw [o];refine .inr ⟨(id,bi (Nat.beq k xs.length) 0 (Nat.add 0 (Nat.mul k 1))),.inl ⟨Nat.sub xs.length k,?_⟩,h2,.inl rfl⟩;rw [show Nat.sub xs.length k=0 from by show xs.length-k=0;omega];rfl;by_cases d:k<xs.length;refine⟨.sliceU id (Nat.add 0 (Nat.mul k 1)) (Nat.sub xs.length k) 1,none,b ?_,.inl ⟨rfl,?_⟩⟩;show bi (Nat.ble k xs.length) (bi (Nat.ble xs.length xs.length) (bi (Nat.beq 1 1) (bi (Nat.blt k xs.length) _ _) none) none) none=_;rw [f,g,show Nat.blt k xs.length=true from O6.mpr d];rfl;have q:Nat.add 0 (Nat.mul k 1)=k:=by show 0+k*1=k;omega
 rw [q];refine .inr ⟨(id,k),.inr ⟨1,?_⟩,h2,.inr ⟨c,t,y,by simp;omega,j d⟩⟩;rw [alm];rfl;have o:xs.drop k=[]:=zu (by omega);have n:Nat.blt k xs.length=false:=aaD.2 λe=>d (O6.mp e);by_cases hz:k=0;subst hz;refine⟨.sliceU id 0 (Nat.sub xs.length 0) 1,none,b ?_,.inl ⟨rfl,?_⟩⟩;show bi (Nat.ble 0 xs.length) (bi (Nat.ble xs.length xs.length) (bi (Nat.beq 1 1) (bi (Nat.blt 0 xs.length) _ (bi (Nat.beq 0 0) _ _)) none) none) none=_;rw [f,g,n];rfl;rw [o];refine .inr ⟨(id,0),.inr ⟨1,?_⟩,h2,.inl rfl⟩;rw [show Nat.sub xs.length 0=0 from by show xs.length-0=0;omega];rfl;refine⟨.sliceU nid 0 0 1,some (.tail id),b ?_,.inr ⟨id,rfl,rfl,o⟩⟩;show bi (Nat.ble k xs.length) (bi (Nat.ble xs.length xs.length) (bi (Nat.beq 1 1) (bi (Nat.blt k xs.length) _ (bi (Nat.beq k 0) _ _)) none) none) none=_;rw [f,g,n,show Nat.beq k 0=false from aaD.2 λe=>hz (l7 e)];rfl
set_option maxHeartbeats 40000000
theorem Az (m:Mem)(i:Nat):Td m i none=m:=rfl
theorem ayd {n:Nat}{P:Nat->Nat->Nat->Prop}(h:∀i,i<n->∃a b,P i a b):∃A B:Nat->Nat,∀i,i<n->P i (A i) (B i):=
 ⟨λi=>if q:i<n then (h i q).choose else 0,λi=>if q:i<n then (h i q).choose_spec.choose else 0,λi q=>by simp only [dif_pos q];exact (h i q).choose_spec.choose_spec⟩
theorem aye {lo:Nat}{m:Mem}{v:d9}{xs:List Int}(h:aM lo m v (ints xs)){n:Nat}(b:n<=xs.length):∃A B:Nat->Nat,∀i,i<n->A i<m.nx∧(∀(x y:OF) (ls:List d9) (env:T d9),x ls env=v->y ls env=.int .i64 (i:Int)->jY 1 x y ls env=some (.ptr (A i) (B i)))∧ld1 (m.get (A i)) (B i)=some (.int .i64 (xs.getD i 0)):=
 ayd λi a=>iat h i (by omega)
def afy (m:Mem)(s:By)(X:pI):Prop:=
 (∃r m',X=some [⟨.tuple [.agg r.f.cells,.bool true],m'⟩]∧Ext m m'∧Z4 m' r∧r.a.length<20000∧r.b.length<20000∧r.l.length<20000∧kV s r)∨
  (∃m',X=some [⟨.tuple [.agg zr,.bool false],m'⟩]∧Ext m m'∧∀r,¬ kV s r)
theorem tL {m M N:Mem}{X:pI}{s j o z:By}{r:FR}{q:Nat}(A:m.lim<=m.nx)(e:splitB 10 s=[j,o,z])(E:Ext m M)(x:m.nx<q)(B:q<M.nx)(v:M.get m.nx=some (j5 zr))(Y:dh q M N)(g:N.get q=some (j5 r.f.cells))(y:Z4 N r)(p:r.a.length<20000)(t:r.b.length<20000)(u:r.l.length<20000)(d:r.cn=RO j o)(n c:Nat)(i:20001<=c):
  (∃m8 Nz,(X=some [⟨.tuple [.agg zr,.bool false],Nz⟩]->afy m s X)∧l8 KW c (n+18) (.func 14) [.agg r.f.cells] N=some [⟨.bool false,m8⟩]∧(∀{β:Type} (k:Mem->Option β),storeAt m8 m.nx 0 zr k=k Nz)∧Nz.get m.nx=some (j5 zr)∧N.get q=some (j5 r.f.cells))∨
  (∃m8 m9 Nz,(X=some [⟨.tuple [.agg zr,.bool false],Nz⟩]->afy m s X)∧D8 r≠s∧l8 KW c (n+18) (.func 14) [.agg r.f.cells] N=some [⟨.bool true,m8⟩]∧m8.get q=some (j5 r.f.cells)∧l8 KW c (n+18) (.func 15) [.agg r.f.cells] m8=some [⟨.str (D8 r),m9⟩]∧(∀{β:Type} (k:Mem->Option β),storeAt m9 m.nx 0 zr k=k Nz)∧Nz.get m.nx=some (j5 zr)∧N.get q=some (j5 r.f.cells))∨
  (∃m8 m9 Nz,(X=some [⟨.tuple [.agg r.f.cells,.bool true],Nz⟩]->afy m s X)∧D8 r=s∧l8 KW c (n+18) (.func 14) [.agg r.f.cells] N=some [⟨.bool true,m8⟩]∧m8.get q=some (j5 r.f.cells)∧l8 KW c (n+18) (.func 15) [.agg r.f.cells] m8=some [⟨.str (D8 r),m9⟩]∧m9.get q=some (j5 r.f.cells)∧(∀{β:Type} (k:Mem->Option β),storeAt m9 m.nx 0 r.f.cells k=k Nz)∧Nz.get m.nx=some (j5 r.f.cells)∧N.get q=some (j5 r.f.cells)):=by
 have EN:Ext m N:=jr E Y (by omega);have w:m.nx<M.nx:=by omega
 have YN:=Y.nx;have C:=EN.lim;rcases abE (s:=s) (a:=m.nx) (q:=q) EN.ok (by omega) y p t u (by omega) (by omega) (by omega) g (by rw [Y.old _ w (by omega)];exact v) n c i with⟨m8,Nz,hv,e1,e2,e3,e4⟩ | ⟨m8,m9,Nz,hv,ht,e1,e2,e3,e4,e5,e6⟩ | ⟨m8,m9,Nz,hv,ht,e1,e2,e3,e4,e5,e6,e7,e8⟩;exact .inl ⟨m8,Nz,λh=>.inr ⟨Nz,h,jr EN e4 (aA _),abF e d (.inl hv)⟩,e1,e2,e3,g⟩;exact .inr (.inl ⟨m8,m9,Nz,λh=>.inr ⟨Nz,h,jr EN e6 (aA _),abF e d (.inr ht)⟩,ht,e1,e2,e3,e4,e5,g⟩);exact .inr (.inr ⟨m8,m9,Nz,λh=>.inl ⟨_,Nz,h,jr EN e7 (aA _),e8,p,t,u,hv,ht⟩,ht,e1,e2,e3,e4,e5,e6,g⟩)
theorem afz {m:Mem}(Z:m.Ok)(H:m.lim<=m.nx)(s:By)(hs:s.length<=2000){R f l2:By}(u:splitB 10 s=[R,f,l2])(n o:Nat)(a1:50001<=o):afy m s (l8 KW o (n+19) (.func 12) [.str s] m):=by
 obtain⟨K0,am⟩:∃x,x=((dK (splitB 32 R) 4).getD 0 0):=⟨_,rfl⟩;obtain⟨K1,a8⟩:∃x,x=((dK (splitB 32 R) 4).getD 1 0):=⟨_,rfl⟩;obtain⟨K2,an⟩:∃x,x=((dK (splitB 32 R) 4).getD 2 0):=⟨_,rfl⟩;obtain⟨K3,ao⟩:∃x,x=((dK (splitB 32 R) 4).getD 3 0):=⟨_,rfl⟩;obtain⟨V0,aa⟩:∃x,x=((dK (splitB 32 f) 8).getD 0 0):=⟨_,rfl⟩;obtain⟨V1,ab⟩:∃x,x=((dK (splitB 32 f) 8).getD 1 0):=⟨_,rfl⟩;obtain⟨V2,ac⟩:∃x,x=((dK (splitB 32 f) 8).getD 2 0):=⟨_,rfl⟩;obtain⟨V3,ad⟩:∃x,x=((dK (splitB 32 f) 8).getD 3 0):=⟨_,rfl⟩;obtain⟨V4,ae⟩:∃x,x=((dK (splitB 32 f) 8).getD 4 0):=⟨_,rfl⟩;obtain⟨V5,af⟩:∃x,x=((dK (splitB 32 f) 8).getD 5 0):=⟨_,rfl⟩;obtain⟨V6,ag⟩:∃x,x=((dK (splitB 32 f) 8).getD 6 0):=⟨_,rfl⟩;obtain⟨V7,ap⟩:∃x,x=((dK (splitB 32 f) 8).getD 7 0):=⟨_,rfl⟩;have h3:((splitB 10 s).length:Int)=3:=by rw [u];rfl
 have a7:¬ (2000:Int)<(s.length:Int):=by omega
 have av:s.length<=10000:=by omega
 have E0:=r9 Z [j5 zr];have bi:(ext m [j5 zr]).get m.nx=some (j5 zr):=by rw [j6 Z];rfl
 obtain⟨v0,m1,g1,E1,o0⟩:=Gj E0.ok (by simp;omega) s av 10 (n+17) o (by omega);have g1:l8 KW o (n+18) (.func 42) [.str s,.int .u8 10] (ext m [j5 zr])=some [⟨v0,m1⟩]:=g1;have E01:=E0.trans E1;have b0:m1.lim<=m1.nx:=by rw [E01.lim];have:=E01.nx;omega
 have bt:m.nx+1<=m1.nx:=by have:=E1.nx;simpa using this
 have V:=o0.vs.len;rw [G8] at V;have b8:=λ{β:Type} (p:d9->β) q=>o0.vs.aY p q;rw [u] at o0 V;have a5:=wL 10 s;rw [u] at a5;simp at a5;obtain⟨i0,q0,j0,p0,d0⟩:=vat o0.vs (i:=0) (by simp [strs]);have d0:ld1 (m1.get i0) q0=some (.str R):=d0;have p0:∀(x y:OF) (S:List d9) (l:T d9),x S l=v0->y S l=.int .i64 0->jY 1 x y S l=some (.ptr i0 q0):=p0;obtain⟨v1,m2,g2,E2,o1⟩:=Gj E1.ok b0 R (by omega) 32 (n+17) o (by omega);have g2:l8 KW o (n+18) (.func 42) [.str R,.int .u8 32] m1=some [⟨v1,m2⟩]:=g2;have E02:=E01.trans E2;have b1:m2.lim<=m2.nx:=by rw [E02.lim];have:=E02.nx;omega
 obtain⟨w0,be,U⟩:=mK 32 R;have bx:=wL 32 R;have bq:=wM 32 R;have b9:=λ{β:Type} (p:d9->β) q=>o1.vs.aY p q;obtain⟨n4,z,g3,E3,o2⟩:=UZ (w:=w0) (ws:=be) E2.ok b1 (by rw [← U];exact o1.vs) (λx hx=>by have:=bq x (by rw [U];exact hx);omega) (by rw [← U];omega) 4 (by omega) (n+16) o a1;have g3:l8 KW o (n+18) (.func 43) [v1,.int .i64 4] m2=some [⟨n4,z⟩]:=g3;rw [← U] at o2;have E03:=E02.trans E3;have b2:z.lim<=z.nx:=by rw [E03.lim];have:=E03.nx;omega
 have a2:=E3.ok;have ay:=(Nw w0 be 4).1;rw [← U] at ay;have ba:=λ{β:Type} (p:d9->β) q=>o2.vs.aY p q;obtain⟨a,b,P⟩:=aye o2 (n:=4) (by omega);have P':∀i,i<4->∀bs,ld1 ((ext z bs).get (a i)) (b i)=some (.int .i64 ((dK (splitB 32 R) 4).getD i 0)):=λi hi bs=>by rw [H6 a2 _ (P i hi).1];exact (P i hi).2.2
 have E4:=r9 a2 [j5 (zK K0 K1 K2 K3)];have E04:=E03.trans E4;have bk:(ext z [j5 (zK K0 K1 K2 K3)]).get z.nx=some (j5 (zF K0 K1 K2 K3).cells):=by rw [j6 a2];rfl
 have bn:=((o0.ext E2).ext E3).ext E4;obtain⟨i1,q1,j1,p1,d1⟩:=vat bn.vs (i:=1) (by simp [strs]);have d1:ld1 ((ext z [j5 (zK K0 K1 K2 K3)]).get i1) q1=some (.str f):=d1;have p1:∀(x y:OF) (S:List d9) (l:T d9),x S l=v0->y S l=.int .i64 1->jY 1 x y S l=some (.ptr i1 q1):=p1;obtain⟨v2,m5,g5,E5,o3⟩:=Gj E4.ok (by rw [E04.lim];have:=E04.nx;omega) f (by omega) 32 (n+17) o (by omega);have g5:l8 KW o (n+18) (.func 42) [.str f,.int .u8 32] (ext z [j5 (zK K0 K1 K2 K3)])=some [⟨v2,m5⟩]:=g5;have E05:=E04.trans E5;have b3:m5.lim<=m5.nx:=by rw [E05.lim];have:=E05.nx;omega
 obtain⟨w1,t,j⟩:=mK 32 f;have bd:=wL 32 f;have al:=wM 32 f;have bb:=λ{β:Type} (p:d9->β) q=>o3.vs.aY p q;obtain⟨n8,C,g6,E6,o4⟩:=UZ (w:=w1) (ws:=t) E5.ok b3 (by rw [← j];exact o3.vs) (λx hx=>by have:=al x (by rw [j];exact hx);omega) (by rw [← j];omega) 8 (by omega) (n+16) o a1;have g6:l8 KW o (n+18) (.func 43) [v2,.int .i64 8] m5=some [⟨n8,C⟩]:=g6;rw [← j] at o4;have E06:=E05.trans E6;have b4:C.lim<=C.nx:=by rw [E06.lim];have:=E06.nx;omega
 have E:=E6.ok;have az:=(Nw w1 t 8).1;rw [← j] at az;have bc:=λ{β:Type} (p:d9->β) q=>o4.vs.aY p q;have J:z.nx<C.nx:=aP (show z.nx+1<=m5.nx by simpa using E5.nx) E6.nx;have bu:m.nx+1<=z.nx:=by have:=E2.nx;have:=E3.nx;omega
 have D:C.get z.nx=some (j5 (zF K0 K1 K2 K3).cells):=by rw [E6.old _ (by have:=E5.nx;simp at this;omega),E5.old _ (by simp)];exact bk
 have F:C.get m.nx=some (j5 zr):=by have EE:=(((((E1.trans E2).trans E3).trans E4).trans E5).trans E6);rw [EE.old _ (by simp)];exact bi
 have bm:ld1 (C.get z.nx) 3=some (.int .i64 K3):=by rw [D,RY];simp [ko]
 obtain⟨A,B,Q⟩:=aye o4 (n:=8) (by omega);have v (n:Nat) {k:Nat} (h:n.blt k=true:=by rfl):n<k:=by simpa using h
 have O:Z9 0:=⟨by decide,by decide⟩;have k1:Z9 K1:=by rw [a8];exact KJ _ _ _
 have q6:C.lim<=z.nx:=by rw [E06.lim];omega
 have mq:m.nx<z.nx:=by omega
 have ek:∀a b c d:Int,(zF a b c d).kind=d:=λ_ _ _ _=>rfl;have br:(zF K0 K1 K2 K3).cells.length=32:=G6.len _;have PP:=And.intro (P 0 (v 0)) (And.intro (P 1 (v 1)) (And.intro (P 2 (v 2)) (P 3 (v 3))));have PQ:=And.intro (P' 0 (v 0)) (And.intro (P' 1 (v 1)) (And.intro (P' 2 (v 2)) (P' 3 (v 3))));have QQ:=And.intro (Q 0 (v 0)) (And.intro (Q 1 (v 1)) (And.intro (Q 2 (v 2)) (And.intro (Q 3 (v 3)) (And.intro (Q 4 (v 4)) (And.intro (Q 5 (v 5)) (And.intro (Q 6 (v 6)) (Q 7 (v 7))))))));rw [← am,← a8,← an,← ao] at PP PQ;rw [← aa,← ab,← ac,← ad,← ae,← af,← ag,← ap] at QQ;have VV:=And.intro aa.symm (And.intro ab.symm (And.intro ac.symm (And.intro ad.symm (And.intro ae.symm (And.intro af.symm (And.intro ag.symm ap.symm))))));have RR:RO R f=zX (zF K0 K1 K2 K3) (dK (splitB 32 f) 8) (splitB 32 f):=by rw [am,a8,an,ao];rfl
 have SS:=And.intro g1 (And.intro V (And.intro @b8 (And.intro h3 (And.intro a7 (And.intro p0 (And.intro d0 (And.intro g2 (And.intro @b9 (And.intro g3 (And.intro @ba (And.intro p1 (And.intro d1 (And.intro g5 (And.intro @bb (And.intro g6 (And.intro @bc (And.intro bm (ku a2 b2))))))))))))))))));obtain⟨X,hX⟩:∃X,X=l8 KW o (n+19) (.func 12) [.str s] m:=⟨_,rfl⟩;rw [← hX];have ai:K3=1∨K3=2∨K3=3∨K3=4∨K3=5∨K3=6∨K3=7∨(¬ K3=1∧¬ K3=2∧¬ K3=3∧¬ K3=4∧¬ K3=5∧¬ K3=6∧¬ K3=7):=by omega
 rcases ai with hk | hk | hk | hk | hk | hk | hk | hk
 ·subst hk;obtain⟨N,K,G,Y⟩:=aK (off:=4) (vs:=[.int .i64 V0,.int .i64 V1]) E J q6 D (by rw [G6.len];simp) (by simp) rfl;rcases tL (X:=X) (r:=⟨{zF K0 K1 K2 1 with flo:=V0,fhi:=V1},[],[],[]⟩) H u E06 mq J F Y G ⟨.inl ⟨rfl,rfl⟩,.inl ⟨rfl,rfl⟩,.inl ⟨rfl,rfl⟩,O,O,k1⟩ (by simp) (by simp) (by simp) (by rw [RR];simp only [zX,ek,reduceIte,VV];rfl) n o (by omega) with⟨_,_,h,e⟩ | ⟨_,_,_,h,e⟩ | ⟨_,_,_,h,e⟩;all_goals (refine h ?_;rw [hX,enter (sf:=f12) rfl rfl];simp (maxSteps:=3000000) [f12,dI,fB,gD,bR,cu,aX,o9,w9,ku Z H,fJ,aC,bC,aB,A8,-gK,isVoid,gU,J2,SS,PP,PQ,QQ,K,e])
 ·subst hk;obtain⟨N,K,G,Y⟩:=aK (off:=6) (vs:=[.int .i64 V0,.int .i64 V1,.int .i64 V2,.int .i64 V3,.int .i64 V4,.int .i64 V5,.int .i64 V6,.int .i64 V7]) E J q6 D (by rw [G6.len];simp) (by simp) rfl;rcases tL (X:=X) (r:=⟨{zF K0 K1 K2 2 with gid:=V0,made:=V1,nom:=V2,tlo:=V3,thi:=V4,gn:=V5,gd:=V6,wear:=V7},[],[],[]⟩) H u E06 mq J F Y G ⟨.inl ⟨rfl,rfl⟩,.inl ⟨rfl,rfl⟩,.inl ⟨rfl,rfl⟩,by show Z9 V5;rw [af];exact KJ _ _ _,by show Z9 V6;rw [ag];exact KJ _ _ _,k1⟩ (by simp) (by simp) (by simp) (by rw [RR];simp only [zX,ek,reduceIte,VV];rfl) n o (by omega) with⟨_,_,h,e⟩ | ⟨_,_,_,h,e⟩ | ⟨_,_,_,h,e⟩;all_goals (refine h ?_;rw [hX,enter (sf:=f12) rfl rfl];simp (maxSteps:=3000000) [f12,dI,fB,gD,bR,cu,aX,o9,w9,ku Z H,fJ,aC,bC,aB,A8,-gK,isVoid,gU,J2,SS,PP,PQ,QQ,K,e])
 ·subst hk;obtain⟨N,K,G,Y⟩:=aK (off:=14) (vs:=[.int .i64 V0,.int .i64 V1]) E J q6 D (by rw [G6.len];simp) (by simp) rfl;rcases tL (X:=X) (r:=⟨{zF K0 K1 K2 3 with ug:=V0,ud:=V1},[],[],[]⟩) H u E06 mq J F Y G ⟨.inl ⟨rfl,rfl⟩,.inl ⟨rfl,rfl⟩,.inl ⟨rfl,rfl⟩,O,O,k1⟩ (by simp) (by simp) (by simp) (by rw [RR];simp only [zX,ek,reduceIte,VV];rfl) n o (by omega) with⟨_,_,h,e⟩ | ⟨_,_,_,h,e⟩ | ⟨_,_,_,h,e⟩;all_goals (refine h ?_;rw [hX,enter (sf:=f12) rfl rfl];simp (maxSteps:=3000000) [f12,dI,fB,gD,bR,cu,aX,o9,w9,ku Z H,fJ,aC,bC,aB,A8,-gK,isVoid,gU,J2,SS,PP,PQ,QQ,K,e])
 ·subst hk;obtain⟨N,K,G,Y⟩:=aK (off:=16) (vs:=[.int .i64 V0,.int .i64 V1,.int .i64 V2,.int .i64 V3]) E J q6 D (by rw [G6.len];simp) (by simp) rfl;rcases tL (X:=X) (r:=⟨{zF K0 K1 K2 4 with lg:=V0,ll:=V1,lh:=V2,lw:=V3},[],[],[]⟩) H u E06 mq J F Y G ⟨.inl ⟨rfl,rfl⟩,.inl ⟨rfl,rfl⟩,.inl ⟨rfl,rfl⟩,O,O,k1⟩ (by simp) (by simp) (by simp) (by rw [RR];simp only [zX,ek,reduceIte,VV];rfl) n o (by omega) with⟨_,_,h,e⟩ | ⟨_,_,_,h,e⟩ | ⟨_,_,_,h,e⟩;all_goals (refine h ?_;rw [hX,enter (sf:=f12) rfl rfl];simp (maxSteps:=3000000) [f12,dI,fB,gD,bR,cu,aX,o9,w9,ku Z H,fJ,aC,bC,aB,A8,-gK,isVoid,gU,J2,SS,PP,PQ,QQ,K,e])
 ·subst hk;obtain⟨va,vb,m7,g7,E7,oa,a3⟩:=al2 E6.ok b4 ((o3.vs).ext E6) (λx hx=>by have:=al x hx;omega) (by rw [j];rw [j] at bd;simp at bd ⊢;omega) (n+16) o a1;have g7:l8 KW o (n+18) (.func 44) [v2] C=some [⟨.tuple [va,vb],m7⟩]:=g7;have E07:=E06.trans E7;have Q':∀i,i<8->ld1 (m7.get (A i)) (B i)=some (.int .i64 ((dK (splitB 32 f) 8).getD i 0)):=λi hi=>by rw [E7.old _ (Q i hi).1];exact (Q i hi).2.2
  have QR:=And.intro (Q' 0 (v 0)) (And.intro (Q' 1 (v 1)) (And.intro (Q' 2 (v 2)) (And.intro (Q' 3 (v 3)) (Q' 4 (v 4)))));rw [← aa,← ab,← ac,← ad,← ae] at QR;have c1:=oa.vs.A8;have c2:=a3.vs.A8;have bo:=λ{β:Type} (p:d9->β) q=>oa.vs.aY p q;have bp:=λ{β:Type} (p:d9->β) q=>a3.vs.aY p q;have bg:=oa.vs.cells;have bh:=a3.vs.cells;have aq:m7.get z.nx=some (j5 (zF K0 K1 K2 5).cells):=by rw [E7.old _ J];exact D
  have b6:z.nx<m7.nx:=aP J E7.nx;obtain⟨N,K,G,Y⟩:=aK (off:=20) (vs:=[.int .i64 0,.int .i64 V0,va,vb,.int .i64 V1,.int .i64 V2,.int .i64 V3,.int .i64 V4]) E7.ok b6 (by rw [E07.lim];omega) aq (by rw [G6.len];simp) (by simp) (by simp [c1,c2,show ∀k x,A8 (.int k x)=true from λ_ _=>rfl]);have I:∀n g,m7.get z.nx≠some (.cells 1 n g):=λn g e=>by rw [aq] at e;exact Pm _ n g (su e)
  obtain⟨bv,bw⟩:=Ay 0 (splitB 32 f);rcases tL (X:=X) (r:=⟨{zF K0 K1 K2 5 with cid:=0,cday:=V0,A:=va,B:=vb,diff:=V1,err:=V2,hlo:=V3,hhi:=V4},(aI 0 (splitB 32 f)).1,(aI 0 (splitB 32 f)).2,[]⟩) H u E07 mq b6 (by rw [E7.old _ (by omega)];exact F) Y G ⟨Y9.wZ oa.sl Y I,Y9.wZ a3.sl Y I,.inl ⟨rfl,rfl⟩,O,O,k1⟩ (by show (aI 0 (splitB 32 f)).1.length<20000;omega) (by show (aI 0 (splitB 32 f)).2.length<20000;omega) (by simp) (by rw [RR];simp only [zX,ek,reduceIte,VV];rfl) n o (by omega) with⟨_,_,h,e⟩ | ⟨_,_,_,h,e⟩ | ⟨_,_,_,h,e⟩;all_goals (refine h ?_;rw [hX,enter (sf:=f12) rfl rfl];simp (maxSteps:=3000000) [f12,dI,fB,gD,bR,cu,aX,o9,w9,ku Z H,fJ,aC,bC,aB,A8,-gK,isVoid,gU,J2,SS,PP,PQ,QQ,QR,g7,K,bo,bp,bg,bh,e])
 ·subst hk;have Ev:=r9 E [.void];obtain⟨n0,m7,g7,E7,o5⟩:=UZ (w:=w1) (ws:=t) Ev.ok (by rw [Ev.lim];have:=Ev.nx;omega) (by rw [← j];exact ((o3.vs).ext E6).ext Ev) (λx hx=>by have:=al x (by rw [j];exact hx);omega) (by rw [← j];omega) 0 (by omega) (n+16) o a1;have g7:l8 KW o (n+18) (.func 43) [v2,.int .i64 0] (ext C [.void])=some [⟨n0,m7⟩]:=g7;rw [← j] at o5;have hW:(splitB 32 f).length=t.length+1:=by rw [j];rfl
  have au:(dK (splitB 32 f) 0).length=t.length:=by rw [j];simp [dK,zW]
  obtain⟨vL,bf,a9,ah⟩:=afx o5 (k:=min ((splitB 32 f).length-1) 1) (by rw [au,hW];omega) C.nx;have vv:(ext C [.void]).get C.nx=some .void:=by rw [j6 E];rfl
  have v7:m7.get C.nx=some .void:=by rw [E7.old _ (by simp)];exact vv
  have Z0v:ld1 ((ext C [.void]).get (A 0)) (B 0)=some (.int .i64 V0):=by rw [H6 E _ (Q 0 (v 0)).1];exact QQ.1.2.2
  have Z0':ld1 (m7.get (A 0)) (B 0)=some (.int .i64 V0):=by have:=(Q 0 (v 0)).1;rw [E7.old _ (by simp;omega)];exact Z0v
  have aj:=λ{β:Type} (p:d9->β) q=>o5.vs.aY p q;have W:=o3.vs.len;rw [G8,hW] at W;have a6:lI (((t.length+1:Nat):Int)-1)=((t.length:Nat):Int):=by rw [Z8 (by omega) (by omega)];omega
  have pm:∀(x y:OF) (S:List d9) (l:T d9),x S l=.int .i64 ((t.length:Nat):Int)->y S l=.int .i64 1->SX false x [y] S l=some (.int .i64 ((min (t.length) 1:Nat):Int)):=λx y S l hx hy=>Iz hx hy;rw [hW,aCq] at a9;generalize ((t.length+1:Nat):Int)=W1 at W a6;generalize ((min (t.length) 1:Nat):Int)=W2 at pm a9;generalize ((t.length:Nat):Int)=W3 at a6 pm;have E67:Ext C m7:=Ev.trans E7;have bl:(((dK (splitB 32 f) 0).drop (min ((splitB 32 f).length-1) 1))).length<20000:=by simp [au];omega
  have hM:∃M:Mem,M=Td m7 C.nx bf∧Ext C M∧A8 vL=true∧vL.cells=[vL]∧(∀{β:Type} (p:d9->β) (q:β),jf vL p q=q)∧∀N:Mem,dh z.nx M N->(∀n g,M.get z.nx≠some (.cells 1 n g))->Y9 N vL ((dK (splitB 32 f) 0).drop (min ((splitB 32 f).length-1) 1)):=by
   rcases ah with⟨rfl,hsl⟩ | ⟨id,rfl,rfl,hd⟩;exact⟨m7,rfl,E67,hsl.A8,hsl.cells,λp q=>hsl.aY p q,λN XN I=>Y9.wZ hsl XN I⟩;have ax:C.nx<m7.nx:=by have:=E7.nx;simp at this;omega
   have EM:Ext C (m7.set C.nx (.tail id)):=⟨Mem.Ok.set E7.ok ax _,by simp;omega,by show m7.lim=_;exact E67.lim,λi hi=>by rw [Mem.U6 E7.ok ax,if_neg (by omega)];exact E67.old i hi⟩;exact⟨_,rfl,EM,rfl,rfl,λp q=>rfl,λN XN I=>.inr ⟨(C.nx,0),.inr ⟨1,by rw [hd];rfl⟩,by have:=XN.nx;simp at this;omega,.inl (by rw [hd])⟩⟩
  obtain⟨M,bj,EM,a4,a0,ak,aw⟩:=hM;have b7:z.nx<M.nx:=by have:=EM.nx;omega
  have ar:M.get z.nx=some (j5 (zF K0 K1 K2 6).cells):=by rw [EM.old _ J];exact D
  have EmM:=E06.trans EM;obtain⟨N,K,G,Y⟩:=aK (off:=28) (vs:=[.int .i64 V0,vL]) EM.ok b7 (by rw [EmM.lim];omega) ar (by rw [G6.len];simp) (by simp) (by simp [a4,show ∀k x,A8 (.int k x)=true from λ_ _=>rfl]);have I:∀n g,M.get z.nx≠some (.cells 1 n g):=λn g e=>by rw [ar] at e;exact Pm _ n g (su e)
  rw [bj] at K;rcases tL (X:=X) (r:=⟨{zF K0 K1 K2 6 with mday:=V0,L:=vL},[],[],((dK (splitB 32 f) 0).drop (min ((splitB 32 f).length-1) 1))⟩) H u EmM mq b7 (by rw [EM.old _ (by omega)];exact F) Y G ⟨.inl ⟨rfl,rfl⟩,.inl ⟨rfl,rfl⟩,aw N Y I,O,O,k1⟩ (by simp) (by simp) bl (by rw [RR];simp only [zX,ek,reduceIte,VV];rfl) n o (by omega) with⟨_,_,h,e⟩ | ⟨_,_,_,h,e⟩ | ⟨_,_,_,h,e⟩;all_goals (refine h ?_;rw [hX,enter (sf:=f12) rfl rfl];simp (maxSteps:=3000000) [f12,dI,fB,gD,bR,cu,aX,o9,w9,ku Z H,fJ,aC,bC,aB,A8,-gK,isVoid,gU,J2,SS,PP,PQ,QQ,g7,K,a4,a0,@ak,@aj,W,a6,pm,a9,Az,XU,v7,vv,Z0',Z0v,e])
 ·subst hk;obtain⟨N,K,G,Y⟩:=aK (off:=30) (vs:=[.int .i64 V0,.int .i64 V1]) E J q6 D (by rw [G6.len];simp) (by simp) rfl;rcases tL (X:=X) (r:=⟨{zF K0 K1 K2 7 with tr:=V0,tn:=V1},[],[],[]⟩) H u E06 mq J F Y G ⟨.inl ⟨rfl,rfl⟩,.inl ⟨rfl,rfl⟩,.inl ⟨rfl,rfl⟩,O,O,k1⟩ (by simp) (by simp) (by simp) (by rw [RR];simp only [zX,ek,reduceIte,VV];rfl) n o (by omega) with⟨_,_,h,e⟩ | ⟨_,_,_,h,e⟩ | ⟨_,_,_,h,e⟩;all_goals (refine h ?_;rw [hX,enter (sf:=f12) rfl rfl];simp (maxSteps:=3000000) [f12,dI,fB,gD,bR,cu,aX,o9,w9,ku Z H,fJ,aC,bC,aB,A8,-gK,isVoid,gU,J2,SS,PP,PQ,QQ,K,e])
 ·obtain⟨n1,n2,n3,b5,n5,n6,n7⟩:=hk;rcases tL (X:=X) (r:=⟨zF K0 K1 K2 K3,[],[],[]⟩) H u E06 mq J F ⟨E,aA _,rfl,λ_ _ _=>rfl⟩ D ⟨.inl ⟨rfl,rfl⟩,.inl ⟨rfl,rfl⟩,.inl ⟨rfl,rfl⟩,O,O,k1⟩ (by simp) (by simp) (by simp) (by rw [RR];simp only [zX,ek,n1,n2,n3,b5,n5,n6,n7,if_false];rfl) n o (by omega) with⟨_,_,h,e⟩ | ⟨_,_,_,h,e⟩ | ⟨_,_,_,h,e⟩;all_goals (refine h ?_;rw [hX,enter (sf:=f12) rfl rfl];simp (maxSteps:=3000000) [f12,dI,fB,gD,bR,cu,aX,o9,w9,ku Z H,fJ,aC,bC,aB,A8,-gK,isVoid,gU,J2,SS,PP,PQ,QQ,show (zF K0 K1 K2 K3).kind=K3 from rfl,n1,n2,n3,b5,n5,n6,n7,e])
theorem Yo {m:Mem}(v:m.Ok)(w:m.lim<=m.nx)(s:By)(hs:s.length<=2000)(g:(splitB 10 s).length≠3)(n e:Nat)(A:50001<=e):
  (∃r m',l8 KW e (n+19) (.func 12) [.str s] m=some [⟨.tuple [.agg r.f.cells,tV],m'⟩]∧Ext m m'∧Z4 m' r∧r.a.length<20000∧r.b.length<20000∧r.l.length<20000∧kV s r)∨
  (∃m',l8 KW e (n+19) (.func 12) [.str s] m=some [⟨.tuple [.agg zr,fV],m'⟩]∧Ext m m'∧∀r,¬ kV s r):=by
 have z:¬ ((splitB 10 s).length:Int)=3:=by omega
 have d:¬ (2000:Int)<(s.length:Int):=by omega
 have h:s.length<=10000:=by omega
 have E0:=r9 v [j5 zr];have t:(ext m [j5 zr]).get m.nx=some (j5 zr):=by rw [j6 v];rfl
 obtain⟨D,i,k,E1,y⟩:=Gj E0.ok (by simp;omega) s h 10 (n+17) e (by omega);have k:l8 KW e (n+18) (.func 42) [.str s,.int .u8 10] (ext m [j5 zr])=some [⟨D,i⟩]:=k;have E01:=E0.trans E1;have x:i.lim<=i.nx:=by rw [E01.lim];have:=E01.nx;omega
 have B:m.nx+1<=i.nx:=by have:=E1.nx;simpa using this
 have c:=y.vs.len;rw [G8] at c;have j:=λ{β:Type} (p:d9->β) q=>y.vs.aY p q;have u:i.get m.nx=some (j5 zr):=by rw [E1.old _ (by simp)];exact t
 obtain⟨N,C,o,X⟩:=aK (off:=0) (vs:=zr) E1.ok (by omega) (by rw [E01.lim];exact w) u (by simp) (by simp) rfl;have o:N.get m.nx=some (j5 zr):=by rw [o];simp
 refine .inr ⟨N,?_,jr E01 X (aA _),Yn g⟩;rw [enter (sf:=f12) rfl rfl];simp (maxSteps:=3000000) [f12,dI,fB,gD,bR,cu,aX,bD v w,fJ,aC,bC,aB,A8,-gK,k,c,j,z,g,d,C,o]
theorem al7 {m:Mem}(j:m.Ok)(i:m.lim<=m.nx)(s:By)(hs:s.length<=2000)(n d:Nat)(e:50001<=d):
  (∃r m',l8 KW d (n+19) (.func 12) [.str s] m=some [⟨.tuple [.agg r.f.cells,tV],m'⟩]∧Ext m m'∧Z4 m' r∧r.a.length<20000∧r.b.length<20000∧r.l.length<20000∧kV s r)∨
  (∃m',l8 KW d (n+19) (.func 12) [.str s] m=some [⟨.tuple [.agg zr,fV],m'⟩]∧Ext m m'∧∀r,¬ kV s r):=by
 by_cases h3:(splitB 10 s).length=3;obtain⟨k,o,p,g⟩:∃k o p,splitB 10 s=[k,o,p]:=by
  match h:splitB 10 s,h3 with
  | [a,b,c],_=>exact⟨a,b,c,rfl⟩
  | [],h3=>cases h3
  | [_],h3=>cases h3
  | [_,_],h3=>cases h3
  | _ :: _ :: _ :: _ :: _,h3=>simp at h3
 exact afz j i s hs g n d e;exact Yo j i s hs h3 n d e
def FR.KL (r s:FR):Bool:=decide (r.f.room=s.f.room)&&decide (r.f.no=s.f.no)
def FR.same (r s:FR):Bool:=bO r.f s.f r.a r.b r.l s.a s.b s.l
theorem Z4.one {m:Mem}{r:FR}(h:Z4 m r):I7 r.f.cells=true:=by have d:=h.a.A8;have e:=h.b.A8;have g:=h.l.A8;have c:∀k x,A8 (.int k x)=true:=λ_ _=>rfl;simp [G6.cells,d,e,g,c,-G6.aZ]
def FR.short (r:FR):Prop:=r.a.length<20000∧r.b.length<20000∧r.l.length<20000
theorem Z4.sh {m:Mem}{r:FR}(h:Z4 m r)(hs:r.short):aN m r.f r.a r.b r.l:=h.at' hs.1 hs.2.1 hs.2.2
def Ey (a b:Int):Int:=if a<b then -1 else if b<a then 1 else 0
theorem Pq (n b:Nat)(a:Int)(m:Mem):l8 KW b (n+1) (.func 267) [iV a] m=some [⟨fV,m⟩]:=by rw [enter (sf:=f267) rfl rfl];simp [f267]
theorem afA (n c:Nat)(a b:Int)(m:Mem):l8 KW c (n+2) (.func 186) [iV a,iV b] m=some [⟨iV (Ey a b),m⟩]:=by rw [enter (sf:=f186) rfl rfl];by_cases h:a<b;simp [f186,Pq,Ey,h];by_cases h':b<a;simp [f186,Pq,Ey,h,h'];simp [f186,Pq,Ey,h,h']
theorem afB (n d:Nat)(p:1000<=d)(a b:Int)(m:Mem)(id c:Nat)(rows:T (List d9))(l:m.get id=some (.cells 1 2 rows))(h0:rows.get 0=some [iV a])(o:rows.get 1=some [iV b]):
  l8 KW d (n+1) (.func 185) [.slice id 0 2 c] m=some [⟨iV (if a=0 then b else a),m⟩]:=by
 rw [enter (sf:=f185) rfl rfl];obtain⟨d,rfl⟩:∃k,d=k+3:=⟨d-3,by omega⟩;have e:ld1 (m.get id) 0=some (iV a):=by rw [l];exact gM (rs:=1) (n:=2) (rows:=rows) (i:=0) (j:=0) (by omega) (by omega) h0
 have f:ld1 (m.get id) 1=some (iV b):=by rw [l];exact gM (rs:=1) (n:=2) (rows:=rows) (i:=1) (j:=0) (by omega) (by omega) o
 have g:∀(k:Nat->Option d9),idx 2 iZ k=k 0:=λk=>au 2 0 k (by omega);have h:∀(k:Nat->Option d9),idx 2 (iV 1) k=k 1:=λk=>au 2 1 k (by omega);by_cases ha:a=0;by_cases hb:b=0;simp [f185,Ko,l9,e,f,g,h,ha,hb,show lI 1=1 from rfl,show lI 2=2 from rfl];simp [f185,Ko,l9,e,f,g,h,ha,hb,show lI 1=1 from rfl,show lI 2=2 from rfl];simp [f185,Ko,l9,e,f,g,h,ha,show lI 1=1 from rfl,show lI 2=2 from rfl]
def afC (a b c d:Int):Int:=if Ey a c=0 then Ey b d else Ey a c
def FR.ord (x y:FR):Int:=afC x.f.room x.f.no y.f.room y.f.no
theorem afD {m:Mem}(j:m.Ok)(o:m.lim<=m.nx)(n h:Nat)(i:1000<=h)(a b c d:Int):
  ∃m',l8 KW h (n+3) (.func 106) [.agg [iV a,iV b],.agg [iV c,iV d]] m=some [⟨iV (afC a b c d),m'⟩]∧Ext m m':=by
 rw [enter (sf:=f106) rfl rfl];have E:=r9 j [j5 [iV a,iV b],j5 [iV c,iV d],.cells 1 2 (T.ofList [[iV (Ey a c)],[iV (Ey b d)]])];have g:=afB (n+1) h i (Ey a c) (Ey b d) (ext m [j5 [iV a,iV b],j5 [iV c,iV d],.cells 1 2 (T.ofList [[iV (Ey a c)],[iV (Ey b d)]])]) (m.nx+2) 2 _ (by rw [l5 j];rfl) rfl rfl;have l:∀(ps:List (Nat×Nat×OF)) ls env nid,I8 1 2 [iV (.ofNat 0)] ps ls env nid=ob (lay ps ls env [iZ,iZ]) λe=>jR 1 2 e λb=>some (.slice nid 0 2 2,some b):=λ_ _ _ _=>rfl;have f:=l;rw [show (Int.ofNat 0)=0 from rfl] at f;have p:∀(x y:d9) (k:Z6->Option (d9×Option Z6)),jR 1 2 [x,y] k=k (.cells 1 2 (T.ofList [[x],[y]])):=λ_ _ _=>rfl;exact⟨_,by simp [f106,bD j o,A8,afA,l,f,p,g,afC,J2],E⟩
structure FR.Good (r:FR):Prop where
 rf:bS 100 (.agg r.f.cells) (.agg r.f.cells)=true
 one:I7 r.f.cells=true
 no:Z9 r.f.no
theorem Z4.good {m:Mem}{r:FR}(h:Z4 m r)(hs:r.short):r.Good:=⟨(h.sh hs).same,h.one,h.nb⟩
theorem Pt {m:Mem}(b:m.Ok)(c:m.lim<=m.nx)(n a:Nat)(f:G6):∃m',l8 KW a (n+1) (.func 51) [.agg f.cells] m=some [⟨.agg [iV f.room,iV f.no],m'⟩]∧Ext m m':=
 ⟨_,Pe n a f m b c,r9 b _⟩
theorem IC {m:Mem}(c:m.Ok)(h:m.lim<=m.nx)(n a:Nat)(b:1000<=a){x y:FR}(i:x.Good)(j:y.Good):
  ∃m',l8 KW a (n+4) (.func 105) [.agg x.f.cells,.agg y.f.cells] m=some [⟨iV (x.ord y),m'⟩]∧Ext m m':=by
 rw [enter (sf:=f105) rfl rfl];have E0:=r9 c [j5 x.f.cells,j5 y.f.cells];have lim:∀{M:Mem},Ext m M->M.lim<=M.nx:=λE=>by rw [E.lim];have:=E.nx;omega
 obtain⟨k,d,E1⟩:=Pt E0.ok (lim E0) (n+2) a x.f;have E01:=E0.trans E1;have o:k.get (m.nx+1)=some (j5 y.f.cells):=by rw [E1.old _ (by simp),l5 c];rfl
 obtain⟨p,e,E2⟩:=Pt E01.ok (lim E01) (n+2) a y.f;have E02:=E01.trans E2;obtain⟨l,g,E3⟩:=afD E02.ok (lim E02) n a b x.f.room x.f.no y.f.room y.f.no;exact⟨l,by simp [f105,bD c h,A8,d,o,e,g,FR.ord,i.rf,j.rf],E02.trans E3⟩
theorem WT {m:Mem}(b:m.Ok)(e:m.lim<=m.nx)(n a:Nat){x y:FR}(g:x.Good)(h:y.Good):
  ∃m',l8 KW a (n+4) (.func 108) [.agg x.f.cells,.agg y.f.cells] m=some [⟨.bool (x.KL y),m'⟩]∧Ext m m':=by
 rw [enter (sf:=f108) rfl rfl];have E0:=r9 b [j5 x.f.cells,j5 y.f.cells];have lim:∀{M:Mem},Ext m M->M.lim<=M.nx:=λE=>by rw [E.lim];have:=E.nx;omega
 obtain⟨i,c,E1⟩:=Pt E0.ok (lim E0) (n+2) a x.f;have E01:=E0.trans E1;have k:i.get (m.nx+1)=some (j5 y.f.cells):=by rw [E1.old _ (by simp),l5 b];rfl
 obtain⟨j,d,E2⟩:=Pt E01.ok (lim E01) (n+2) a y.f;exact⟨j,by simp [f108,bD b e,A8,c,k,d,FR.KL,g.rf,h.rf],E01.trans E2⟩
def FR.before (x y:FR):Bool:=decide (x.f.room<y.f.room)||(decide (x.f.room=y.f.room)&&decide (x.f.no<y.f.no))
def FA (m:Mem)(id:Nat)(l:List FR):Prop:=AX m id 32 (l.map λr=>r.f.cells)
theorem FA.ld {m:Mem}{id:Nat}{l:List FR}(h:FA m id l){i:Nat}(hi:i<l.length):YR (m.get id) (i*32) 32=some (.agg l[i].f.cells):=by have:=AX.YR h (i:=i) (by simpa using hi);simpa using this
theorem FA.store {m:Mem}{id:Nat}{l:List FR}(h:FA m id l)(j:m.Ok)(b:id<m.nx)(a:m.lim<=id){i:Nat}(hi:i<l.length){r:FR}(g:r.Good):
  ∃m',(∀{β:Type} (k:Mem->Option β),storeAt m id (i*32) r.f.cells k=k m')∧FA m' id (l.set i r)∧dh id m m':=by
 obtain⟨m',c,d,e⟩:=AX.store h j b a (i:=i) (by simpa using hi) (G6.len r.f) g.one;refine⟨m',c,?_,e⟩;unfold FA;rw [List.map_set];exact d
structure Ar (m:Mem)(id:Nat)(l:List FR):Prop where
 ok:m.Ok
 fa:FA m id l
 lt:id<m.nx
 lim:m.lim<=id
 good:∀r,r∈l->r.Good
 big:l.length<=200
theorem Ar.ext {m a:Mem}{id:Nat}{l:List FR}(h:Ar m id l)(e:Ext m a):Ar a id l:=
 ⟨e.ok,AX.ext h.fa h.lt e,aP h.lt e.nx,by rw [e.lim];exact h.lim,h.good,h.big⟩
theorem Ar.lm {m:Mem}{id:Nat}{l:List FR}(h:Ar m id l):m.lim<=m.nx:=nM h.lim (ae1 h.lt)
structure nV (id:Nat)(m:Mem)(l:List FR)(m':Mem)(l':List FR):Prop where
 ext:dh id m m'
 ar:Ar m' id l'
 len:l'.length=l.length
 sub:∀r,r∈l'->r∈l
theorem nV.refl {id:Nat}{m:Mem}{l:List FR}(h:Ar m id l):nV id m l m l:=⟨dh.refl h.ok,h,rfl,λ_ h=>h⟩
theorem nV.trans {id:Nat}{a b c:Mem}{l d l'':List FR}(h:nV id a l b d)(k:nV id b d c l''):nV id a l c l'':=
 ⟨h.ext.trans k.ext,k.ar,k.len.trans h.len,λr e=>h.sub r (k.sub r e)⟩
theorem nV.of {id:Nat}{m a:Mem}{l:List FR}(h:Ar m id l)(e:Ext m a):nV id m l a l:=⟨e.toB,h.ext e,rfl,λ_ h=>h⟩
theorem Ar.get {m:Mem}{id:Nat}{l:List FR}(h:Ar m id l){i:Nat}(hi:i<l.length):l[i].Good:=h.good _ (M8 hi)
theorem Ar.store {m:Mem}{id:Nat}{l:List FR}(h:Ar m id l){i:Nat}(hi:i<l.length){r:FR}(b:r.Good):
  ∃m',(∀{β:Type} (k:Mem->Option β),storeAt m id (i*32) r.f.cells k=k m')∧Ar m' id (l.set i r)∧dh id m m':=by
 obtain⟨m',c,d,a⟩:=h.fa.store h.ok h.lt h.lim hi b;exact⟨m',c,⟨a.ok,d,aP h.lt a.nx,by rw [a.lim];exact h.lim,λx e=>by
  rcases ae0 e with h' | rfl;exact h.good _ h';exact b,by simpa using h.big⟩,a⟩
def swp (l:List FR)(i j:Nat)(hi:i<l.length)(hj:j<l.length):List FR:=(l.set i l[j]).set j l[i]
theorem swp_get {l:List FR}{i j:Nat}(hi:i<l.length)(a:j<l.length)(k:Nat):(swp l i j hi a)[k]?=if k=j then l[i]? else if k=i then l[j]? else l[k]?:=by unfold swp;rw [amE,amE];by_cases h1:j=k;subst h1;simp [hi,a];by_cases h2:i=k;subst h2;simp [h1,hi,a,ajw h1];simp [h1,h2,ajw h1,ajw h2]
theorem Ar.swap {m:Mem}{id:Nat}{l:List FR}(h:Ar m id l){i j:Nat}(hi:i<l.length)(b:j<l.length):
  ∃m1 m2,(∀{β:Type} (k:Mem->Option β),storeAt m id (i*32) l[j].f.cells k=k m1)∧(∀{β:Type} (k:Mem->Option β),storeAt m1 id (j*32) l[i].f.cells k=k m2)∧nV id m l m2 (swp l i j hi b):=by
 obtain⟨m1,c,d,e⟩:=h.store hi (h.get b);obtain⟨m2,g,n,o⟩:=d.store (i:=j) (by simpa using b) (h.get hi);refine⟨m1,m2,c,g,e.trans o,n,by simp [swp],λr a=>?_⟩;rcases ae0 a with a | rfl;rcases ae0 a with a | rfl;exact a;exact M8 b;exact M8 hi
theorem gZ {a b p:Nat}(h:p=a+b)(hp:p<4611686018427387904):lI ((a:Int)+(b:Int))=(p:Int):=by rw [Z8 (by omega) (by omega)];omega
theorem bZ {a b p:Nat}(h:p+b=a)(hp:a<4611686018427387904):lI ((a:Int)-(b:Int))=(p:Int):=by rw [Z8 (by omega) (by omega)];omega
theorem ak {a p:Nat}(h:p=a+1)(hp:p<4611686018427387904):lI ((a:Int)+1)=(p:Int):=by rw [Z8 (by omega) (by omega)];omega
theorem wN {a p:Nat}(h:p+1=a)(hp:a<4611686018427387904):lI ((a:Int)-1)=(p:Int):=by rw [Z8 (by omega) (by omega)];omega
def SwR (a b i c:Nat)(l l':List FR):Prop:=∀k,l'[k]?=if a+i<=k∧k<a+c then l[k+(b-a)]? else if b+i<=k∧k<b+c then l[k-(b-a)]? else l[k]?
theorem SwR.step {a b i c:Nat}{l l':List FR}(d:a+c<=b)(e:i<c)(hi:a+i<l.length)(f:b+i<l.length)(h:SwR a b (i+1) c (swp l (a+i) (b+i) hi f) l'):SwR a b i c l l':=by intro k;rw [h k];simp only [swp_get];by_cases h1:k=a+i;subst h1;rw [if_neg (by omega),if_neg (by omega),if_neg (by omega),if_pos rfl,if_pos (by omega)];congr 1;omega;by_cases h2:k=b+i;subst h2;rw [if_neg (by omega),if_neg (by omega),if_pos rfl,if_neg (by omega),if_pos (by omega)];congr 1;omega;by_cases h3:a+i<=k∧k<a+c;rw [if_pos (by omega),if_pos h3,if_neg (by omega),if_neg (by omega)];by_cases h4:b+i<=k∧k<b+c;rw [if_neg (by omega),if_pos (by omega),if_neg h3,if_pos h4,if_neg (by omega),if_neg (by omega)];rw [if_neg (by omega),if_neg (by omega),if_neg h3,if_neg h4,if_neg h2,if_neg h1]
theorem abG (Q u id a b c n:Nat)(r:a+c<=b)(K:b+c<=n)(R:n<=200):
  ∀(j i:Nat),i+j=c->∀(N:Nat),j<N->∀(m:Mem) (l:List FR),Ar m id l->l.length=n->∀(x2:d9),
   ∃m' l',J5 (λenv m k=>Kt (l8 KW u Q) u none env m k) N (SQ (iN i) (iN c) x2 (.sliceU id 0 n 32) (iN a) (iN b)) m []=some [⟨.exit 0,(SQ (iN c) (iN c) fV (.sliceU id 0 n 32) (iN a) (iN b)),m',[],none⟩]∧nV id m l m' l'∧SwR a b i c l l':=by
 intro j;induction j with
 | zero=>
  intro i t N J m l h v x2;obtain⟨N,rfl⟩:∃M,N=M+1:=⟨N-1,by omega⟩;obtain rfl:i=c:=by omega
  refine⟨m,l,?_,nV.refl h,λk=>?_⟩;rw [l9];simp [Kt];rw [if_neg (by omega),if_neg (by omega)]
 | succ j ih=>
  intro i t N J m l h v x2;obtain⟨N,rfl⟩:∃M,N=M+1:=⟨N-1,by omega⟩;have f:a+i<l.length:=by omega
  have o:b+i<l.length:=by omega
  obtain⟨S,P,D,E,e⟩:=h.swap f o;obtain⟨m',l',g,d,A⟩:=ih (i+1) (by omega) N (by omega) P _ e.ar (e.len.trans v) tV;refine⟨m',l',?_,e.trans d,SwR.step r (by omega) f o A⟩;rw [l9,← g];have B:=h.fa.ld f;have C:=h.fa.ld o;have H:=(h.get f).rf;have I:=(h.get o).rf;generalize hx:l[a+i]=x at *;generalize hy:l[b+i]=y at *;clear A d ih e g;obtain⟨p,w⟩:∃p,p=a+i:=⟨_,rfl⟩;obtain⟨q,z⟩:∃q,q=b+i:=⟨_,rfl⟩;rw [← w] at B D;rw [← z] at C E;have F:=gZ w (by omega);have G:=gZ z (by omega);have L:∀{β:Type} (k:Nat->Option β),idx n (iV (p:Int)) k=k p:=λk=>au _ _ k (by omega);have O:∀{β:Type} (k:Nat->Option β),idx n (iV (q:Int)) k=k q:=λk=>au _ _ k (by omega);have s:i<c:=by omega
  simp [Kt,s,F,G,L,O,B,C,D,E,H,I,G6.len,Z7 (i:=i) (by omega)]
theorem Pv {m:Mem}{id:Nat}{l:List FR}(h:Ar m id l)(i d:Nat)(n:1000<=d)(a b c:Nat)(e:a+c<=b)(f:b+c<=l.length)(w:d9):
  ∃m' l',l8 KW d (i+1) (.func 426) [.sliceU id 0 l.length 32,iN a,iN b,iN c,w] m=some [⟨.tuple [],m'⟩]∧nV id m l m' l'∧SwR a b 0 c l l':=by
 have j:=h.big;obtain⟨m',l',g,k,o⟩:=abG i d id a b c l.length e f j c 0 (by omega) d (by omega) m l h rfl uV;refine⟨m',l',?_,k,o⟩;rw [enter (sf:=ajE) rfl rfl];simp at g;simp [ajE,g]
def AA (a m b:Nat)(l l':List FR):Prop:=∀k,l'[k]?=if a<=k∧k<a+(b-m) then l[k+(m-a)]? else if a+(b-m)<=k∧k<b then l[k-(b-m)]? else l[k]?
theorem AA.left {m i j:Nat}{l b l2:List FR}(e:i<=m)(d:j<i)(a:SwR (m-i) m 0 j l b)(c:AA (m-(i-j)) m (m+j) b l2):AA (m-i) m (m+j) l l2:=by
 intro k;rw [c k];split
 ·rw [a];repeat' split
  all_goals first | omega | rfl | (congr 1;omega)
 ·split
  ·rw [a];repeat' split
   all_goals first | omega | rfl | (congr 1;omega)
  ·rw [a];repeat' split
   all_goals first | omega | rfl | (congr 1;omega)
theorem AA.right {m i j:Nat}{l b l2:List FR}(e:i<=m)(d:i<j)(a:SwR (m-i) (m+j-i) 0 i l b)(c:AA (m-i) m (m+(j-i)) b l2):AA (m-i) m (m+j) l l2:=by
 intro k;rw [c k];split
 ·rw [a];repeat' split
  all_goals first | omega | rfl | (congr 1;omega)
 ·split
  ·rw [a];repeat' split
   all_goals first | omega | rfl | (congr 1;omega)
  ·rw [a];repeat' split
   all_goals first | omega | rfl | (congr 1;omega)
theorem AA.last {m g:Nat}{l l2:List FR}(a:g<=m)(h:SwR (m-g) m 0 g l l2):AA (m-g) m (m+g) l l2:=by
 intro k;rw [h k];repeat' split
 all_goals first | omega | rfl | (congr 1;omega)
theorem abH (O v:Nat)(A:1000<=v)(id a m b n:Nat)(X:n<=200)(w:d9):
  ∀(s i j:Nat),i+j<=s->0<i->0<j->i<=m->m+j<=n->∀(N:Nat),s<N->∀(M:Mem) (l:List FR),Ar M id l->l.length=n->∀(x5 x6:d9),
   ∃g M' l' b6,J5 (λenv m k=>Ga (l8 KW v (O+1)) v none env m k) N (RA (iN m) (iN a) (iN b) (iN i) (iN j) x5 x6 (.sliceU id 0 n 32) w) M []=some [⟨.exit 0,(RA (iN m) (iN a) (iN b) (iN g) (iN g) fV b6 (.sliceU id 0 n 32) w),M',[],none⟩]∧nV id M l M' l'∧0<g∧g<=m∧m+g<=n∧
    ∀l2,SwR (m-g) m 0 g l' l2->AA (m-i) m (m+j) l l2:=by
 intro s;induction s with
 | zero=>intro i j U H;omega
 | succ s ih=>
  intro i j U H S c B N W M l h E x5 x6;obtain⟨N,rfl⟩:∃M,N=M+1:=⟨N-1,by omega⟩;by_cases hij:i=j;subst hij;refine⟨i,M,l,x6,?_,nV.refl h,H,c,B,λl2 z=>AA.last c z⟩;rw [l9];simp [Ga];have C:¬ (i:Int)=(j:Int):=by omega
  obtain⟨p,T⟩:∃p,p+i=m:=⟨m-i,by omega⟩;have P:=bZ T (by omega);have D:m-i=p:=by omega
  by_cases hlt:j<i;obtain⟨M1,L,x,d,u⟩:=Pv h O v A p m j (by omega) (by omega) w;obtain⟨g,M',l',b6,y,e,G,f,o,J⟩:=ih (i-j) j (by omega) (by omega) S (by omega) B N (by omega) M1 L d.ar (d.len.trans E) tV tV;refine⟨g,M',l',b6,?_,d.trans e,G,f,o,λl2 z=>AA.left c hlt (by rw [D];exact u) (J l2 z)⟩;obtain⟨q,I⟩:∃q,q+j=i:=⟨i-j,by omega⟩;rw [show i-j=q from by omega] at y;have F:=bZ I (by omega);rw [E] at x;rw [l9,← y];simp [Ga,C,hlt,P,F,x];obtain⟨q,I⟩:∃q,q=m+j:=⟨_,rfl⟩;obtain⟨r,K⟩:∃r,r+i=q:=⟨q-i,by omega⟩;have F:=gZ I (by omega);have Q:=bZ K (by omega);obtain⟨M1,L,x,d,u⟩:=Pv h O v A p r i (by omega) (by omega) w;obtain⟨g,M',l',b6,y,e,G,f,o,J⟩:=ih i (j-i) (by omega) H (by omega) c (by omega) N (by omega) M1 L d.ar (d.len.trans E) tV fV;refine⟨g,M',l',b6,?_,d.trans e,G,f,o,λl2 z=>AA.right c (by omega) (by rw [D,show m+j-i=r from by omega];exact u) (J l2 z)⟩;obtain⟨t,V⟩:∃t,t+i=j:=⟨j-i,by omega⟩;rw [show j-i=t from by omega] at y;have R:=bZ V (by omega);rw [E] at x;rw [l9,← y];simp [Ga,C,hlt,P,F,Q,R,x]
theorem afE {M:Mem}{id:Nat}{l:List FR}(h:Ar M id l)(n c:Nat)(e:1000<=c)(a m b:Nat)(v:a<m)(B:m<b)(hb:b<=l.length)(w:d9):
  ∃M' l',l8 KW c (n+2) (.func 334) [.sliceU id 0 l.length 32,iN a,iN m,iN b,w] M=some [⟨.tuple [],M'⟩]∧nV id M l M' l'∧AA a m b l l':=by
 have d:=h.big;obtain⟨i,z⟩:∃i,i+a=m:=⟨m-a,by omega⟩;obtain⟨j,A⟩:∃j,j+m=b:=⟨b-m,by omega⟩;obtain⟨g,M1,H,F,u,f,G,x,y,D⟩:=abH n c e id a m b l.length d w (i+j) i j (aA _) (by omega) (by omega) (by omega) (by omega) c (by omega) M l h rfl uV uV;obtain⟨p,C⟩:∃p,p+g=m:=⟨m-g,by omega⟩;obtain⟨M2,q,o,k,E⟩:=Pv f.ar n c e p m g (by omega) (by rw [f.len];omega) w;refine⟨M2,q,?_,f.trans k,?_⟩;rw [enter (sf:=f334) rfl rfl];have r:=bZ z (by omega);have s:=bZ A (by omega);have t:=bZ C (by omega);rw [f.len] at o;simp [f334,r,s,t,u,o];have:=D q (by rw [show m-g=p from by omega];exact E)
 rwa [show m-i=a from by omega,show m+j=b from by omega] at this
theorem afF {p:Nat}(h:p<4611686018427387904):iW .u64 (p:Int)=(p:Int):=by show IntKind.u64.wrap (p:Int)=_;simp only [IntKind.wrap,IntKind.signed,IntKind.bits];simp;omega
theorem afG {p:Nat}(h:p<4611686018427387904):iW .i64 (p:Int)=(p:Int):=by show lI (p:Int)=_;exact Z8 (by omega) (by omega)
theorem afH {p q:Nat}(h:q=p / 2):Xj (.int .u64 (p:Int)) (.int .u64 1)=some (.int .u64 (q:Int)):=by
 subst h;show some (d9.int .u64 ((p:Int).fdiv (2^(min 1 IntKind.u64.bits))))=_;have:(2:Int)^(min 1 IntKind.u64.bits)=2:=by decide
 rw [this];congr 2;rw [Int.fdiv_eq_ediv_of_nonneg _ (by omega)];omega
def FR.key (r:FR):Int:=r.f.room*18446744073709551616+r.f.no
theorem al8 {x y:FR}(a:x.Good)(b:y.Good):(x.ord y<0)↔x.key<y.key:=by
 have c:-9223372036854775808<=x.f.no∧x.f.no<9223372036854775808:=a.no;have d:-9223372036854775808<=y.f.no∧y.f.no<9223372036854775808:=b.no;unfold FR.ord afC Ey FR.key;repeat' split
 all_goals omega
def dw (l:List FR)(i:Nat):Int:=(l[i]?.map FR.key).getD 0
theorem kZ {l:List FR}{i:Nat}(h:i<l.length):dw l i=l[i].key:=by simp [dw,h]
theorem jP {l a:List FR}{i j:Nat}(h:a[i]?=l[j]?):dw a i=dw l j:=by unfold dw;rw [h]
def qN (l:List FR)(a b:Nat):Prop:=∀i j,a<=i->i<j->j<b->dw l i<=dw l j
structure Mv (a b:Nat)(l l':List FR):Prop where
 out:∀k,k<a∨b<=k->l'[k]?=l[k]?
 inn:∀k,a<=k->k<b->∃j,a<=j∧j<b∧l'[k]?=l[j]?
 bak:∀j,a<=j->j<b->∃k,a<=k∧k<b∧l'[k]?=l[j]?
theorem Mv.refl (a b:Nat)(l:List FR):Mv a b l l:=⟨λ_ _=>rfl,λk c d=>⟨k,c,d,rfl⟩,λk c d=>⟨k,c,d,rfl⟩⟩
theorem Mv.trans {a b:Nat}{l q l'':List FR}(h:Mv a b l q)(k:Mv a b q l''):Mv a b l l'':=
 ⟨λi p=>(k.out i p).trans (h.out i p),λi c d=>by
  obtain⟨j,e,f,g⟩:=k.inn i c d;obtain⟨t,m,n,o⟩:=h.inn j e f;exact⟨t,m,n,g.trans o⟩,λi c d=>by
  obtain⟨j,e,f,g⟩:=h.bak i c d;obtain⟨t,m,n,o⟩:=k.bak j e f;exact⟨t,m,n,o.trans g⟩⟩
theorem Mv.mono {a b g b':Nat}{l l':List FR}(h:Mv a b l l')(n:g<=a)(hb:b<=b'):Mv g b' l l':=
 ⟨λk c=>h.out k (by omega),λk d e=>by
  by_cases c:a<=k∧k<b;obtain⟨j,i,m,f⟩:=h.inn k c.1 c.2;exact⟨j,by omega,by omega,f⟩;exact⟨k,d,e,h.out k (by omega)⟩,λk d e=>by
  by_cases c:a<=k∧k<b;obtain⟨j,i,m,f⟩:=h.bak k c.1 c.2;exact⟨j,by omega,by omega,f⟩;exact⟨k,d,e,h.out k (by omega)⟩⟩
theorem AA.mv {a m b:Nat}{l l':List FR}(h:AA a m b l l')(f:a<=m)(g:m<=b):Mv a b l l':=by refine⟨λk c=>?_,λk d e=>?_,λk d e=>?_⟩;rw [h k,if_neg (by omega),if_neg (by omega)];by_cases c:k<a+(b-m);exact⟨k+(m-a),by omega,by omega,by rw [h k,if_pos (by omega)]⟩;exact⟨k-(b-m),by omega,by omega,by rw [h k,if_neg (by omega),if_pos (by omega)]⟩;by_cases c:k<m;exact⟨k+(b-m),by omega,by omega,by rw [h,if_neg (by omega),if_pos (by omega)];congr 1;omega⟩;exact⟨k-(m-a),by omega,by omega,by rw [h,if_pos (by omega)];congr 1;omega⟩
theorem Mv.kIn {a b:Nat}{l c:List FR}(h:Mv a b l c){k:Nat}(d:a<=k)(e:k<b):∃j,a<=j∧j<b∧dw c k=dw l j:=by obtain⟨j,f,g,i⟩:=h.inn k d e;exact⟨j,f,g,jP i⟩
theorem Mv.Sg {a b:Nat}{l c:List FR}(h:Mv a b l c){k:Nat}(d:k<a∨b<=k):dw c k=dw l k:=jP (h.out k d)
theorem AA.k1 {a m b:Nat}{l c:List FR}(h:AA a m b l c){k:Nat}(d:a<=k)(e:k<a+(b-m)):dw c k=dw l (k+(m-a)):=jP (by rw [h k,if_pos ⟨d,e⟩])
theorem AA.k2 {a m b:Nat}{l c:List FR}(h:AA a m b l c){k:Nat}(d:a+(b-m)<=k)(e:k<b):dw c k=dw l (k-(b-m)):=jP (by rw [h k,if_neg (by omega),if_pos ⟨d,e⟩])
theorem AA.k0 {a m b:Nat}{l c:List FR}(h:AA a m b l c){k:Nat}(d:k<a∨b<=k)(e:a<=m)(hb:m<=b):dw c k=dw l k:=jP (by rw [h k,if_neg (by omega),if_neg (by omega)])
theorem qN.out {a b c d:Nat}{l e:List FR}(h:Mv a b l e)(hs:qN l c d)(n:d<=a∨b<=c):qN e c d:=λi j f g m=>by rw [h.Sg (k:=i) (by omega),h.Sg (k:=j) (by omega)];exact hs i j f g m
theorem qN.join {a m b:Nat}{l:List FR}(f:qN l a m)(g:qN l m b)(h:∀i j,a<=i->i<m->m<=j->j<b->dw l i<=dw l j):qN l a b:=λi j d c e=>by by_cases hm:j<m;exact f i j d c hm;by_cases hi':i<m;exact h i j d hi' (by omega) e;exact g i j (by omega) c e
theorem Yp {a t b:Nat}{l f:List FR}(n:a+1<=t)(s:t<=b)(hs:qN l (a+1) b)(g:∀k,a+1<=k->k<t->dw l k<dw l a)(m:∀k,t<=k->k<b->dw l a<=dw l k)(h:AA a (a+1) t l f):qN f a b:=by
 have d:∀k,a<=k->k<b->(k+1<t∧dw f k=dw l (k+1))∨(k+1=t∧dw f k=dw l a)∨(t<=k∧dw f k=dw l k):=λk r u=>by by_cases c1:k+1<t;exact .inl ⟨c1,by rw [h.k1 r (by omega)];congr 1;omega⟩;by_cases c2:k+1=t;exact .inr (.inl ⟨c2,by rw [h.k2 (by omega) (by omega)];congr 1;omega⟩);exact .inr (.inr ⟨by omega,h.k0 (by omega) (by omega) (by omega)⟩)
 intro i j o p q;rcases d i o (by omega) with⟨c,e⟩ | ⟨c,e⟩ | ⟨c,e⟩<;>rcases d j (by omega) q with⟨c',e'⟩ | ⟨c',e'⟩ | ⟨c',e'⟩<;>rw [e,e']
 exact hs _ _ (by omega) (by omega) (by omega);exact aCJ (g _ (by omega) (by omega));exact hs _ _ (by omega) (by omega) (by omega);omega;omega;exact m _ (by omega) (by omega);omega;omega;exact hs _ _ (by omega) (by omega) (by omega)
theorem Si {a t m:Nat}{l d:List FR}(n:a<=t)(r:t<=m)(hs:qN l a m)(f:∀k,a<=k->k<t->dw l k<=dw l m)(g:∀k,t<=k->k<m->dw l m<dw l k)(h:AA t m (m+1) l d):qN d a (m+1):=by
 have b:∀k,a<=k->k<m+1->(k<t∧dw d k=dw l k)∨(k=t∧dw d k=dw l m)∨(t<k∧dw d k=dw l (k-1)):=λk u s=>by by_cases c1:k<t;exact .inl ⟨c1,h.k0 (by omega) (by omega) (by omega)⟩;by_cases c2:k=t;exact .inr (.inl ⟨c2,by rw [h.k1 (by omega) (by omega)];congr 1;omega⟩);exact .inr (.inr ⟨by omega,by rw [h.k2 (by omega) (by omega)];congr 1;omega⟩)
 intro i j o p q;rcases b i o (by omega) with⟨c,e⟩ | ⟨c,e⟩ | ⟨c,e⟩<;>rcases b j (by omega) q with⟨c',e'⟩ | ⟨c',e'⟩ | ⟨c',e'⟩<;>rw [e,e']
 exact hs _ _ (by omega) (by omega) (by omega);exact f _ (by omega) (by omega);exact hs _ _ (by omega) (by omega) (by omega);omega;omega;exact aCJ (g _ (by omega) (by omega));omega;omega;exact hs _ _ (by omega) (by omega) (by omega)
theorem Yq {a s m e b d:Nat}{l n:List FR}(E:a<=s)(hs:s<=m)(w:m<=e)(hb:e<=b)(G:d+m=s+e)(F:s<=m)(A:qN l a m)(B:qN l m b)
  (C:a<s->e<b->dw l (s-1)<=dw l e) (D:s<m->m<e->dw l (e-1)<dw l s) (h:AA s m e l n):
  (∀i j,a<=i->i<d->d<=j->j<b->dw n i<=dw n j)∧qN n a s∧qN n s d∧qN n d e∧qN n e b:=by
 have p:∀i j,a<=i->i<=j->j<m->dw l i<=dw l j:=λi j f c g=>by rcases aCp c with h | rfl;exact A i j f h g;exact aCT _
 have q:∀i j,m<=i->i<=j->j<b->dw l i<=dw l j:=λi j f c g=>by rcases aCp c with h | rfl;exact B i j f h g;exact aCT _
 have y:∀k,a<=k->k<s->dw n k=dw l k:=λk _ t=>h.k0 (by omega) hs w;have z:∀k,s<=k->k<d->dw n k=dw l (k+(m-s)):=λk t r=>h.k1 t (by omega);have u:∀k,d<=k->k<e->dw n k=dw l (k-(e-m)):=λk t r=>h.k2 (by omega) r;have v:∀k,e<=k->k<b->dw n k=dw l k:=λk t _=>h.k0 (by omega) hs w;refine⟨λi j f x g o=>?_,λi j f c g=>?_,λi j f c g=>?_,λi j f c g=>?_,λi j f c g=>?_⟩;by_cases his:i<s;rw [y i f his];by_cases hje:j<e;rw [u j g hje];exact p _ _ f (by omega) (by omega);rw [v j (by omega) o];exact aCi (p i (s-1) f (by omega) (by omega)) (aCi (C (by omega) (by omega)) (q e j w (by omega) o));rw [z i (by omega) x];by_cases hje:j<e;rw [u j g hje];exact aCi (q _ (e-1) (by omega) (by omega) (by omega)) (aCi (aCJ (D (by omega) (by omega))) (p s _ E (by omega) (by omega)));rw [v j (by omega) o];exact q _ _ (by omega) (by omega) o;rw [y i f (by omega),y j (by omega) g];exact A _ _ f c (by omega);rw [z i f (by omega),z j (by omega) g];exact B _ _ (by omega) (by omega) (by omega);rw [u i f (by omega),u j (by omega) g];exact A _ _ (by omega) (by omega) (by omega);rw [v i f (by omega),v j (by omega) g];exact B _ _ (by omega) c g
theorem halves {a d b:Nat}{l g h:List FR}(n:a<=d)(o:d<=b)(r:∀i j,a<=i->i<d->d<=j->j<b->dw l i<=dw l j)(m:Mv a d l g)(c:Mv d b g h)(s:qN g a d)(v:qN h d b):qN h a b:=by refine qN.join (qN.out c s (.inl (aA _))) v λi j p e q f=>?_;rw [c.Sg (k:=i) (by omega)];obtain⟨t,w,x,y⟩:=c.kIn q f;obtain⟨u,z,A,B⟩:=m.kIn p e;rw [y,m.Sg (k:=t) (by omega),B];exact r u t z A w x
theorem IE {x y:FR}(a:x.Good)(b:y.Good):decide (x.ord y<0)=decide (x.key<y.key):=decide_eq_decide.2 (al8 a b)
theorem Ez {i j h:Nat}(b:h=(i+j) / 2)(a:i+j<4611686018427387904):
  ∃p:Nat,lI ((i:Int)+(j:Int))=(p:Int)∧iW .u64 (p:Int)=(p:Int)∧Xj (.int .u64 (p:Int)) (.int .u64 1)=some (.int .u64 (h:Int))∧iW .i64 (h:Int)=(h:Int):=
 ⟨i+j,gZ rfl a,afF a,afH b,afG (by omega)⟩
theorem Va (n0 fu:Nat)(a2:1000<=fu)(id a m b n lo hi:Nat)(hn:n<=200)(l:List FR)(hl:l.length=n)(q:Nat->Bool)(a7:hi<=n)(a4:a<n)
  (hq:∀h,lo<=h->h<hi->q h=decide (dw l h<dw l a))
  (d:∀u v,lo<=u->u<=v->v<hi->q v=true->q u=true) (y2 D E F G H I J K L O P Q R S T U V W X Y Z a0 a1:d9):
  ∀(s i j:Nat),j-i<=s->i<=j->lo<=i->j<=hi->(∀k,lo<=k->k<i->q k=true)->(∀k,j<=k->k<hi->q k=false)->∀(N:Nat),s<N->∀(M:Mem),Ar M id l->∀(xc xh xr:d9),
   ∃t M' zh zr,J5 (λenv m k=>Cv (l8 KW fu (n0+4)) fu none env m k) N (Gd (iN m) (iN a) y2 (iN b) (iN i) (iN j) xc (.func (.func 105) [] []) (.sliceU id 0 n 32) xh xr D E F G H I J K L O P Q R S T U V W X Y Z a0 a1) M []=some [⟨.exit 0,(Gd (iN m) (iN a) y2 (iN b) (iN t) (iN t) fV (.func (.func 105) [] []) (.sliceU id 0 n 32) zh zr D E F G H I J K L O P Q R S T U V W X Y Z a0 a1),M',[],none⟩]∧Ext M M'∧i<=t∧t<=j∧
    (∀k,lo<=k->k<t->q k=true)∧(∀k,t<=k->k<hi->q k=false):=by
 intro s;induction s with
 | zero=>
  intro i j hs a3 A f o p N hN M h xc xh xr;obtain⟨N,rfl⟩:∃M,N=M+1:=⟨N-1,by omega⟩;obtain rfl:i=j:=by omega
  refine⟨i,M,xh,xr,?_,Ext.refl h.ok,aA _,aA _,o,p⟩;rw [l9];simp [Cv]
 | succ s ih=>
  intro i j hs a3 A f o p N hN M h xc xh xr;obtain⟨N,rfl⟩:∃M,N=M+1:=⟨N-1,by omega⟩;by_cases hlt:i<j;obtain⟨c,hc⟩:∃c,c=(i+j) / 2:=⟨_,rfl⟩;obtain⟨w,w1,w2,w3,w4⟩:=Ez hc (by omega);have a5:i<=c:=by omega
  have a6:c<j:=by omega
  have B:c<l.length:=by omega
  have C:a<l.length:=by omega
  obtain⟨M1,g1,E1⟩:=IC h.ok h.lm n0 fu a2 (h.get B) (h.get C);have r1:=h.fa.ld B;have r2:=h.fa.ld C;have z1:=(h.get B).rf;have z2:=(h.get C).rf;have i1:∀{β:Type} (k:Nat->Option β),idx n (iV (c:Int)) k=k c:=λk=>au _ _ k (by omega);have i2:∀{β:Type} (k:Nat->Option β),idx n (iV (a:Int)) k=k a:=λk=>au _ _ k (by omega);have e:=hq c (by omega) (by omega);have hd:=IE (h.get B) (h.get C);rw [← kZ B,← kZ C] at hd;generalize l[c]=x at *;generalize l[a]=y at *;cases hb:q c with
  | true=>
   obtain⟨t,M',zh,zr,g2,E2,t1,t2,t3,t4⟩:=ih (c+1) j (by omega) (by omega) (by omega) f (λk hk z=>by
    by_cases hkc:k<=c;exact d k c hk hkc (by omega) hb;omega) p N (by omega) M1 (h.ext E1) tV (iN c) tV
   refine⟨t,M',zh,zr,?_,E1.trans E2,by omega,t2,t3,t4⟩;obtain⟨c1,r⟩:∃c1,c1=c+1:=⟨_,rfl⟩;have ec:=ak r (by omega);rw [← r] at g2;have g:decide (x.ord y<0)=true:=by rw [hd];rw [hb] at e;simpa [decide_eq_true_eq] using e.symm
   clear ih o p d hq;rw [l9,← g2];simp [Cv,hlt,w1,w2,w3,w4,r1,r2,z1,z2,i1,i2,g1,g,ec]
  | false=>
   obtain⟨t,M',zh,zr,g2,E2,t1,t2,t3,t4⟩:=ih i c (by omega) (by omega) A (by omega) o (λk hk z=>by
    cases hqk:q k with
    | false=>rfl
    | true=>rw [d c k (by omega) hk z hqk] at hb;cases hb) N (by omega) M1 (h.ext E1) tV (iN c) fV
   refine⟨t,M',zh,zr,?_,E1.trans E2,t1,by omega,t3,t4⟩;have g:decide (x.ord y<0)=false:=by rw [hd];rw [hb] at e;simpa [decide_eq_true_eq] using e.symm
   clear ih o p d hq;rw [l9,← g2];simp [Cv,hlt,w1,w2,w3,w4,r1,r2,z1,z2,i1,i2,g1,g]
  obtain rfl:i=j:=by omega
  refine⟨i,M,xh,xr,?_,Ext.refl h.ok,aA _,aA _,o,p⟩;rw [l9];simp [Cv]
theorem Vb (n0 Y:Nat)(a0:1000<=Y)(id a m b n lo hi:Nat)(hn:n<=200)(l:List FR)(hl:l.length=n)(q:Nat->Bool)(a4:hi<=n)(a5:m<n)
  (hq:∀h,lo<=h->h<hi->q h=!decide (dw l m<dw l h))
  (d:∀u v,lo<=u->u<=v->v<hi->q v=true->q u=true) (y2 y4 y5 y6 y9 D E F G H I J K L O P Q R S T U V W X:d9):
  ∀(s i j:Nat),j-i<=s->i<=j->lo<=i->j<=hi->(∀k,lo<=k->k<i->q k=true)->(∀k,j<=k->k<hi->q k=false)->∀(N:Nat),s<N->∀(M:Mem),Ar M id l->∀(xc xh xr:d9),
   ∃t M' zh zr,J5 (λenv m k=>wD (l8 KW Y (n0+4)) Y none env m k) N (Gd (iN m) (iN a) y2 (iN b) y4 y5 y6 (.func (.func 105) [] []) (.sliceU id 0 n 32) y9 D E F G (iN i) (iN j) xc xh xr H I J K L O P Q R S T U V W X) M []=some [⟨.exit 4,(Gd (iN m) (iN a) y2 (iN b) y4 y5 y6 (.func (.func 105) [] []) (.sliceU id 0 n 32) y9 D E F G (iN t) (iN t) fV zh zr H I J K L O P Q R S T U V W X),M',[],none⟩]∧Ext M M'∧i<=t∧t<=j∧
    (∀k,lo<=k->k<t->q k=true)∧(∀k,t<=k->k<hi->q k=false):=by
 intro s;induction s with
 | zero=>
  intro i j hs a1 A f o p N hN M h xc xh xr;obtain⟨N,rfl⟩:∃M,N=M+1:=⟨N-1,by omega⟩;obtain rfl:i=j:=by omega
  refine⟨i,M,xh,xr,?_,Ext.refl h.ok,aA _,aA _,o,p⟩;rw [l9];simp [wD]
 | succ s ih=>
  intro i j hs a1 A f o p N hN M h xc xh xr;obtain⟨N,rfl⟩:∃M,N=M+1:=⟨N-1,by omega⟩;by_cases hlt:i<j;obtain⟨c,hc⟩:∃c,c=(i+j) / 2:=⟨_,rfl⟩;obtain⟨w,w1,w2,w3,w4⟩:=Ez hc (by omega);have a2:i<=c:=by omega
  have a3:c<j:=by omega
  have B:m<l.length:=by omega
  have C:c<l.length:=by omega
  obtain⟨M1,g1,E1⟩:=IC h.ok h.lm n0 Y a0 (h.get B) (h.get C);have r1:=h.fa.ld B;have r2:=h.fa.ld C;have z1:=(h.get B).rf;have z2:=(h.get C).rf;have i1:∀{β:Type} (k:Nat->Option β),idx n (iV (m:Int)) k=k m:=λk=>au _ _ k (by omega);have i2:∀{β:Type} (k:Nat->Option β),idx n (iV (c:Int)) k=k c:=λk=>au _ _ k (by omega);have e:=hq c (by omega) (by omega);have hd:=IE (h.get B) (h.get C);rw [← kZ B,← kZ C] at hd;generalize l[m]=x at *;generalize l[c]=y at *;cases hb:q c with
  | true=>
   obtain⟨t,M',zh,zr,Z,E2,t1,t2,t3,t4⟩:=ih (c+1) j (by omega) (by omega) (by omega) f (λk hk z=>by
    by_cases hkc:k<=c;exact d k c hk hkc (by omega) hb;omega) p N (by omega) M1 (h.ext E1) tV (iN c) tV
   refine⟨t,M',zh,zr,?_,E1.trans E2,by omega,t2,t3,t4⟩;obtain⟨c1,r⟩:∃c1,c1=c+1:=⟨_,rfl⟩;have ec:=ak r (by omega);rw [← r] at Z;have g:decide (x.ord y<0)=false:=by rw [hd];rw [hb] at e;simpa [decide_eq_true_eq] using e.symm
   clear ih o p d hq;rw [l9,← Z];simp [wD,hlt,w1,w2,w3,w4,r1,r2,z1,z2,i1,i2,g1,g,ec]
  | false=>
   obtain⟨t,M',zh,zr,Z,E2,t1,t2,t3,t4⟩:=ih i c (by omega) (by omega) A (by omega) o (λk hk z=>by
    cases hqk:q k with
    | false=>rfl
    | true=>rw [d c k (by omega) hk z hqk] at hb;cases hb) N (by omega) M1 (h.ext E1) tV (iN c) fV
   refine⟨t,M',zh,zr,?_,E1.trans E2,t1,by omega,t3,t4⟩;have g:decide (x.ord y<0)=true:=by rw [hd];rw [hb] at e;simpa [decide_eq_true_eq] using e.symm
   clear ih o p d hq;rw [l9,← Z];simp [wD,hlt,w1,w2,w3,w4,r1,r2,z1,z2,i1,i2,g1,g]
  obtain rfl:i=j:=by omega
  refine⟨i,M,xh,xr,?_,Ext.refl h.ok,aA _,aA _,o,p⟩;rw [l9];simp [wD]
theorem Vd (n0 Z:Nat)(a0:1000<=Z)(id a m b n lo hi:Nat)(p:Nat)(hn:n<=200)(l:List FR)(hl:l.length=n)(q:Nat->Bool)(a6:hi<=n)(hp:∀h,lo<=h->h<hi->h<=p∧p-h<n)
  (hq:∀h,lo<=h->h<hi->q h=!decide (dw l (p-h)<dw l h))
  (d:∀u v,lo<=u->u<=v->v<hi->q v=true->q u=true) (y2 y4 y5 y6 y9 F G H I J K L O P Q R S T U V W X Y:d9):
  ∀(s i j:Nat),j-i<=s->i<=j->lo<=i->j<=hi->(∀k,lo<=k->k<i->q k=true)->(∀k,j<=k->k<hi->q k=false)->∀(N:Nat),s<N->∀(M:Mem),Ar M id l->∀(xc xh xr:d9),
   ∃t M' zh zr,J5 (λenv m k=>qx (l8 KW Z (n0+4)) Z none env m k) N (Gd (iN m) (iN a) y2 (iN b) y4 y5 y6 (.func (.func 105) [] []) (.sliceU id 0 n 32) y9 F G H I J K L O P Q R S T U (iN i) (iN j) xc (iN p) xh xr V W X Y) M []=some [⟨.exit 8,(Gd (iN m) (iN a) y2 (iN b) y4 y5 y6 (.func (.func 105) [] []) (.sliceU id 0 n 32) y9 F G H I J K L O P Q R S T U (iN t) (iN t) fV (iN p) zh zr V W X Y),M',[],none⟩]∧Ext M M'∧i<=t∧t<=j∧
    (∀k,lo<=k->k<t->q k=true)∧(∀k,t<=k->k<hi->q k=false):=by
 intro s;induction s with
 | zero=>
  intro i j hs a1 C f r z N hN M h xc xh xr;obtain⟨N,rfl⟩:∃M,N=M+1:=⟨N-1,by omega⟩;obtain rfl:i=j:=by omega
  refine⟨i,M,xh,xr,?_,Ext.refl h.ok,aA _,aA _,r,z⟩;rw [l9];simp [qx]
 | succ s ih=>
  intro i j hs a1 C f r z N hN M h xc xh xr;obtain⟨N,rfl⟩:∃M,N=M+1:=⟨N-1,by omega⟩;by_cases hlt:i<j;obtain⟨c,hc⟩:∃c,c=(i+j) / 2:=⟨_,rfl⟩;obtain⟨w,w1,w2,w3,w4⟩:=Ez hc (by omega);have a4:i<=c:=by omega
  have a5:c<j:=by omega
  obtain⟨a7,a2⟩:=hp c (by omega) (by omega);obtain⟨u,a3⟩:∃u,u+c=p:=⟨p-c,by omega⟩;have eu:=bZ a3 (by omega);have g:p-c=u:=by omega
  rw [g] at a2;have D:u<l.length:=by omega
  have E:c<l.length:=by omega
  obtain⟨M1,g1,E1⟩:=IC h.ok h.lm n0 Z a0 (h.get D) (h.get E);have r1:=h.fa.ld D;have r2:=h.fa.ld E;have z1:=(h.get D).rf;have z2:=(h.get E).rf;have i1:∀{β:Type} (k:Nat->Option β),idx n (iV (u:Int)) k=k u:=λk=>au _ _ k (by omega);have i2:∀{β:Type} (k:Nat->Option β),idx n (iV (c:Int)) k=k c:=λk=>au _ _ k (by omega);have e:=hq c (by omega) (by omega);have hd:=IE (h.get D) (h.get E);rw [← kZ D,← kZ E] at hd;generalize l[u]=x at *;generalize l[c]=y at *;cases hb:q c with
  | true=>
   obtain⟨t,M',zh,zr,g2,E2,t1,t2,t3,t4⟩:=ih (c+1) j (by omega) (by omega) (by omega) f (λk hk B=>by
    by_cases hkc:k<=c;exact d k c hk hkc (by omega) hb;omega) z N (by omega) M1 (h.ext E1) tV (iN c) tV
   refine⟨t,M',zh,zr,?_,E1.trans E2,by omega,t2,t3,t4⟩;obtain⟨c1,A⟩:∃c1,c1=c+1:=⟨_,rfl⟩;have ec:=ak A (by omega);rw [← A] at g2;have o:decide (x.ord y<0)=false:=by rw [hd];rw [hb] at e;simpa [decide_eq_true_eq,g] using e.symm
   clear ih r z d hq;rw [l9,← g2];simp [qx,hlt,w1,w2,w3,w4,r1,r2,z1,z2,i1,i2,g1,o,ec,eu]
  | false=>
   obtain⟨t,M',zh,zr,g2,E2,t1,t2,t3,t4⟩:=ih i c (by omega) (by omega) C (by omega) r (λk hk B=>by
    cases hqk:q k with
    | false=>rfl
    | true=>rw [d c k (by omega) hk B hqk] at hb;cases hb) N (by omega) M1 (h.ext E1) tV (iN c) fV
   refine⟨t,M',zh,zr,?_,E1.trans E2,t1,by omega,t3,t4⟩;have o:decide (x.ord y<0)=true:=by rw [hd];rw [hb] at e;simpa [decide_eq_true_eq,g] using e.symm
   clear ih r z d hq;rw [l9,← g2];simp [qx,hlt,w1,w2,w3,w4,r1,r2,z1,z2,i1,i2,g1,o,eu]
  obtain rfl:i=j:=by omega
  refine⟨i,M,xh,xr,?_,Ext.refl h.ok,aA _,aA _,r,z⟩;rw [l9];simp [qx]
theorem al9 {k t:Nat}{l a l2:List FR}(e:k+1<t)(hi:k<l.length)(d:k+1<l.length)(b:a=swp l k (k+1) hi d)(c:AA (k+1) (k+1+1) t a l2):AA k (k+1) t l l2:=by
 intro x;rw [c x,b];simp only [swp_get];repeat' split
 all_goals first | omega | rfl | (congr 1;omega)
theorem Sj {k t:Nat}{l a l2:List FR}(e:t<k)(hi:k<l.length)(d:k-1<l.length)(b:a=swp l k (k-1) hi d)(c:AA t (k-1) k a l2):AA t k (k+1) l l2:=by
 intro x;rw [c x,b];simp only [swp_get];repeat' split
 all_goals first | omega | rfl | (congr 1;omega)
theorem IG {a b:Nat}{l:List FR}(h:a<=b):AA a a b l l:=by
 intro x;repeat' split
 all_goals first | omega | rfl | (congr 1;omega)
theorem WU {a b:Nat}{l:List FR}(h:a<=b):AA a b b l l:=by
 intro x;repeat' split
 all_goals first | omega | rfl | (congr 1;omega)
theorem Ve (n0 V id a m b n t:Nat)(hn:n<=200)(a0:t<=n)(ht:0<t)(y2 y5 y6 y9 d e i j o p r v w z A B C D E F G H I J K L:d9):
  ∀(s k:Nat),k+s+1=t->∀(N:Nat),s<N->∀(M:Mem) (l:List FR),Ar M id l->l.length=n->∀(xc:d9),
   ∃M' l',J5 (λenv m k=>FY (l8 KW V (n0+4)) V none env m k) N (Gd (iN m) (iN a) y2 (iN b) (iN t) y5 y6 (.func (.func 105) [] []) (.sliceU id 0 n 32) y9 d (iN k) xc e i j o p r v w z A B C D E F G H I J K L) M []=some [⟨.exit 2,(Gd (iN m) (iN a) y2 (iN b) (iN t) y5 y6 (.func (.func 105) [] []) (.sliceU id 0 n 32) y9 d (iN (t-1)) fV e i j o p r v w z A B C D E F G H I J K L),M',[],none⟩]∧nV id M l M' l'∧AA k (k+1) t l l':=by
 obtain⟨u,Y⟩:∃u,u+1=t:=⟨t-1,by omega⟩;have U:=wN Y (by omega);have T:t-1=u:=by omega
 rw [T];intro s;induction s with
 | zero=>
  intro k hk N hN M l h W xc;obtain⟨N,rfl⟩:∃M,N=M+1:=⟨N-1,by omega⟩;obtain rfl:k=u:=by omega
  refine⟨M,l,?_,nV.refl h,by rw [← Y];exact WU (by omega)⟩;rw [l9];simp [FY,U]
 | succ s ih=>
  intro k hk N hN M l h W xc;obtain⟨N,rfl⟩:∃M,N=M+1:=⟨N-1,by omega⟩;have P:k<l.length:=by omega
  have Q:k+1<l.length:=by omega
  obtain⟨m1,m2,s1,s2,O⟩:=h.swap P Q;obtain⟨M',l',g,c,X⟩:=ih (k+1) (by omega) N (by omega) m2 _ O.ar (O.len.trans W) tV;refine⟨M',l',?_,O.trans c,al9 (by omega) P Q rfl X⟩;rw [l9,← g];have r1:=h.fa.ld P;have Z:=h.fa.ld Q;have g1:=(h.get P).rf;have g2:=(h.get Q).rf;generalize hx:l[k]=x at *;generalize hy:l[k+1]=y at *;clear X c ih O g;obtain⟨q,S⟩:∃q,q=k+1:=⟨_,rfl⟩;rw [← S] at Z s2;have e2:=ak S (by omega);have i1:∀{β:Type} (f:Nat->Option β),idx n (iV (k:Int)) f=f k:=λf=>au _ _ f (by omega);have i2:∀{β:Type} (f:Nat->Option β),idx n (iV (q:Int)) f=f q:=λf=>au _ _ f (by omega);have R:k<u:=by omega
  rw [← S];simp [FY,U,R,e2,i1,i2,r1,Z,s1,s2,g1,g2,G6.len]
theorem Vf (n0 S id a m b n t:Nat)(hn:n<=200)(W X Y Z y9 d e i j o p r u v w z A B C D E F G H I J:d9):
  ∀(s k:Nat),t+s=k->k<n->∀(N:Nat),s<N->∀(M:Mem) (l:List FR),Ar M id l->l.length=n->∀(xc:d9),
   ∃M' l',J5 (λenv m k=>zS (l8 KW S (n0+4)) S none env m k) N (Gd (iN m) (iN a) W (iN b) X Y Z (.func (.func 105) [] []) (.sliceU id 0 n 32) y9 d e i j (iN t) o p r u (iN k) xc v w z A B C D E F G H I J) M []=some [⟨.exit 6,(Gd (iN m) (iN a) W (iN b) X Y Z (.func (.func 105) [] []) (.sliceU id 0 n 32) y9 d e i j (iN t) o p r u (iN t) fV v w z A B C D E F G H I J),M',[],none⟩]∧nV id M l M' l'∧AA t k (k+1) l l':=by
 intro s;induction s with
 | zero=>
  intro k hk P N hN M l h T xc;obtain⟨N,rfl⟩:∃M,N=M+1:=⟨N-1,by omega⟩;obtain rfl:t=k:=by omega
  refine⟨M,l,?_,nV.refl h,IG (by omega)⟩;rw [l9];simp [zS]
 | succ s ih=>
  intro k hk P N hN M l h T xc;obtain⟨N,rfl⟩:∃M,N=M+1:=⟨N-1,by omega⟩;have L:k<l.length:=by omega
  have O:k-1<l.length:=by omega
  obtain⟨m1,m2,s1,V,K⟩:=h.swap L O;obtain⟨M',l',g,c,Q⟩:=ih (k-1) (by omega) (by omega) N (by omega) m2 _ K.ar (K.len.trans T) tV;rw [show k-1+1=k from by omega] at Q;refine⟨M',l',?_,K.trans c,Sj (by omega) L O rfl Q⟩;rw [l9,← g];have r1:=h.fa.ld L;have U:=h.fa.ld O;have g1:=(h.get L).rf;have g2:=(h.get O).rf;generalize hx:l[k]=x at *;generalize hy:l[k-1]=y at *;clear Q c ih K g;obtain⟨q,hq⟩:∃q,q+1=k:=⟨k-1,by omega⟩;rw [show k-1=q from by omega] at U V ⊢;have e2:=wN hq (by omega);have i1:∀{β:Type} (f:Nat->Option β),idx n (iV (k:Int)) f=f k:=λf=>au _ _ f (by omega);have i2:∀{β:Type} (f:Nat->Option β),idx n (iV (q:Int)) f=f q:=λf=>au _ _ f (by omega);have R:t<k:=by omega
  simp [zS,R,e2,i1,i2,r1,U,s1,V,g1,g2,G6.len]
end Go.Proofs.YtfnlnpllpfhhnaaGreatDoor.TT
