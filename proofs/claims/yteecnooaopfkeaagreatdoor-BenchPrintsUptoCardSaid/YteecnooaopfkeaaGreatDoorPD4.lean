/- The two printers, walked; conditions: the memory holds what the arguments say. -/
import Derived.Test.YteecnooaopfkeaaGreatDoorPD3
import Derived.KernelRfl
set_option linter.all false
namespace Go.Proofs.YteecnooaopfkeaaGreatDoor.TT
open Go Go.AM
set_option maxRecDepth 100000
set_option maxHeartbeats 8000000
theorem aoT (n fu:Nat)(m:Mem):l7 KW fu (n+8) (.func 71) [.str [32,32],iV 0] m=some [⟨.str [],m⟩]:=by kernel_rfl
theorem aoU (n fu:Nat)(m:Mem):l7 KW fu (n+8) (.func 71) [.str [32,32],iV 1] m=some [⟨.str [32,32],m⟩]:=by kernel_rfl
theorem aoV (n fu:Nat)(m:Mem):l7 KW fu (n+8) (.func 71) [.str [32,32],iV 2] m=some [⟨.str [32,32,32,32],m⟩]:=by kernel_rfl
theorem aoW (n fu:Nat)(m:Mem):l7 KW fu (n+8) (.func 71) [.str [32,32],iV 3] m=some [⟨.str [32,32,32,32,32,32],m⟩]:=by kernel_rfl
theorem aoX (n fu:Nat)(m:Mem):l7 KW fu (n+8) (.func 71) [.str [32,32],iV 4] m=some [⟨.str [32,32,32,32,32,32,32,32],m⟩]:=by kernel_rfl
theorem aoY (n fu:Nat)(m:Mem):l7 KW fu (n+8) (.func 71) [.str [32,32],iV 5] m=some [⟨.str [32,32,32,32,32,32,32,32,32,32],m⟩]:=by kernel_rfl
theorem aoZ (n fu:Nat)(m:Mem):l7 KW fu (n+8) (.func 71) [.str [32,32],iV 6] m=some [⟨.str [32,32,32,32,32,32,32,32,32,32,32,32],m⟩]:=by kernel_rfl
theorem ap0 (n fu:Nat)(m:Mem):l7 KW fu (n+8) (.func 71) [.str [32,32],iV 7] m=some [⟨.str [32,32,32,32,32,32,32,32,32,32,32,32,32,32],m⟩]:=by kernel_rfl
theorem ap3 (n fu:Nat)(m:Mem):l7 KW fu (n+8) (.func 71) [.str [32,32],iV 8] m=some [⟨.str [32,32,32,32,32,32,32,32,32,32,32,32,32,32,32,32],m⟩]:=by kernel_rfl
theorem ap4 (n fu:Nat)(m:Mem):l7 KW fu (n+8) (.func 71) [.str [32,32],iV 9] m=some [⟨.str [32,32,32,32,32,32,32,32,32,32,32,32,32,32,32,32,32,32],m⟩]:=by kernel_rfl
theorem aiI (n fu:Nat)(m:Mem):l7 KW fu (n+8) (.func 71) [.str [32,32],iV 10] m=some [⟨.str [32,32,32,32,32,32,32,32,32,32,32,32,32,32,32,32,32,32,32,32],m⟩]:=by kernel_rfl
theorem aiJ (n fu:Nat)(m:Mem):l7 KW fu (n+8) (.func 71) [.str [32,32],iV 11] m=some [⟨.str [32,32,32,32,32,32,32,32,32,32,32,32,32,32,32,32,32,32,32,32,32,32],m⟩]:=by kernel_rfl
theorem aiK (n fu:Nat)(m:Mem):l7 KW fu (n+8) (.func 71) [.str [32,32],iV 12] m=some [⟨.str [32,32,32,32,32,32,32,32,32,32,32,32,32,32,32,32,32,32,32,32,32,32,32,32],m⟩]:=by kernel_rfl
theorem aiL (n fu:Nat)(m:Mem):l7 KW fu (n+8) (.func 71) [.str [32,32],iV 13] m=some [⟨.str [32,32,32,32,32,32,32,32,32,32,32,32,32,32,32,32,32,32,32,32,32,32,32,32,32,32],m⟩]:=by kernel_rfl
theorem aiM (n fu:Nat)(m:Mem):l7 KW fu (n+8) (.func 71) [.str [32,32],iV 14] m=some [⟨.str [32,32,32,32,32,32,32,32,32,32,32,32,32,32,32,32,32,32,32,32,32,32,32,32,32,32,32,32],m⟩]:=by kernel_rfl
theorem aiN (n fu:Nat)(m:Mem):l7 KW fu (n+8) (.func 71) [.str [32,32],iV 15] m=some [⟨.str [32,32,32,32,32,32,32,32,32,32,32,32,32,32,32,32,32,32,32,32,32,32,32,32,32,32,32,32,32,32],m⟩]:=by kernel_rfl
theorem aiO (n fu:Nat)(m:Mem):l7 KW fu (n+8) (.func 71) [.str [32,32],iV 16] m=some [⟨.str [32,32,32,32,32,32,32,32,32,32,32,32,32,32,32,32,32,32,32,32,32,32,32,32,32,32,32,32,32,32,32,32],m⟩]:=by kernel_rfl
theorem aiP (n fu:Nat)(m:Mem):l7 KW fu (n+8) (.func 71) [.str [32,32],iV 17] m=some [⟨.str [32,32,32,32,32,32,32,32,32,32,32,32,32,32,32,32,32,32,32,32,32,32,32,32,32,32,32,32,32,32,32,32,32,32],m⟩]:=by kernel_rfl
theorem aiQ (n fu:Nat)(m:Mem):l7 KW fu (n+8) (.func 71) [.str [32,32],iV 18] m=some [⟨.str [32,32,32,32,32,32,32,32,32,32,32,32,32,32,32,32,32,32,32,32,32,32,32,32,32,32,32,32,32,32,32,32,32,32,32,32],m⟩]:=by kernel_rfl
theorem aiR (n fu:Nat)(m:Mem):l7 KW fu (n+8) (.func 71) [.str [32,32],iV 19] m=some [⟨.str [32,32,32,32,32,32,32,32,32,32,32,32,32,32,32,32,32,32,32,32,32,32,32,32,32,32,32,32,32,32,32,32,32,32,32,32,32,32],m⟩]:=by kernel_rfl
theorem aiS (n fu:Nat)(m:Mem):l7 KW fu (n+8) (.func 71) [.str [32,32],iV 20] m=some [⟨.str [32,32,32,32,32,32,32,32,32,32,32,32,32,32,32,32,32,32,32,32,32,32,32,32,32,32,32,32,32,32,32,32,32,32,32,32,32,32,32,32],m⟩]:=by kernel_rfl
theorem aiT (n fu:Nat)(m:Mem):l7 KW fu (n+8) (.func 71) [.str [32,32],iV 21] m=some [⟨.str [32,32,32,32,32,32,32,32,32,32,32,32,32,32,32,32,32,32,32,32,32,32,32,32,32,32,32,32,32,32,32,32,32,32,32,32,32,32,32,32,32,32],m⟩]:=by kernel_rfl
theorem Xn (d:Nat)(a:d<=21)(n fu:Nat)(m:Mem):l7 KW fu (n+8) (.func 71) [.str [32,32],iV (d:Int)] m=some [⟨.str (L8 d),m⟩]:=by
 match d,a with
 | 0,_=>exact aoT n fu m
 | 1,_=>exact aoU n fu m
 | 2,_=>exact aoV n fu m
 | 3,_=>exact aoW n fu m
 | 4,_=>exact aoX n fu m
 | 5,_=>exact aoY n fu m
 | 6,_=>exact aoZ n fu m
 | 7,_=>exact ap0 n fu m
 | 8,_=>exact ap3 n fu m
 | 9,_=>exact ap4 n fu m
 | 10,_=>exact aiI n fu m
 | 11,_=>exact aiJ n fu m
 | 12,_=>exact aiK n fu m
 | 13,_=>exact aiL n fu m
 | 14,_=>exact aiM n fu m
 | 15,_=>exact aiN n fu m
 | 16,_=>exact aiO n fu m
 | 17,_=>exact aiP n fu m
 | 18,_=>exact aiQ n fu m
 | 19,_=>exact aiR n fu m
 | 20,_=>exact aiS n fu m
 | 21,_=>exact aiT n fu m
 | d+22,h=>exact absurd h (by omega)
theorem mh:∀(a b:List aR) (d:Nat),P6 (a++b) d=P6 a d++P6 b d
 | [],b,d=>rfl
 | s::a,b,d=>by rw [ae1,P6,mh a b d,P6,afy]
theorem FV:∀{l:List aR} (h:aO l=true) (i:Nat) (hi:i<l.length),tL l[i]=true
 | e::l,h,0,hi=>by rw [aO,U9] at h;exact h.1
 | e::l,h,i+1,hi=>by rw [aO,U9] at h;exact FV h.2 i (by simpa using hi)
theorem Ji {k:Int}{s:List UInt8}{e:List Ex}{t f:List aR}(h:tL (.mk k s e t f)=true):(k=1∨k=2∨k=3∨k=4∨k=5∨k=6)∧aU e=true∧aO t=true∧aO f=true∧s.length<=16∧fmQ k e t f:=by
 have q:=h;simp only [tL,U9,ae4,decide_eq_true_eq] at h;obtain⟨⟨⟨⟨⟨⟨⟨⟨⟨⟨o,p⟩,b⟩,c⟩,d⟩,g⟩,i⟩,j⟩,l⟩,m⟩,n⟩:=h;refine⟨by omega,l,m,n,?_,c,d,by rcases g with (a | a) | a<;>simp [a],i,j⟩
 split at b;exact zZ b;have:s=[]:=by simpa using b
 simp [this]
def C34 (n fu d:Nat):Prop:=∀(m:Mem) (v:d9) (l:List aR) (dp:Nat),m.Ok->m.lim<=m.nx->13<=m.nx->R4 m (λ_=>True) l v->aO l=true->V8 l<=1000->aZ l<=d->dp+d<=20->
 ∃m',l7 KW fu n (.func 34) [v,iV (dp:Int)] m=some [⟨.str (P6 l dp),m'⟩]∧Ext m m'
theorem aaq {n fu d:Nat}(b8:20000<=fu)(hn:3*d+3<=n+2)(af:C34 (n+2) fu d){m:Mem}(hm:m.Ok)(hl:m.lim<=m.nx)(hb:13<=m.nx){v:d9}{rows:List (List d9)}(l:List aR)(dp p:Nat)(bl:m.nx<=p)(h1:gM m (λ_=>True) 5 v rows)(h2:I4 m (λ_=>True) l rows)(hf:aO l=true)(bm:V8 l<=1000)(hd:aZ l<=d+1)(bj:dp+(d+1)<=20):
  ∀(j i:Nat),i+j=l.length->∀(c x6 x7 x8 x11 x12 x13 x14 x15 x16:d9) (M:Mem) (N:Nat),Ext m M->Bu m.nx M p (P6 (l.take i) dp)->j+1<=N->
  ∃c' x6' x7' x8' x11' x12' x13' x14' x15' x16' M',A9 (λenv m k=>sS (l7 KW fu (n+2)) fu none env m k) N (Qb (iV (dp:Int)) v (iV (i:Int)) (iV (l.length:Int)) c v x6 x7 x8 (.str (L8 dp)) (.ptr p 0) x11 x12 x13 x14 x15 x16 (.str [])) M []=some [⟨.exit 0,(Qb (iV (dp:Int)) v (iV (l.length:Int)) (iV (l.length:Int)) c' v x6' x7' x8' (.str (L8 dp)) (.ptr p 0) x11' x12' x13' x14' x15' x16' (.str [])),M',[],none⟩]∧Ext m M'∧Bu m.nx M' p (P6 l dp):=by
 have ah:=I4.len h2;have a9:=h1.slice.len;rw [ah] at a9;have bk:=V5 l;have bf:=jc l dp hf (by omega);intro j;induction j with
 | zero=>
  intro i hi c x6 x7 x8 x11 x12 x13 x14 x15 x16 M N E B hN;obtain⟨N,rfl⟩:∃k,N=k+1:=⟨N-1,by omega⟩;obtain rfl:i=l.length:=by omega
  rw [afE] at B;refine⟨.bool false,x6,x7,x8,x11,x12,x13,x14,x15,x16,M,?_,E,B⟩;rw [l8];simp [sS]
 | succ j ih=>
  intro i hi c x6 x7 x8 x11 x12 x13 x14 x15 x16 M N E B hN;obtain⟨N,rfl⟩:∃k,N=k+1:=⟨N-1,by omega⟩;have o:i<l.length:=by omega
  have ac:i<rows.length:=by omega
  have r:(i:Int)<(l.length:Int):=by omega
  have hM:=E.ok;have b2:M.lim<=M.nx:=by rw [E.lim];exact aA hl E.nx
  have b3:13<=M.nx:=aA hb E.nx;obtain⟨bp,o1,a1,a2,a3,a4,a5⟩:=(h1.slice.ext E).at ac;have ad:=I4.get h2 i o ac;have bn:=ad.row;have y:=a4 0 5 (by omega) (by omega);rw [q9,Xb (by omega),Y3] at y;have bc:=kF l i o;have b6:=oK l i o;have b7:=FV hf i o;have bd:P6 (l.take i) dp++(yC l[i] dp++P6 (l.drop (i+1)) dp)=P6 l dp:=by rw [← P6,← Xl o,← mh,aha]
  have aq:P6 (l.take (i+1)) dp=P6 (l.take i) dp++yC l[i] dp:=by rw [abu o,mh];show _++(yC l[i] dp ++ [])=_;rw [ad6]
  have b4:(P6 (l.take i) dp).length+(yC l[i] dp).length<=700000:=by have:=congrArg List.length bd;rw [Z5,Z5] at this;omega
  have C:=ih (i+1) (by omega);rw [aq] at C;clear ih aq;generalize P6 (l.take i) dp=pre at *;generalize hX:l[i]=X at *;generalize hR:rows[i]=R at *;obtain⟨k0,a,e,t,f⟩:=X;obtain⟨D,x,F,re,rt,rf,rfl,e1,e2,t1,t2,f1,f2⟩:=ad;obtain⟨hk,fe,ft,ff,bo,fq⟩:=Ji b7;rw [stP] at bc;rw [vE] at b6;have hJ:=sF e fe;have bg:=jc t (dp+1) ft (by omega);have bh:=jc f (dp+1) ff (by omega);have hI:(L8 dp).length<=50:=by rw [L8,afA];omega
  have Q:=e1.slice.cells;have T:=t1.slice.cells;have S:=f1.slice.cells;have oe:=e1.slice.r9;have ot:=t1.slice.r9;have of:=f1.slice.r9;have oi:∀(k:IntKind) (i:Int),Go.AM.r9 (.int k i)=true:=λ_ _=>rfl;have I:∀s:List UInt8,Go.AM.r9 (.str s)=true:=λ_=>rfl;have ss:∀s:List UInt8,aB 100 (.str s) (.str s)=true:=λs=>ig 99 s;have O:aB 100 D D=true:=jI e1.slice 99;have P:aB 100 x x=true:=jI t1.slice 99;have w1:jA ((dp:Int)+1)=(dp:Int)+1:=M0 (by omega) (by omega);obtain⟨U,V,W,Y,Z,a0⟩:=qw hM b2;have L:Go.AM.vS (some (o8 (r5 0 [] nS nS nS))) 0 (r5 k0 a D x F)=some (o8 (r5 k0 a D x F)):=by rw [gY (by simp) (by simp)];rfl
  have E1:=H7 hM [o8 (r5 k0 a D x F)];have Em1:=E.trans E1;have A:(ext M [o8 (r5 k0 a D x F)]).get M.nx=some (o8 (r5 k0 a D x F)):=by rw [u7 hM];rfl
  have b9:(ext M [o8 (r5 k0 a D x F)]).lim<=(ext M [o8 (r5 k0 a D x F)]).nx:=by rw [Em1.lim];exact aA hl Em1.nx
  obtain⟨M2,g2,E2⟩:=ae8 fu b8 d (n+2) hn (ext M [o8 (r5 k0 a D x F)]) D e E1.ok b9 (aA b3 E1.nx) (iZ.ext ⟨re,e1,e2⟩ Em1) fe (by omega) (by omega);have Em2:=Em1.trans E2;have ap:M2.lim<=M2.nx:=by rw [Em2.lim];exact aA hl Em2.nx
  have b:M2.get M.nx=some (o8 (r5 k0 a D x F)):=(E2.old _ (by simp)).trans A;have B2:=(B.ext E1).ext E2;have bb:p≠M.nx:=by have:=B.2.1;omega
  have wr:∀(Mx:Mem) (s u:List UInt8),Ext m Mx->Bu m.nx Mx p s->s.length+u.length<=1000000->Mx.get M.nx=some (o8 (r5 k0 a D x F))->∃v My,l7 KW fu (n+2) (.func 72) [.ptr p 0,.str u] Mx=some [⟨.tuple [v,.nilIface],My⟩]∧Ext m My∧Bu m.nx My p (s++u)∧My.get M.nx=some (o8 (r5 k0 a D x F)):=by intro Mx s u Ex Bx a9 hc;obtain⟨v,My,g,J,K,q3,q4,q5,q6⟩:=ae9 Ex.ok (by rw [Ex.lim];exact hl) Bx u a9 n fu;exact⟨v,My,g,⟨J,aA Ex.nx K,q3.trans Ex.lim,λi hi=>(q5 i hi).trans (Ex.old i hi)⟩,q4,(q6 M.nx _ _ _ (afR bb) (by rw [hc];rfl)).trans hc⟩
  rcases hk with rfl | rfl | rfl | rfl | rfl | rfl;obtain⟨vw,M3,q,E3,B3,w⟩:=wr M2 pre (yC (.mk 1 a e t f) dp) Em2 B2 (by omega) b;rw [show yC (.mk 1 a e t f) dp=L8 dp++([108,101,116,32]++(a++([32,61,32]++(aG e ++ [59,10])))) from rfl] at q
  (try simp only [U0] at q)
  have G:I6 (L8 dp) [108,101,116,32]=some (.str ((L8 dp) ++ [108,101,116,32])):=by rw [F6 (by (try simp only [Q0]);omega)];(try simp only [U0])
  have H:I6 ((L8 dp) ++ [108,101,116,32]) a=some (.str ((L8 dp)++(108::101::116::32::a))):=by rw [F6 (by (try simp only [Q0]);omega)];(try simp only [U0])
  have a7:I6 ((L8 dp)++(108::101::116::32::a)) [32,61,32]=some (.str ((L8 dp)++(108::101::116::32::(a ++ [32,61,32])))):=by rw [F6 (by (try simp only [Q0]);omega)];(try simp only [U0])
  have ae:I6 ((L8 dp)++(108::101::116::32::(a ++ [32,61,32]))) (aG e)=some (.str ((L8 dp)++(108::101::116::32::(a++(32::61::32::(aG e)))))):=by rw [F6 (by (try simp only [Q0]);omega)];(try simp only [U0])
  have av:I6 ((L8 dp)++(108::101::116::32::(a++(32::61::32::(aG e))))) [59,10]=some (.str ((L8 dp)++(108::101::116::32::(a++(32::61::32::((aG e) ++ [59,10])))))):=by rw [F6 (by (try simp only [Q0]);omega)];(try simp only [U0])
  obtain⟨c',x6',x7',x8',x11',x12',x13',x14',x15',x16',M',gg,J,K⟩:=C tt (.ptr M.nx 0) (iV 1) tt x11 x12 x13 x14 x15 x16 M3 N E3 B3 (by omega);refine⟨c',x6',x7',x8',x11',x12',x13',x14',x15',x16',M',?_,J,K⟩;rw [l8,← gg];simp [sS,I5,J5,U,V,W,Y,Z,a0,oi,I,o,r,a1,y,L,Q,T,S,oe,ot,of,ss,O,P,g2,q,A,b,G,H,a7,ae,av,J7 (i:=i) (by omega)];obtain⟨vw,M3,q,E3,B3,w⟩:=wr M2 pre (yC (.mk 2 a e t f) dp) Em2 B2 (by omega) b;rw [show yC (.mk 2 a e t f) dp=L8 dp++(a++([32,61,32]++(aG e ++ [59,10]))) from rfl] at q
  (try simp only [U0] at q)
  have G:I6 (L8 dp) a=some (.str ((L8 dp)++a)):=by rw [F6 (by (try simp only [Q0]);omega)];(try simp only [U0])
  have H:I6 ((L8 dp)++a) [32,61,32]=some (.str ((L8 dp)++(a ++ [32,61,32]))):=by rw [F6 (by (try simp only [Q0]);omega)];(try simp only [U0])
  have a7:I6 ((L8 dp)++(a ++ [32,61,32])) (aG e)=some (.str ((L8 dp)++(a++(32::61::32::(aG e))))):=by rw [F6 (by (try simp only [Q0]);omega)];(try simp only [U0])
  have ae:I6 ((L8 dp)++(a++(32::61::32::(aG e)))) [59,10]=some (.str ((L8 dp)++(a++(32::61::32::((aG e) ++ [59,10]))))):=by rw [F6 (by (try simp only [Q0]);omega)];(try simp only [U0])
  obtain⟨c',x6',x7',x8',x11',x12',x13',x14',x15',x16',M',gg,J,K⟩:=C tt (.ptr M.nx 0) (iV 2) (.bool false) tt x12 x13 x14 x15 x16 M3 N E3 B3 (by omega);refine⟨c',x6',x7',x8',x11',x12',x13',x14',x15',x16',M',?_,J,K⟩;rw [l8,← gg];simp [sS,I5,J5,U,V,W,Y,Z,a0,oi,I,o,r,a1,y,L,Q,T,S,oe,ot,of,ss,O,P,g2,q,A,b,G,H,a7,ae,J7 (i:=i) (by omega)];obtain⟨M3,q,E3⟩:=af M2 x t (dp+1) Em2.ok ap (aA hb Em2.nx) (R4.ext ⟨rt,t1,t2⟩ Em2) ft (by omega) (by omega) (by omega);have q:l7 KW fu (n+2) (.func 34) [x,.int .i64 ((dp:Int)+1)] M2=_:=q;have Em3:=Em2.trans E3;have w:M3.get M.nx=some (o8 (r5 3 a D x F)):=(E3.old _ (gI (by simp) E2.nx)).trans b;have B3:=B2.ext E3;have ai:I6 (L8 dp) [105,102,32]=some (.str ((L8 dp) ++ [105,102,32])):=by rw [F6 (by (try simp only [Q0]);omega)];(try simp only [U0])
  have aj:I6 ((L8 dp) ++ [105,102,32]) (aG e)=some (.str ((L8 dp)++(105::102::32::(aG e)))):=by rw [F6 (by (try simp only [Q0]);omega)];(try simp only [U0])
  have ak:I6 ((L8 dp)++(105::102::32::(aG e))) [32,123,10]=some (.str ((L8 dp)++(105::102::32::((aG e) ++ [32,123,10])))):=by rw [F6 (by (try simp only [Q0]);omega)];(try simp only [U0])
  have al:I6 ((L8 dp)++(105::102::32::((aG e) ++ [32,123,10]))) (P6 t (dp+1))=some (.str ((L8 dp)++(105::102::32::((aG e)++(32::123::10::(P6 t (dp+1))))))):=by rw [F6 (by (try simp only [Q0]);omega)];(try simp only [U0])
  have am:I6 (L8 dp) [125,10]=some (.str ((L8 dp) ++ [125,10])):=by rw [F6 (by (try simp only [Q0]);omega)];(try simp only [U0])
  have ar:I6 (L8 dp) [125,32,101,108,115,101,32,123,10]=some (.str ((L8 dp) ++ [125,32,101,108,115,101,32,123,10])):=by rw [F6 (by (try simp only [Q0]);omega)];(try simp only [U0])
  have au:I6 ((L8 dp) ++ [125,32,101,108,115,101,32,123,10]) (P6 f (dp+1))=some (.str ((L8 dp)++(125::32::101::108::115::101::32::123::10::(P6 f (dp+1))))):=by rw [F6 (by (try simp only [Q0]);omega)];(try simp only [U0])
  have z:pre.length+(L8 dp++([105,102,32]++(aG e++([32,123,10]++(P6 t (dp+1)++((if 0<f.length then L8 dp++([125,32,101,108,115,101,32,123,10]++P6 f (dp+1)) else [])++(L8 dp ++ [125,10]))))))).length<=700000:=b4;have an:=z;simp only [Q0] at an;obtain⟨be,M4,g4,E4,B4,a6⟩:=wr M3 pre (L8 dp++([105,102,32]++(aG e++([32,123,10]++P6 t (dp+1))))) Em3 B3 (by simp only [Q0];omega) w;simp only [U0] at g4;have aa:=f1.slice.len;rw [I4.len f2] at aa;by_cases hf0:f.length=0;have a8:f=[]:=aa5.1 hf0;rw [if_neg (by omega)] at z;simp only [Q0] at z;obtain⟨bq,M5,g5,E5,B5,ag⟩:=wr M4 _ (L8 dp ++ [125,10]) E4 B4 (by simp only [Q0];omega) a6;have B5':Bu m.nx M5 p (pre++yC (.mk 3 a e t f) dp):=by rw [show yC (.mk 3 a e t f) dp=L8 dp++([105,102,32]++(aG e++([32,123,10]++(P6 t (dp+1)++((if 0<f.length then L8 dp++([125,32,101,108,115,101,32,123,10]++P6 f (dp+1)) else [])++(L8 dp ++ [125,10])))))) from rfl,if_neg (by omega)];simpa only [afy,ae1,adn] using B5
  obtain⟨c',x6',x7',x8',x11',x12',x13',x14',x15',x16',M',gg,J,K⟩:=C tt (.ptr M.nx 0) (iV 3) (.bool false) (.bool false) (.bool false) (.bool false) (.bool false) tt (.bool false) M5 N E5 B5' (by omega);refine⟨c',x6',x7',x8',x11',x12',x13',x14',x15',x16',M',?_,J,K⟩;rw [l8,← gg];simp [sS,I5,J5,U,V,W,Y,Z,a0,oi,I,o,r,a1,y,L,Q,T,S,oe,ot,of,ss,O,P,g2,q,g4,g5,A,b,w,a6,w1,aa,hf0,a8,ai,aj,ak,al,am,J7 (i:=i) (by omega)];have ao:0<(f.length:Int):=by omega
  have ab:0<f.length:=by omega
  have a8:¬ f=[]:=λh=>by simp [h] at hf0
  rw [if_pos ab] at z;simp only [Q0] at z;have ba:M4.lim<=M4.nx:=by rw [E4.lim];exact aA hl E4.nx
  obtain⟨M5,g5,E5⟩:=af M4 F f (dp+1) E4.ok ba (aA hb E4.nx) (R4.ext ⟨rf,f1,f2⟩ E4) ff (by omega) (by omega) (by omega);have g5:l7 KW fu (n+2) (.func 34) [F,.int .i64 ((dp:Int)+1)] M4=_:=g5;have Em5:=E4.trans E5;have ag:M5.get M.nx=some (o8 (r5 3 a D x F)):=(E5.old _ (Mem.I7 E4.ok a6)).trans a6;have B5:=B4.ext E5;obtain⟨br,M6,g6,E6,B6,b5⟩:=wr M5 _ (L8 dp++([125,32,101,108,115,101,32,123,10]++P6 f (dp+1))) Em5 B5 (by simp only [Q0];omega) ag;obtain⟨bs,M7,g7,E7,B7,bi⟩:=wr M6 _ (L8 dp ++ [125,10]) E6 B6 (by simp only [Q0];omega) b5;simp only [U0] at g6;have B7':Bu m.nx M7 p (pre++yC (.mk 3 a e t f) dp):=by rw [show yC (.mk 3 a e t f) dp=L8 dp++([105,102,32]++(aG e++([32,123,10]++(P6 t (dp+1)++((if 0<f.length then L8 dp++([125,32,101,108,115,101,32,123,10]++P6 f (dp+1)) else [])++(L8 dp ++ [125,10])))))) from rfl,if_pos (by omega)];simpa only [afy,ae1,adn] using B7
  obtain⟨c',x6',x7',x8',x11',x12',x13',x14',x15',x16',M',gg,J,K⟩:=C tt (.ptr M.nx 0) (iV 3) (.bool false) (.bool false) (.bool false) (.bool false) (.bool false) tt tt M7 N E7 B7' (by omega);refine⟨c',x6',x7',x8',x11',x12',x13',x14',x15',x16',M',?_,J,K⟩;rw [l8,← gg];simp [sS,I5,J5,U,V,W,Y,Z,a0,oi,I,o,r,a1,y,L,Q,T,S,oe,ot,of,ss,O,P,g2,q,g4,g5,g6,g7,A,b,w,a6,ag,w1,aa,hf0,ao,ab,a8,ai,aj,ak,al,am,ar,au,J7 (i:=i) (by omega)];obtain⟨M3,q,E3⟩:=af M2 x t (dp+1) Em2.ok ap (aA hb Em2.nx) (R4.ext ⟨rt,t1,t2⟩ Em2) ft (by omega) (by omega) (by omega);have q:l7 KW fu (n+2) (.func 34) [x,.int .i64 ((dp:Int)+1)] M2=_:=q;have Em3:=Em2.trans E3;have w:M3.get M.nx=some (o8 (r5 4 a D x F)):=(E3.old _ (gI (by simp) E2.nx)).trans b;have B3:=B2.ext E3;have aw:I6 (L8 dp) [119,104,105,108,101,32]=some (.str ((L8 dp) ++ [119,104,105,108,101,32])):=by rw [F6 (by (try simp only [Q0]);omega)];(try simp only [U0])
  have ax:I6 ((L8 dp) ++ [119,104,105,108,101,32]) (aG e)=some (.str ((L8 dp)++(119::104::105::108::101::32::(aG e)))):=by rw [F6 (by (try simp only [Q0]);omega)];(try simp only [U0])
  have ay:I6 ((L8 dp)++(119::104::105::108::101::32::(aG e))) [32,123,10]=some (.str ((L8 dp)++(119::104::105::108::101::32::((aG e) ++ [32,123,10])))):=by rw [F6 (by (try simp only [Q0]);omega)];(try simp only [U0])
  have az:I6 ((L8 dp)++(119::104::105::108::101::32::((aG e) ++ [32,123,10]))) (P6 t (dp+1))=some (.str ((L8 dp)++(119::104::105::108::101::32::((aG e)++(32::123::10::(P6 t (dp+1))))))):=by rw [F6 (by (try simp only [Q0]);omega)];(try simp only [U0])
  have b0:I6 ((L8 dp)++(119::104::105::108::101::32::((aG e)++(32::123::10::(P6 t (dp+1)))))) (L8 dp)=some (.str ((L8 dp)++(119::104::105::108::101::32::((aG e)++(32::123::10::((P6 t (dp+1))++(L8 dp))))))):=by rw [F6 (by (try simp only [Q0]);omega)];(try simp only [U0])
  have b1:I6 ((L8 dp)++(119::104::105::108::101::32::((aG e)++(32::123::10::((P6 t (dp+1))++(L8 dp)))))) [125,10]=some (.str ((L8 dp)++(119::104::105::108::101::32::((aG e)++(32::123::10::((P6 t (dp+1))++((L8 dp) ++ [125,10]))))))):=by rw [F6 (by (try simp only [Q0]);omega)];(try simp only [U0])
  obtain⟨be,M4,g4,E4,B4,a6⟩:=wr M3 pre (yC (.mk 4 a e t f) dp) Em3 B3 (by omega) w;rw [show yC (.mk 4 a e t f) dp=L8 dp++([119,104,105,108,101,32]++(aG e++([32,123,10]++(P6 t (dp+1)++(L8 dp ++ [125,10]))))) from rfl] at g4;simp only [U0] at g4;obtain⟨c',x6',x7',x8',x11',x12',x13',x14',x15',x16',M',gg,J,K⟩:=C tt (.ptr M.nx 0) (iV 4) (.bool false) (.bool false) (.bool false) (.bool false) tt x15 x16 M4 N E4 B4 (by omega);refine⟨c',x6',x7',x8',x11',x12',x13',x14',x15',x16',M',?_,J,K⟩;rw [l8,← gg];simp [sS,I5,J5,U,V,W,Y,Z,a0,oi,I,o,r,a1,y,L,Q,T,S,oe,ot,of,ss,O,P,g2,q,g4,A,b,w,w1,aw,ax,ay,az,b0,b1,J7 (i:=i) (by omega)];obtain⟨vw,M3,q,E3,B3,w⟩:=wr M2 pre (yC (.mk 5 a e t f) dp) Em2 B2 (by omega) b;rw [show yC (.mk 5 a e t f) dp=L8 dp++([112,114,105,110,116,32]++(aG e ++ [59,10])) from rfl] at q
  (try simp only [U0] at q)
  have G:I6 (L8 dp) [112,114,105,110,116,32]=some (.str ((L8 dp) ++ [112,114,105,110,116,32])):=by rw [F6 (by (try simp only [Q0]);omega)];(try simp only [U0])
  have H:I6 ((L8 dp) ++ [112,114,105,110,116,32]) (aG e)=some (.str ((L8 dp)++(112::114::105::110::116::32::(aG e)))):=by rw [F6 (by (try simp only [Q0]);omega)];(try simp only [U0])
  have a7:I6 ((L8 dp)++(112::114::105::110::116::32::(aG e))) [59,10]=some (.str ((L8 dp)++(112::114::105::110::116::32::((aG e) ++ [59,10])))):=by rw [F6 (by (try simp only [Q0]);omega)];(try simp only [U0])
  obtain⟨c',x6',x7',x8',x11',x12',x13',x14',x15',x16',M',gg,J,K⟩:=C tt (.ptr M.nx 0) (iV 5) (.bool false) (.bool false) tt x13 x14 x15 x16 M3 N E3 B3 (by omega);refine⟨c',x6',x7',x8',x11',x12',x13',x14',x15',x16',M',?_,J,K⟩;rw [l8,← gg];simp [sS,I5,J5,U,V,W,Y,Z,a0,oi,I,o,r,a1,y,L,Q,T,S,oe,ot,of,ss,O,P,g2,q,A,b,G,H,a7,J7 (i:=i) (by omega)];obtain⟨vw,M3,q,E3,B3,w⟩:=wr M2 pre (yC (.mk 6 a e t f) dp) Em2 B2 (by omega) b;rw [show yC (.mk 6 a e t f) dp=L8 dp++(aG e ++ [59,10]) from rfl] at q
  (try simp only [U0] at q)
  have G:I6 (L8 dp) (aG e)=some (.str ((L8 dp)++(aG e))):=by rw [F6 (by (try simp only [Q0]);omega)];(try simp only [U0])
  have H:I6 ((L8 dp)++(aG e)) [59,10]=some (.str ((L8 dp)++((aG e) ++ [59,10]))):=by rw [F6 (by (try simp only [Q0]);omega)];(try simp only [U0])
  obtain⟨c',x6',x7',x8',x11',x12',x13',x14',x15',x16',M',gg,J,K⟩:=C tt (.ptr M.nx 0) (iV 6) (.bool false) (.bool false) (.bool false) tt x14 x15 x16 M3 N E3 B3 (by omega);refine⟨c',x6',x7',x8',x11',x12',x13',x14',x15',x16',M',?_,J,K⟩;rw [l8,← gg];simp [sS,I5,J5,U,V,W,Y,Z,a0,oi,I,o,r,a1,y,L,Q,T,S,oe,ot,of,ss,O,P,g2,q,A,b,G,H,J7 (i:=i) (by omega)]
theorem Xo {m:Mem}(a:m.Ok):Bu m.nx (ext m [eB 123 [.nilPtr,nS]]) m.nx []:=
 ⟨J2 _,by simp,.nilPtr,nS,by rw [u7 a];rfl,.inl rfl,.inl ⟨rfl,rfl⟩⟩
theorem aea (fu:Nat)(F:20000<=fu):∀d n:Nat,3*d+12<=n->C34 n fu d:=by
 intro d;induction d with
 | zero=>
  intro n Q m v l c p z L h D M C r;obtain⟨n,rfl⟩:∃k,n=k+9:=⟨n-9,by omega⟩;obtain⟨w,x,y⟩:=h;have b:=I4.len y;have a:=x.slice.len;rw [b] at a;have G:l=[]:=by
   cases l with
   | nil=>rfl
   | cons s l=>obtain⟨k,s,e,t,f⟩:=s;rw [aZ,vE] at C;omega
  subst G;have E:=H7 p [eB 123 [.nilPtr,nS]];have j:=Xn c (by omega) n fu (ext m [eB 123 [.nilPtr,nS]]);obtain⟨M',o,H,I,J,K⟩:=Xm (lo:=m.nx) E.ok (by rw [E.lim];exact z) (Xo p) (by simp) (n+7) fu;refine⟨M',?_,⟨H,by rw [I];exact E.nx,J.trans E.lim,λi u=>(K i u).trans (E.old i u)⟩⟩;obtain⟨fu,rfl⟩:∃k,fu=k+1:=⟨fu-1,by omega⟩;rw [enter (sf:=f34) rfl rfl];simp [f34,sS,l8,I5,yL,a,j,o,P6]
 | succ d ih=>intro n Q m v l c p z L h D M C r;obtain⟨n,rfl⟩:∃k,n=k+9:=⟨n-9,by omega⟩;obtain⟨w,x,y⟩:=h;have b:=I4.len y;have a:=x.slice.len;rw [b] at a;have P:=V5 l;have N:=jc l c D (by omega);have E:=H7 p [eB 123 [.nilPtr,nS]];have j:=Xn c (by omega) n fu (ext m [eB 123 [.nilPtr,nS]]);obtain⟨R,S,T,U,V,W,X,Y,Z,y9,M1,g,q,B⟩:=aaq (n:=n+6) F (by omega) (ih (n+8) (by omega)) p z L l c m.nx (J2 _) x y D M C r l.length 0 (by omega) .undef .undef .undef .undef .undef .undef .undef .undef .undef .undef (ext m [eB 123 [.nilPtr,nS]]) fu E (Xo p) (by omega);have O:A9 (λA m k=>sS (l7 KW fu (n+8)) fu none A m k) fu (Qb (iV (c:Int)) v (iV 0) (iV (l.length:Int)) .undef v .undef .undef .undef (.str (L8 c)) (.ptr m.nx 0) .undef .undef .undef .undef .undef .undef (.str [])) (ext m [eB 123 [.nilPtr,nS]]) []=_:=g;obtain⟨M',o,H,I,J,K⟩:=Xm (lo:=m.nx) q.ok (by rw [q.lim];exact z) B (by omega) (n+7) fu;refine⟨M',?_,⟨H,by rw [I];exact q.nx,J.trans q.lim,λi u=>(K i u).trans (q.old i u)⟩⟩;rw [enter (sf:=f34) rfl rfl];simp [f34,I5,yL,a,j,O,o]
theorem aeb {m:Mem}(j:m.Ok)(f:m.lim<=m.nx)(hb:13<=m.nx){v:d9}{l:List aR}(h:R4 m (λ_=>True) l v)(hp:V8 l<=10000)(i:aZ l<=26)(n fu:Nat)(r:120<=n)(a:20000<=fu):
  ∃m',l7 KW fu (n+1) (.func 14) [v] m=some [⟨.tuple [.str (if Lj l=0 then P6 l 0 else []),iV (Lj l)],m'⟩]∧Ext m m':=by
 obtain⟨n,rfl⟩:∃k,n=k+1:=⟨n-1,by omega⟩;obtain⟨d,e,E1⟩:=Xi j f h hp i n fu (by omega) a;by_cases c:Lj l=0;obtain⟨s,p,q⟩:=Xh c;obtain⟨o,g,E2⟩:=aea fu a 20 (n+1) (by omega) d v l 0 E1.ok (by rw [E1.lim];exact aA f E1.nx) (aA hb E1.nx) (R4.ext h E1) q (by omega) p (by omega);have b:l7 KW fu (n+1) (.func 34) [v,iV 0] d=_:=g;refine⟨o,?_,E1.trans E2⟩;rw [if_pos c,enter (sf:=f14) rfl rfl];simp [f14,e,c,b];refine⟨d,?_,E1⟩;rw [if_neg c,enter (sf:=f14) rfl rfl];simp [f14,e,c]
theorem aiU {n:Nat}(h:n<=1000000000000000000):OH .i64 (n:Int) 10=some (.int .i64 ((n / 10:Nat):Int)):=by show some (d9.int .i64 (jA ((n / 10:Nat):Int)))=_;rw [M0 (by omega) (by omega)]
theorem abS {n:Nat}(h:n<=1000000000000000000):Yd .i64 (n:Int) 10=some (.int .i64 ((n%10:Nat):Int)):=by rfl
noncomputable def aiV (v:d9)(m:Mem):Option d9:=qU v (some (.str [])) (λid off len _=>ob (R9 m id off len) λl=>ob (Go.AM.byteOf l) λs=>some (.str s))
  (λid off len _=>ob (R9 m id off len) λl=>ob (Go.AM.byteOf l) λs=>some (.str s))
theorem Aa (x:OF)(ls:List d9)(env:T d9)(m:Mem):dw x ls env m=aiV (x ls env) m:=rfl
theorem Ru {m:Mem}(b:m.Ok)(r:Nat):aiV (.slice m.nx 0 1 1) (ext m [o8 [.int .u8 (r:Int)]])=some (.str [UInt8.ofNat r]):=by show ob (P8 ((ext m [o8 [.int .u8 (r:Int)]]).get m.nx) λc k a=>L9 c k a 1 0) _=_;rw [u7 b];show ob (P8 (some (Q6.cells 1 1 (T.ofList [[d9.int .u8 (r:Int)]]))) _) _=_;rfl
theorem abT {r:Nat}(h:r<10):sI .u8 ((48+r:Nat):Int)=((48+r:Nat):Int):=by
 match r,h with
 | 0,_=>rfl
 | 1,_=>rfl
 | 2,_=>rfl
 | 3,_=>rfl
 | 4,_=>rfl
 | 5,_=>rfl
 | 6,_=>rfl
 | 7,_=>rfl
 | 8,_=>rfl
 | 9,_=>rfl
 | r+10,h=>exact absurd h (by omega)
theorem ap5:∀(k u:Nat),k<=17->u<10^(k+1)->∀(n fu:Nat) (m:Mem),m.Ok->m.lim<=m.nx->∃m',l7 KW fu (n+k+1) (.func 162) [iV (u:Int)] m=some [⟨.str (Lib.decDigits u),m'⟩]∧Ext m m':=by
 intro k;induction k with
 | zero=>
  intro u x h n fu m b f;have a:u<10:=by simpa using h
  have E:=H7 b [o8 [.int .u8 ((48+u%10:Nat):Int)]];refine⟨_,?_,E⟩;have i:=abS (n:=u) (by omega);have c:jA (48+((u%10:Nat):Int))=((48+u%10:Nat):Int):=by rw [M0 (by omega) (by omega)];omega
  have d:=abT (r:=u%10) (by omega);have e:=Ru b (48+u%10);have j:¬ (u:Int)<0:=by omega
  have l:(u:Int)<10:=by omega
  rw [Lib.decDigits,dif_pos a];rw [show UInt8.ofNat (48+u)=UInt8.ofNat (48+u%10) by rw [ae2 a]];generalize u%10=r at *;rw [enter (sf:=f162) rfl rfl];simp only [Int.natCast_add,Int.cast_ofNat_Int] at c d e ⊢;simp [f162,P5 b f,r9,i,c,d,e,j,l,a,bs1,Aa]
 | succ k ih=>
  intro u x h n fu m b f;have o:10^(k+1+1)<=10^18:=ahg (by decide) (by omega);have s:u<1000000000000000000:=gI h (aA o (by decide));by_cases a:u<10;obtain⟨m',g,q⟩:=ih u (by omega) (gI a (aA (by decide:10<=10^1) (ahg (by decide) (by omega)))) (n+1) fu m b f;exact⟨m',by rw [show n+(k+1)+1=n+1+k+1 from by omega];exact g,q⟩;have E:=H7 b [o8 [.int .u8 ((48+u%10:Nat):Int)]];obtain⟨M1,p,E1⟩:=ih (u / 10) (by omega) (by rw [afM] at h;omega) n fu (ext m [o8 [.int .u8 ((48+u%10:Nat):Int)]]) E.ok (by rw [E.lim];exact aA f E.nx);have i:=abS (n:=u) (by omega);have t:=aiU (n:=u) (by omega);have c:jA (48+((u%10:Nat):Int))=((48+u%10:Nat):Int):=by rw [M0 (by omega) (by omega)];omega
  have d:=abT (r:=u%10) (by omega);have e:=Ru b (48+u%10);have j:¬ (u:Int)<0:=by omega
  have l:¬ (u:Int)<10:=by omega
  have w:=KS k (u / 10) (by rw [afM] at h;omega);have v:I6 (Lib.decDigits (u / 10)) [UInt8.ofNat (48+u%10)]=some (.str (Lib.decDigits (u / 10) ++ [UInt8.ofNat (48+u%10)])):=F6 (by simp;omega);refine⟨M1,?_,E.trans E1⟩;rw [Lib.decDigits,dif_neg a];generalize u%10=r at *;generalize u / 10=u' at *;generalize UInt8.ofNat (48+r)=dg at *;rw [show n+(k+1)+1=(n+k+1)+1 from by omega,enter (sf:=f162) rfl rfl];simp only [Int.natCast_add,Int.cast_ofNat_Int] at c d e p ⊢;simp [f162,P5 b f,r9,t,i,c,d,e,j,l,v,p,a,bs1,Aa]
theorem aar {x:Int}(h0:0<=x)(c:x<=9007199254740992)(n fu:Nat){m:Mem}(b:m.Ok)(a:m.lim<=m.nx):∃m',l7 KW fu (n+16) (.func 162) [iV x] m=some [⟨.str (Lib.itoa x),m'⟩]∧Ext m m':=by
 obtain⟨m',g,q⟩:=ap5 15 x.toNat (by omega) (by have:(10:Nat)^(15+1)=10000000000000000:=by decide
                                               omega) n fu m b a
 refine⟨m',?_,q⟩;rw [Lib.itoa,if_neg (by omega)];rw [show ((x.toNat:Nat):Int)=x from by omega] at g;exact g
def bI (lv:Nat):List (List UInt8×Int):=match lv with
 | 0=>[([111,114],18)]
 | 1=>[([97,110,100],17)]
 | 3=>[([60],11),([60,61],12),([62],13),([62,61],14),([61,61],15),([33,61],16)]
 | 4=>[([43],9),([45],10)]
 | _=>[([42],6),([47],7),([37],8)]
theorem ap6 (ls:List d9)(env:T d9)(a:Nat):H9 1 1 [.str []] [(0,1,u6 (.str [111,114]))] ls env a=some (.slice a 0 1 1,some (.cells 1 1 (T.ofList (([.str [111,114]]).map ([·]))))):=rfl
theorem ap7 (ls:List d9)(env:T d9)(a:Nat):H9 1 1 [iV 0] [(0,1,u6 (iV 18))] ls env a=some (.slice a 0 1 1,some (.cells 1 1 (T.ofList (([iV 18]).map ([·]))))):=rfl
theorem ap8 (ls:List d9)(env:T d9)(a:Nat):H9 1 1 [.str []] [(0,1,u6 (.str [97,110,100]))] ls env a=some (.slice a 0 1 1,some (.cells 1 1 (T.ofList (([.str [97,110,100]]).map ([·]))))):=rfl
theorem ap9 (ls:List d9)(env:T d9)(a:Nat):H9 1 1 [iV 0] [(0,1,u6 (iV 17))] ls env a=some (.slice a 0 1 1,some (.cells 1 1 (T.ofList (([iV 17]).map ([·]))))):=rfl
theorem apa (ls:List d9)(env:T d9)(a:Nat):H9 1 6 [.str []] [(0,1,u6 (.str [60])),(1,1,u6 (.str [60,61])),(2,1,u6 (.str [62])),(3,1,u6 (.str [62,61])),(4,1,u6 (.str [61,61])),(5,1,u6 (.str [33,61]))] ls env a=some (.slice a 0 6 6,some (.cells 1 6 (T.ofList (([.str [60],.str [60,61],.str [62],.str [62,61],.str [61,61],.str [33,61]]).map ([·]))))):=rfl
theorem apb (ls:List d9)(env:T d9)(a:Nat):H9 1 6 [iV 0] [(0,1,u6 (iV 11)),(1,1,u6 (iV 12)),(2,1,u6 (iV 13)),(3,1,u6 (iV 14)),(4,1,u6 (iV 15)),(5,1,u6 (iV 16))] ls env a=some (.slice a 0 6 6,some (.cells 1 6 (T.ofList (([iV 11,iV 12,iV 13,iV 14,iV 15,iV 16]).map ([·]))))):=rfl
theorem apc (ls:List d9)(env:T d9)(a:Nat):H9 1 2 [.str []] [(0,1,u6 (.str [43])),(1,1,u6 (.str [45]))] ls env a=some (.slice a 0 2 2,some (.cells 1 2 (T.ofList (([.str [43],.str [45]]).map ([·]))))):=rfl
theorem apd (ls:List d9)(env:T d9)(a:Nat):H9 1 2 [iV 0] [(0,1,u6 (iV 9)),(1,1,u6 (iV 10))] ls env a=some (.slice a 0 2 2,some (.cells 1 2 (T.ofList (([iV 9,iV 10]).map ([·]))))):=rfl
theorem ape (ls:List d9)(env:T d9)(a:Nat):H9 1 3 [.str []] [(0,1,u6 (.str [42])),(1,1,u6 (.str [47])),(2,1,u6 (.str [37]))] ls env a=some (.slice a 0 3 3,some (.cells 1 3 (T.ofList (([.str [42],.str [47],.str [37]]).map ([·]))))):=rfl
theorem apf (ls:List d9)(env:T d9)(a:Nat):H9 1 3 [iV 0] [(0,1,u6 (iV 6)),(1,1,u6 (iV 7)),(2,1,u6 (iV 8))] ls env a=some (.slice a 0 3 3,some (.cells 1 3 (T.ofList (([iV 6,iV 7,iV 8]).map ([·]))))):=rfl
def aec (lv:Nat):Prop:=lv=0∨lv=1∨lv=3∨lv=4∨lv=5
theorem aas {M:Mem}(b:M.Ok)(lv:Nat)(a:aec lv)(n fu:Nat):
  ∃M',l7 KW fu (n+1) (.func 164) [.int .i64 ((lv:Int)+1)] M=some [⟨.tuple [.slice M.nx 0 (bI lv).length (bI lv).length,.slice (M.nx+1) 0 (bI lv).length (bI lv).length],M'⟩]∧Ext M M'∧
   bK M' (.slice M.nx 0 (bI lv).length (bI lv).length) (strs ((bI lv).map (·.1)))∧bK M' (.slice (M.nx+1) 0 (bI lv).length (bI lv).length) ((bI lv).map λw=>d9.int .i64 w.2):=by
 have E1:=H7 b [.cells 1 (bI lv).length (T.ofList ((strs ((bI lv).map (·.1))).map ([·])))];have E2:=H7 E1.ok [.cells 1 (bI lv).length (T.ofList (((bI lv).map λw=>d9.int .i64 w.2).map ([·])))];have d:bK (ext M [.cells 1 (bI lv).length (T.ofList ((strs ((bI lv).map (·.1))).map ([·])))]) (.slice M.nx 0 (bI lv).length (bI lv).length) (strs ((bI lv).map (·.1))):=by have:=Bt b (strs ((bI lv).map (·.1)));rw [bL,aaW] at this;exact this
 have c:=Bt E1.ok ((bI lv).map λw=>d9.int .i64 w.2);rw [aaW] at c;refine⟨ext (ext M [.cells 1 (bI lv).length (T.ofList ((strs ((bI lv).map (·.1))).map ([·])))]) [.cells 1 (bI lv).length (T.ofList (((bI lv).map λw=>d9.int .i64 w.2).map ([·])))],?_,E1.trans E2,d.ext E2,?_⟩;rw [enter (sf:=f164) rfl rfl,J5];rcases a with rfl | rfl | rfl | rfl | rfl <;>
  simp [f164,qO,Ae,zb6,Zt,Wy,zcj,zdm,zdp,zdq,zdu,zek,zel,zem,zg1,Rb,Um,Uo,zhE,zhn,zht,I5,J5,ap6,ap7,ap8,ap9,apa,apb,apc,apd,ape,apf,bI,strs]
 have e:(ext M [.cells 1 (bI lv).length (T.ofList ((strs ((bI lv).map (·.1))).map ([·])))]).nx=M.nx+1:=by simp
 rw [← e];exact c
theorem Rv (k:Int)(n fu:Nat)(m:Mem):l7 KW fu (n+1) (.func 161) [iV k] m=some [⟨iV (kN k+1),m⟩]:=by
 rw [enter (sf:=f161) rfl rfl];by_cases h:4<=k∧k<=18;have p:k=4∨k=5∨k=6∨k=7∨k=8∨k=9∨k=10∨k=11∨k=12∨k=13∨k=14∨k=15∨k=16∨k=17∨k=18:=by omega
 rcases p with rfl | rfl | rfl | rfl | rfl | rfl | rfl | rfl | rfl | rfl | rfl | rfl | rfl | rfl | rfl<;>rfl
 have e:kN k=7:=by unfold kN;rw [if_neg (by omega),if_neg (by omega),if_neg (by omega),if_neg (by omega),if_neg (by omega),if_neg (by omega),if_neg (by omega)]
 have c:¬ k=18:=by omega
 have b:¬ k=17:=by omega
 have g:¬ k=5:=by omega
 have o:¬ k=9:=by omega
 have a:¬ k=10:=by omega
 have i:¬ k=6:=by omega
 have j:¬ k=7:=by omega
 have l:¬ k=8:=by omega
 have f:¬ k=4:=by omega
 rw [e];by_cases h11:11<=k;have d:¬ k<=16:=by omega
 simp [f161,c,b,g,h11,d,o,a,i,j,l,f];simp [f161,c,b,g,h11,o,a,i,j,l,f]
def Oi (k:Int):List (List UInt8×Int)->List UInt8->List UInt8
 | [],s=>s
 | w::l,s=>Oi k l (if w.2=k then w.1 else s)
theorem Xp {k:Int}(h:6<=k)(h':k<=18):aec (kN k).toNat∧((kN k).toNat:Int)=kN k∧Oi k (bI (kN k).toNat) []=KQ k:=by
 have a:k=6∨k=7∨k=8∨k=9∨k=10∨k=11∨k=12∨k=13∨k=14∨k=15∨k=16∨k=17∨k=18:=by omega
 rcases a with rfl | rfl | rfl | rfl | rfl | rfl | rfl | rfl | rfl | rfl | rfl | rfl | rfl<;>exact⟨by unfold aec;decide,rfl,rfl⟩
theorem aat {M:Mem}{p:Nat}{x0 x3 x4 x5 x6 x7 x8 q o x14 x15 x17 v:d9}{k0 n0:Int}{s0:List UInt8}(s:M.get p=some (o8 (r4 k0 n0 s0 v)))(a:List (List UInt8×Int))(u:a.length<=1000)(D:bK M q (strs (a.map (·.1))))(t:bK M o (a.map λw=>.int .i64 w.2))(n fu:Nat):
  ∀(j i:Nat),i+j=a.length->∀(c b:d9) (sg:List UInt8) (N:Nat),j+1<=N->
  ∃c' b',A9 (λenv m k=>IY (l7 KW fu n) fu none env m k) N (Qb x0 (.ptr p 0) (iV k0) x3 x4 x5 x6 x7 x8 (iV (i:Int)) o c b q x14 x15 (.str sg) x17) M []=some [⟨.exit 1,(Qb x0 (.ptr p 0) (iV k0) x3 x4 x5 x6 x7 x8 (iV (a.length:Int)) o c' b' q x14 x15 (.str (Oi k0 (a.drop i) sg)) x17),M,[],none⟩]:=by
 have f:=t.len;rw [aaW] at f;intro j;induction j with
 | zero=>
  intro i C c b sg N A;obtain⟨N,rfl⟩:∃k,N=k+1:=⟨N-1,by omega⟩;obtain rfl:i=a.length:=by omega
  rw [abz (J2 _),Oi];refine⟨.bool false,b,?_⟩;rw [l8];simp [IY,f]
 | succ j ih=>
  intro i C c b sg N A;obtain⟨N,rfl⟩:∃k,N=k+1:=⟨N-1,by omega⟩;have d:i<a.length:=by omega
  have B:a.drop i=a[i]::a.drop (i+1):=Xl d;obtain⟨id,F,r,I,g⟩:=D.at (i:=i) (by rw [bL,aaW];omega);obtain⟨E,y,x,J,l⟩:=t.at (i:=i) (by rw [aaW];omega);have z:(strs (a.map (·.1)))[i]'(by rw [bL,aaW];exact d)=.str a[i].1:=by simp [strs]
  rw [z] at g;rw [ag5] at l;rw [B,Oi];have e:(i:Int)<(a.length:Int):=by omega
  generalize a[i]=w at *;obtain⟨G,H⟩:=w;by_cases hp:H=k0;subst hp;obtain⟨c',b',h⟩:=ih (i+1) (by omega) tt tt G N (by omega);refine⟨c',b',?_⟩;rw [if_pos rfl,l8,← h];simp [IY,f,d,e,r,g,x,l,s,J7 (i:=i) (by omega)];obtain⟨c',b',h⟩:=ih (i+1) (by omega) tt ff sg N (by omega);refine⟨c',b',?_⟩;rw [if_neg hp,l8,← h];simp [IY,f,d,e,r,g,x,l,s,hp,J7 (i:=i) (by omega)]
def C87 (n fu d:Nat):Prop:=∀(m:Mem) (row:List d9) (e:Ex),m.Ok->m.lim<=m.nx->bF m (λ_=>True) e row->lZ e=true->oJ e<=10000->qx e<=d->
 ∃m',l7 KW fu n (.func 87) [.agg row] m=some [⟨.str (bR e),m'⟩]∧Ext m m'
def C42 (n fu d:Nat):Prop:=∀(m:Mem) (v:d9) (l:List Ex),m.Ok->m.lim<=m.nx->iZ m (λ_=>True) l v->aU l=true->S9 l<=10000->ah l<=d->
 ∃m',l7 KW fu n (.func 42) [v] m=some [⟨.str (aG l),m'⟩]∧Ext m m'
theorem FW (sep x:List UInt8):∀l:List (List UInt8),aW sep (l ++ [x])=if l=[] then x else aW sep l++(sep++x)
 | []=>rfl
 | [a]=>by rw [if_neg (by simp)];show U2 a (U2 sep x)=a++(sep++x);rw [O4,O4]
 | a::b::l=>by have ih:=FW sep x (b::l);rw [if_neg (by simp)] at ih ⊢;show U2 a (U2 sep (aW sep ((b::l) ++ [x])))=U2 a (U2 sep (aW sep (b::l)))++(sep++x);rw [ih,O4,O4,O4,O4];simp
theorem Jj:∀(l:List Ex) (i:Nat),aU l=true->aU (l.take i)=true
 | [],i,h=>by simp [aU]
 | e::l,0,h=>by simp [aU]
 | e::l,i+1,h=>by rw [aU,U9] at h;rw [ae3,aU,h.1,Jj l i h.2];rfl
theorem Jk:∀(l:List Ex) (i:Nat),S9 (l.take i)<=S9 l
 | [],i=>by simp
 | e::l,0=>by simp [S9]
 | e::l,i+1=>by have:=Jk l i;rw [ae3,S9,S9];omega
theorem aau {n fu d:Nat}(B:C87 n fu d){m:Mem}(hm:m.Ok)(Y:m.lim<=m.nx){v:d9}{rows:List (List d9)}(a:List Ex)(K:gM m (λ_=>True) 4 v rows)(L:H6 m (λ_=>True) a rows)(O:aU a=true)(a6:S9 a<=10000)(hd:ah a<=d):
  ∀(j i:Nat),i+j=a.length->∀(c b:d9) (M:Mem) (N:Nat),Ext m M->j+1<=N->
  ∃c' b' M',A9 (λenv m k=>IU (l7 KW fu n) fu none env m k) N (GR (iV (i:Int)) v c b (.str (aG (a.take i))) (.str [])) M []=some [⟨.exit 0,(GR (iV (a.length:Int)) v c' b' (.str (aG a)) (.str [])),M',[],none⟩]∧Ext m M':=by
 have s:=H6.len L;have f:=K.slice.len;rw [s] at f;have Z:=O0 a;intro j;induction j with
 | zero=>
  intro i W c b M N E U;obtain⟨N,rfl⟩:∃k,N=k+1:=⟨N-1,by omega⟩;obtain rfl:i=a.length:=by omega
  rw [afE];refine⟨.bool false,b,M,?_,E⟩;rw [l8];simp [IU,f]
 | succ j ih=>
  intro i W c b M N E U;obtain⟨N,rfl⟩:∃k,N=k+1:=⟨N-1,by omega⟩;have e:i<a.length:=by omega
  have l:i<rows.length:=by omega
  have o:(i:Int)<(a.length:Int):=by omega
  have T:=E.ok;have C:M.lim<=M.nx:=by rw [E.lim];exact aA Y E.nx
  obtain⟨a9,o1,I,a2,a3,S,a5⟩:=(K.slice.ext E).at l;have p:=H6.get L i e l;have a8:=p.row;have r:=S 0 4 (by omega) (by omega);rw [q9,Xb (by omega),Y3] at r;have a0:=dN a i e;have V:=kG a i e;have x:=FQ O i e;have u:bF M (λ_=>True) a[i] rows[i]:=Cu E p;have G:aG (a.take (i+1))=if i=0 then bR a[i] else aG (a.take i)++([44,32]++bR a[i]):=by
   unfold aG;rw [abu e,abN];show aW [44,32] ((a.take i).map bR ++ [bR a[i]])=_;rw [FW];by_cases h0:i=0;subst h0;simp;have:(a.take i).map bR≠[]:=by intro h;have:=congrArg List.length h;rw [aaW,ag1,abw] at this;omega
   rw [if_neg this,if_neg h0]
  have P:=sF (a.take i) (Jj a i O);have a7:=Jk a i;have hx:=gG a[i] x;generalize hX:a[i]=X at *;generalize hR:rows[i]=R at *;obtain⟨Q,J,E2⟩:=B M R X T C u x (by omega) (by omega);have g:=ih (i+1) (by omega);rw [G] at g;have F:i=0->aG (a.take i)=[]:=λh=>by subst h;rfl
  generalize aG (a.take i)=pr at *;by_cases h0:i=0;subst h0;rw [if_pos rfl] at g;obtain⟨c',b',M',y,q⟩:=g tt ff Q N (E.trans E2) (by omega);refine⟨c',b',M',?_,q⟩;obtain rfl:=F rfl;have H:I6 [] (bR X)=some (.str (bR X)):=F6 (by simp;omega);have t:(0:Int)<(a.length:Int):=by simpa using o
  have w:=I;simp at w;have D:¬ a=[]:=λh=>by subst h;simp at e
  rw [l8,← y];simp [IU,f,t,D,e,w,r,J,H,show jA 1=1 from M0 (by decide) (by decide)];rw [if_neg h0] at g;obtain⟨c',b',M',y,q⟩:=g tt tt Q N (E.trans E2) (by omega);refine⟨c',b',M',?_,q⟩;have H:I6 pr [44,32]=some (.str (pr ++ [44,32])):=F6 (by simp;omega);have t2:I6 (pr ++ [44,32]) (bR X)=some (.str (pr++44::32::bR X)):=by rw [F6 (by simp;omega)];simp
  have z:(0:Int)<(i:Int):=by omega
  have A:0<i:=by omega
  rw [l8,← y];simp [IU,f,o,e,z,A,I,r,J,H,t2,J7 (i:=i) (by omega)]
theorem Xq {n fu d:Nat}(r:20000<=fu)(c:C87 n fu d):C42 (n+1) fu d:=by intro m v a e s h p u o;obtain⟨f,j,l⟩:=h;have t:=O0 a;obtain⟨x,w,M',g,q⟩:=aau c e s a j l p u o a.length 0 (by omega) .undef .undef m fu (Ext.refl e) (by omega);have i:A9 (λb m k=>IU (l7 KW fu n) fu none b m k) fu (GR (iV 0) v .undef .undef (.str []) (.str [])) m []=_:=g;refine⟨M',?_,q⟩;rw [enter (sf:=f42) rfl rfl];simp [f42,i]
theorem Dv {n fu d:Nat}(o:C87 n fu d)(G:1<=n){m:Mem}{row:List d9}{e:Ex}(b:Int)(q:m.Ok)(p:m.lim<=m.nx)(h:bF m (λ_=>True) e row)(u:lZ e=true)(hp:oJ e<=10000)(A:qx e<=d):
  ∃m',l7 KW fu (n+1) (.func 163) [.agg row,iV (b+1)] m=some [⟨.str (bQ b (jK e,bR e)),m'⟩]∧Ext m m':=by
 obtain⟨n,rfl⟩:∃k,n=k+1:=⟨n-1,by omega⟩;have l:=h;have F:=gG e u;obtain⟨c,f,g,a⟩:=e;obtain⟨v,y,rfl,t,D⟩:=h;have w:=t.slice.r9;have r:=t.slice.cells;have E:=H7 q [o8 (r4 c f g v)];obtain⟨M1,s,E1⟩:=o (ext m [o8 (r4 c f g v)]) (r4 c f g v) _ E.ok (by rw [E.lim];exact aA p E.nx) (Cu E l) u hp A;have j:=λm=>Rv c n fu m;have B:I6 [40] (bR (.mk c f g a))=some (.str (40::bR (.mk c f g a))):=F6 (by simp only [Y1,abw];omega);have C:I6 (40::bR (.mk c f g a)) [41]=some (.str (40::(bR (.mk c f g a) ++ [41]))):=F6 (by simp only [Y1,abw];omega);have z:bQ b (jK (.mk c f g a),bR (.mk c f g a))=if kN c<b then 40::(bR (.mk c f g a) ++ [41]) else bR (.mk c f g a):=rfl
 rw [z];generalize bR (.mk c f g a)=x at *;refine⟨M1,?_,E.trans E1⟩;rw [enter (sf:=f163) rfl rfl];by_cases hlv:kN c<b;have i:kN c+1<b+1:=by omega
 simp [f163,P5 q p,r9,w,r,j,hlv,i,s,B,C];have i:¬ kN c+1<b+1:=by omega
 simp [f163,P5 q p,r9,w,r,j,hlv,i,s]
theorem Xr {n fu d:Nat}(aq:20000<=fu)(hn:14<=n)(ad:C42 (n+3) fu d)(J:C87 (n+2) fu d):C87 (n+4) fu (d+1):=by
 intro m ax e I H h hf hp hd;obtain⟨c,o,j,a⟩:=e;obtain⟨v,z,rfl,G,W⟩:=h;have U:=G.slice.r9;have Q:=G.slice.cells;have b:=H6.len W;have L:=G.slice.len;rw [b] at L;have au:=O0 a;have hL:=gG _ hf;obtain⟨p1,p2,p3,p4,B⟩:=Jh hf;rw [oJ] at hp hL;rw [qx] at hd;have E:=H7 I [o8 (r4 c o j v)];have t:=λm=>Rv c (n+2) fu m;have y:(ext m [o8 (r4 c o j v)]).lim<=(ext m [o8 (r4 c o j v)]).nx:=by rw [E.lim];exact aA H E.nx
 rw [bR] at hL ⊢;have ss:∀s:List UInt8,aB 100 (.str s) (.str s)=true:=λs=>ig 99 s;have sv:aB 100 v v=true:=jI G.slice 99;rcases FT p1 with rfl | rfl | rfl | rfl | rfl | ⟨hk6,hk18⟩;obtain⟨q1,q2⟩:=p3 rfl;obtain⟨M1,gi,E1⟩:=aar q1 q2 (n-13) fu (m:=ext m [o8 (r4 1 o j v)]) E.ok y;rw [show n-13+16=n+3 from by omega] at gi;refine⟨M1,?_,E.trans E1⟩;rw [show kP 1 o j (sw a)=Lib.itoa o from rfl];rw [enter (sf:=f87) rfl rfl];simp [f87,P5 I H,r9,U,Q,t,gi];refine⟨_,?_,E⟩;rw [show kP 2 o j (sw a)=j from rfl];rw [enter (sf:=f87) rfl rfl];simp [f87,P5 I H,r9,U,Q,t,L];obtain⟨M1,ac,E1⟩:=ad (ext m [o8 (r4 3 o j v)]) v a E.ok y (iZ.ext ⟨z,G,W⟩ E) B (by omega) (by omega);have ae:M1.get m.nx=some (o8 (r4 3 o j v)):=(E1.old m.nx (by simp)).trans (by rw [u7 I];rfl);have hJ:=sF a B;have hs:=zZ (p4 (.inr rfl));have M:I6 j [40]=some (.str (j ++ [40])):=F6 (by simp;omega);have t2:I6 (j ++ [40]) (aG a)=some (.str (j++40::aG a)):=by rw [F6 (by simp;omega)];simp
 have t3:I6 (j++40::aG a) [41]=some (.str (j++40::(aG a ++ [41]))):=by rw [F6 (by simp;omega)];simp
 have R:kP 3 o j (sw a)=j++40::(aG a ++ [41]):=by show j++(40::(aW [44,32] ((sw a).map (·.2)) ++ [41]))=_;rw [KR,ad4];simp [aG];rfl
 refine⟨M1,?_,E.trans E1⟩;rw [R];rw [enter (sf:=f87) rfl rfl];simp [f87,P5 I H,r9,U,Q,t,ac,ae,ss,M,t2,t3]
 have A:a.length=1:=by have:X9 4=1:=rfl
                       omega
 obtain⟨X,rfl⟩:=ac9.1 A;obtain⟨F,o1,Z,a2,a3,a4,a5⟩:=(G.slice.ext E).at (i:=0) (by rw [b];simp);have x:=Z;simp at x;have r:=H6.get W 0 (by simp) (by rw [b];simp);have a7:=r.row;have l:=a4 0 4 (by omega) (by omega);rw [q9,Xb (by omega),Y3] at l;generalize z[0]'(by rw [b];simp)=R0 at *;rw [S9,S9] at hp;rw [ah,ah] at hd;rw [aU,U9] at B;have hX:bF m (λ_=>True) X R0:=r;have l:ES ((ext m [o8 (r4 4 o j v)]).get F) o1 4=some (.agg R0):=l;obtain⟨M1,V,E1⟩:=Dv J (by omega) 6 (m:=ext m [o8 (r4 4 o j v)]) E.ok y (Cu E hX) B.1 (by omega) (by omega);have C:l7 KW fu (n+3) (.func 163) [.agg R0,iV 7] (ext m [o8 (r4 4 o j v)])=_:=V;have a6:=gG X B.1;have T:=fK 6 (jK X,bR X);have M:I6 [45] (bQ 6 (jK X,bR X))=some (.str (45::bQ 6 (jK X,bR X))):=F6 (by simp only [Y1,abw];simp only at T;omega);have R:kP 4 o j (sw [X])=45::bQ 6 (jK X,bR X):=rfl;refine⟨M1,?_,E.trans E1⟩;rw [R];rw [enter (sf:=f87) rfl rfl];simp [f87,P5 I H,r9,U,Q,t,x,l,C,M]
 have A:a.length=1:=by have:X9 5=1:=rfl
                       omega
 obtain⟨X,rfl⟩:=ac9.1 A;obtain⟨F,o1,Z,a2,a3,a4,a5⟩:=(G.slice.ext E).at (i:=0) (by rw [b];simp);have x:=Z;simp at x;have r:=H6.get W 0 (by simp) (by rw [b];simp);have a7:=r.row;have l:=a4 0 4 (by omega) (by omega);rw [q9,Xb (by omega),Y3] at l;generalize z[0]'(by rw [b];simp)=R0 at *;rw [S9,S9] at hp;rw [ah,ah] at hd;rw [aU,U9] at B;have hX:bF m (λ_=>True) X R0:=r;have l:ES ((ext m [o8 (r4 5 o j v)]).get F) o1 4=some (.agg R0):=l;obtain⟨M1,V,E1⟩:=Dv J (by omega) 2 (m:=ext m [o8 (r4 5 o j v)]) E.ok y (Cu E hX) B.1 (by omega) (by omega);have C:l7 KW fu (n+3) (.func 163) [.agg R0,iV 3] (ext m [o8 (r4 5 o j v)])=_:=V;have a6:=gG X B.1;have T:=fK 2 (jK X,bR X);have M:I6 [110,111,116,32] (bQ 2 (jK X,bR X))=some (.str ([110,111,116,32]++bQ 2 (jK X,bR X))):=F6 (by simp only [Y1,abw];simp only at T;omega);have R:kP 5 o j (sw [X])=[110,111,116,32]++bQ 2 (jK X,bR X):=rfl;refine⟨M1,?_,E.trans E1⟩;rw [R];rw [enter (sf:=f87) rfl rfl];simp [f87,P5 I H,r9,U,Q,t,x,l,C,M];have S:a.length=2:=by
  have:X9 c=2:=by unfold X9;rw [if_neg (by omega),if_neg (by omega),if_neg (by omega),if_pos ⟨hk6,hk18⟩]
  omega
 obtain⟨X,Y,rfl⟩:∃X Y,a=[X,Y]:=by
  match a,S with
  | [X,Y],_=>exact⟨X,Y,rfl⟩
 have k1:¬ c=1:=by omega
 have k2:¬ c=2:=by omega
 have k3:¬ c=3:=by omega
 have k4:¬ c=4:=by omega
 have k5:¬ c=5:=by omega
 have ao:=KV c;obtain⟨a8,al,am⟩:=Xp hk6 hk18;have r0:(ext m [o8 (r4 c o j v)]).get m.nx=some (o8 (r4 c o j v)):=by rw [u7 I];rfl
 obtain⟨wv,kv,M1,K,E1,hw,hk⟩:∃wv kv M1,l7 KW fu (n+3) (.func 164) [iV (kN c+1)] (ext m [o8 (r4 c o j v)])=some [⟨.tuple [wv,kv],M1⟩]∧Ext (ext m [o8 (r4 c o j v)]) M1∧bK M1 wv (strs ((bI (kN c).toNat).map (·.1)))∧bK M1 kv ((bI (kN c).toNat).map λw=>d9.int .i64 w.2):=by obtain⟨M1,g,q⟩:=aas E.ok _ a8 (n+2) fu;rw [al] at g;exact⟨_,_,M1,g,q⟩
 have r1:M1.get m.nx=some (o8 (r4 c o j v)):=(E1.old m.nx (by simp)).trans r0;have ag:(bI (kN c).toNat).length<=1000:=by rcases a8 with h | h | h | h | h<;>rw [h]<;>simp [bI]
 obtain⟨c',b',gl⟩:=aat (p:=m.nx) (x0:=.agg (r4 c o j v)) (x3:=.bool false) (x4:=.bool false) (x5:=.bool false) (x6:=.bool false) (x7:=.bool false) (x8:=.int .i64 (kN c+1)) (x14:=.undef) (x15:=.undef) (x17:=.str []) r1 (bI (kN c).toNat) ag hw hk (n+3) fu (bI (kN c).toNat).length 0 (by omega) .undef .undef [] fu (by omega);rw [q9,am] at gl;have a0:A9 (λa9 m k=>IY (l7 KW fu (n+3)) fu none a9 m k) fu (Qb (.agg (r4 c o j v)) (.ptr m.nx 0) (iV c) ff ff ff ff ff (iV (kN c+1)) (iV 0) kv .undef .undef wv .undef .undef (.str []) (.str [])) M1 []=_:=gl;clear gl;have E1':=E.trans E1;obtain⟨F,o1,Z,a2,a3,a4,a5⟩:=(G.slice.ext E1').at (i:=0) (by rw [b];simp);have x:=Z;simp at x;have r:=H6.get W 0 (by simp) (by rw [b];simp);have a7:=r.row;have l:=a4 0 4 (by omega) (by omega);rw [q9,Xb (by omega),Y3] at l;have D:=H6.get W 1 (by simp) (by rw [b];simp);have ap:=D.row;obtain⟨aw,o2,b1,b2,b3,b4,b5⟩:=(G.slice.ext E1').at (i:=1) (by rw [b];simp);generalize z[0]'(by rw [b];simp)=R0 at *;rw [S9,S9,S9] at hp;rw [ah,ah,ah] at hd;rw [aU,aU,U9,U9] at B;have hX:bF m (λ_=>True) X R0:=r;have l:ES (M1.get F) o1 4=some (.agg R0):=l;have ak:∀f:Int,(if kN c=3 then 4 else kN c)=f->∃m',l7 KW fu (n+4) (.func 87) [.agg (r4 c o j v)] m=some [⟨.str (kP c o j (sw [X,Y])),m'⟩]∧Ext m m':=by
  intro f u;have af:M1.lim<=M1.nx:=by rw [E1'.lim];exact aA H E1'.nx
  obtain⟨M2,V,E2⟩:=Dv J (by omega) f (m:=M1) E1.ok af (Cu E1' hX) B.1 (by omega) (by omega);have E2':=E1'.trans E2;obtain⟨jd,oo,c1,c2,c3,c4,c5⟩:=(G.slice.ext E2').at (i:=1) (by rw [b];simp);have O:=c1;simp at O;have P:=c4 0 4 (by omega) (by omega);rw [q9,Xb (by omega),Y3] at P;rw [b1] at c1;cases c1;have N:=b4 0 4 (by omega) (by omega);rw [q9,Xb (by omega),Y3] at N;generalize z[1]'(by rw [b];simp)=R1 at *;have hY:bF m (λ_=>True) Y R1:=D;obtain⟨M3,g3,E3⟩:=Dv J (by omega) (kN c+1) (m:=M2) E2.ok (by rw [E2'.lim];exact aA H E2'.nx) (Cu E2' hY) B.2.1 (by omega) (by omega);have E3':=E2'.trans E3;have r2:M2.get m.nx=some (o8 (r4 c o j v)):=(E2.old m.nx (gI (by simp) E1.nx)).trans r1;have r3:M3.get m.nx=some (o8 (r4 c o j v)):=(E3.old m.nx (gI (gI (by simp) E1.nx) E2.nx)).trans r2;have sy:aB 100 (.agg R1) (.agg R1)=true:=Oe hY;have si:∀(k:IntKind) (i:Int),aB 100 (.int k i) (.int k i)=true:=λk i=>vT 99 k i;have a6:=gG X B.1;have ar:=gG Y B.2.1;have ai:=fK f (jK X,bR X);have aj:=fK (kN c+1) (jK Y,bR Y);have av:=KT c;simp only at ai aj;have M:I6 (bQ f (jK X,bR X)) [32]=some (.str (bQ f (jK X,bR X) ++ [32])):=F6 (by simp;omega);have t2:I6 (bQ f (jK X,bR X) ++ [32]) (KQ c)=some (.str (bQ f (jK X,bR X)++32::KQ c)):=by rw [F6 (by simp;omega)];simp
  have t3:I6 (bQ f (jK X,bR X)++32::KQ c) [32]=some (.str (bQ f (jK X,bR X)++32::(KQ c ++ [32]))):=by rw [F6 (by simp;omega)];simp
  have t4:I6 (bQ f (jK X,bR X)++32::(KQ c ++ [32])) (bQ (kN c+1) (jK Y,bR Y))=some (.str (bQ f (jK X,bR X)++32::(KQ c++32::bQ (kN c+1) (jK Y,bR Y)))):=by rw [F6 (by simp;omega)];simp
  have w1:jA (kN c+1+1)=kN c+1+1:=M0 (by omega) (by omega);have R:kP c o j (sw [X,Y])=bQ f (jK X,bR X)++32::(KQ c++32::bQ (kN c+1) (jK Y,bR Y)):=by unfold kP;rw [if_neg k1,if_neg k2,if_neg k3,if_neg k4,if_neg k5,u];simp [sw]
  refine⟨M3,?_,E3'⟩;rw [R];generalize hq:kN c=q at *;by_cases h3:q=3;rw [if_pos h3] at u;subst h3;subst u;have an:jA 5=5:=M0 (by omega) (by omega);have aa:l7 KW fu (n+3) (.func 163) [.agg R0,iV 5] M1=_:=V;have ab:l7 KW fu (n+3) (.func 163) [.agg R1,iV 5] M2=_:=g3;rw [show (3:Int)+1=4 from rfl] at *;rw [enter (sf:=f87) rfl rfl];simp [f87,P5 I H,r9,U,Q,t,k1,k2,k3,k4,k5,an,x,l,O,N,P,r0,r1,r2,r3,sy,si,ss,sv,K,a0,aa,ab,M,t2,t3,t4];rw [if_neg h3] at u;subst u;have h4:¬ q+1=4:=by omega
  rw [enter (sf:=f87) rfl rfl];simp [f87,P5 I H,r9,U,Q,t,k1,k2,k3,k4,k5,h4,w1,x,l,O,N,P,r0,r1,r2,r3,sy,si,ss,sv,K,a0,V,g3,M,t2,t3,t4]
 exact ak _ rfl
theorem aed (fu:Nat)(b:20000<=fu):∀d n:Nat,2*d+18<=n->C87 n fu d:=by
 intro d;induction d with
 | zero=>intro n f m g e l j h i o c;obtain⟨p,q,r,a⟩:=e;rw [qx] at c;omega
 | succ d ih=>intro n f;obtain⟨n,rfl⟩:∃k,n=k+4:=⟨n-4,by omega⟩;exact Xr b (by omega) (Xq b (ih (n+2) (by omega))) (ih (n+2) (by omega))
theorem aee (fu:Nat)(a:20000<=fu)(d n:Nat)(h:2*d+19<=n):C42 n fu d:=by obtain⟨n,rfl⟩:∃k,n=k+1:=⟨n-1,by omega⟩;exact Xq a (aed fu a d n (by omega))
theorem Xt (d:Nat):L8 d ++ [32,32]=L8 (d+1):=by unfold L8;rw [show 2*(d+1)=2*d+2 from by omega,← List.replicate_append_replicate];rfl
theorem TU {dp:Nat}(f:dp<=100){M:Mem}{y0 y1 y2 y7 y8 y9 y10 y11 y12 y13 y14 y15 y16:d9}(n fu:Nat):
  ∀(j i:Nat),i+j=dp->∀(c:d9) (N:Nat),j+1<=N->
  ∃c',A9 (λenv m k=>NP (l7 KW fu n) fu none env m k) N (KH y0 y1 y2 (iV (i:Int)) (iV (dp:Int)) c (.str (L8 i)) y7 y8 y9 y10 y11 y12 y13 y14 y15 y16) M []=some [⟨.exit 2,(KH y0 y1 y2 (iV (dp:Int)) (iV (dp:Int)) c' (.str (L8 dp)) y7 y8 y9 y10 y11 y12 y13 y14 y15 y16),M,[],none⟩]:=by
 intro j;induction j with
 | zero=>
  intro i g c N e;obtain⟨N,rfl⟩:∃k,N=k+1:=⟨N-1,by omega⟩;obtain rfl:i=dp:=by omega
  refine⟨.bool false,?_⟩;rw [l8];simp [NP]
 | succ j ih=>
  intro i g c N e;obtain⟨N,rfl⟩:∃k,N=k+1:=⟨N-1,by omega⟩;have b:i<dp:=by omega
  have a:(i:Int)<(dp:Int):=by omega
  obtain⟨c',d⟩:=ih (i+1) (by omega) tt N (by omega);have h:I6 (L8 i) [32,32]=some (.str (L8 (i+1))):=by rw [F6 (by rw [L8,afA];simp;omega),Xt]
  refine⟨c',?_⟩;rw [l8,← d];simp [NP,b,a,h,J7 (i:=i) (by omega)]
def C20 (n fu d:Nat):Prop:=∀(m:Mem) (v:d9) (l:List aR) (dp:Nat),m.Ok->m.lim<=m.nx->R4 m (λ_=>True) l v->aO l=true->V8 l<=1000->aZ l<=d->dp+d<=20->
 ∃m',l7 KW fu n (.func 20) [v,iV (dp:Int)] m=some [⟨.str (P6 l dp),m'⟩]∧Ext m m'
theorem aav {n fu d:Nat}(b9:20000<=fu)(hn:2*d+19<=n)(ad:C20 n fu d){m:Mem}(hm:m.Ok)(hl:m.lim<=m.nx){v:d9}{rows:List (List d9)}(l:List aR)(dp:Nat)(h1:gM m (λ_=>True) 5 v rows)(h2:I4 m (λ_=>True) l rows)(hf:aO l=true)(bj:V8 l<=1000)(hd:aZ l<=d+1)(bh:dp+(d+1)<=20):
  ∀(j i:Nat),i+j=l.length->∀(c x3 x5 x6 x7 x8 x9 x11 x12 x13 x14 x15:d9) (M:Mem) (N:Nat),Ext m M->j+1<=N->
  ∃c' x3' x5' x6' x7' x8' x9' x11' x12' x13' x14' x15' M',A9 (λenv m k=>sQ (l7 KW fu n) fu none env m k) N (KH (iV (i:Int)) v c x3 (iV (dp:Int)) x5 x6 x7 x8 x9 (.str (P6 (l.take i) dp)) x11 x12 x13 x14 x15 (.str [])) M []=some [⟨.exit 0,(KH (iV (l.length:Int)) v c' x3' (iV (dp:Int)) x5' x6' x7' x8' x9' (.str (P6 l dp)) x11' x12' x13' x14' x15' (.str [])),M',[],none⟩]∧Ext m M':=by
 have ae:=I4.len h2;have o:=h1.slice.len;rw [ae] at o;have bi:=V5 l;have be:=jc l dp hf (by omega);intro j;induction j with
 | zero=>
  intro i hi c x3 x5 x6 x7 x8 x9 x11 x12 x13 x14 x15 M N E hN;obtain⟨N,rfl⟩:∃k,N=k+1:=⟨N-1,by omega⟩;obtain rfl:i=l.length:=by omega
  rw [afE];refine⟨.bool false,x3,x5,x6,x7,x8,x9,x11,x12,x13,x14,x15,M,?_,E⟩;rw [l8];simp [sQ,o]
 | succ j ih=>
  intro i hi c x3 x5 x6 x7 x8 x9 x11 x12 x13 x14 x15 M N E hN;obtain⟨N,rfl⟩:∃k,N=k+1:=⟨N-1,by omega⟩;have p:i<l.length:=by omega
  have aa:i<rows.length:=by omega
  have q:(i:Int)<(l.length:Int):=by omega
  have hM:=E.ok;have b6:M.lim<=M.nx:=by rw [E.lim];exact aA hl E.nx
  obtain⟨bm,o1,a1,a2,a3,a4,a5⟩:=(h1.slice.ext E).at aa;have ab:=I4.get h2 i p aa;have bk:=ab.row;have w:=a4 0 5 (by omega) (by omega);rw [q9,Xb (by omega),Y3] at w;have bc:=kF l i p;have b7:=oK l i p;have b8:=FV hf i p;have bd:P6 (l.take i) dp++(yC l[i] dp++P6 (l.drop (i+1)) dp)=P6 l dp:=by rw [← P6,← Xl p,← mh,aha]
  have au:P6 (l.take (i+1)) dp=P6 (l.take i) dp++yC l[i] dp:=by rw [abu p,mh];show _++(yC l[i] dp ++ [])=_;rw [ad6]
  have Y:(P6 (l.take i) dp).length+(yC l[i] dp).length<=700000:=by have:=congrArg List.length bd;rw [Z5,Z5] at this;omega
  have y:=ih (i+1) (by omega);rw [au] at y;clear ih au;generalize P6 (l.take i) dp=pr at *;generalize hX:l[i]=X at *;generalize hR:rows[i]=R at *;obtain⟨k0,g,e,t,f⟩:=X;obtain⟨z,u,K,re,rt,rf,rfl,e1,e2,t1,t2,f1,f2⟩:=ab;obtain⟨hk,fe,ft,ff,bl,fq⟩:=Ji b8;rw [stP] at bc;rw [vE] at b7;have hJ:=sF e fe;have bf:=jc t (dp+1) ft (by omega);have bg:=jc f (dp+1) ff (by omega);have hI:(L8 dp).length<=50:=by rw [L8,afA];omega
  have J:=e1.slice.cells;have O:=t1.slice.cells;have L:=f1.slice.cells;have oe:=e1.slice.r9;have ot:=t1.slice.r9;have of:=f1.slice.r9;have oi:∀(k:IntKind) (i:Int),Go.AM.r9 (.int k i)=true:=λ_ _=>rfl;have F:∀s:List UInt8,Go.AM.r9 (.str s)=true:=λ_=>rfl;have ss:∀s:List UInt8,aB 100 (.str s) (.str s)=true:=λs=>ig 99 s;have H:aB 100 z z=true:=jI e1.slice 99;have I:aB 100 u u=true:=jI t1.slice 99;have w1:jA ((dp:Int)+1)=(dp:Int)+1:=M0 (by omega) (by omega);obtain⟨P,Q,S,T,U,V⟩:=qw hM b6;have G:Go.AM.vS (some (o8 (r5 0 [] nS nS nS))) 0 (r5 k0 g z u K)=some (o8 (r5 k0 g z u K)):=by rw [gY (by simp) (by simp)];rfl
  have E1:=H7 hM [o8 (r5 k0 g z u K)];have Em1:=E.trans E1;have x:(ext M [o8 (r5 k0 g z u K)]).get M.nx=some (o8 (r5 k0 g z u K)):=by rw [u7 hM];rfl
  have ba:(ext M [o8 (r5 k0 g z u K)]).lim<=(ext M [o8 (r5 k0 g z u K)]).nx:=by rw [Em1.lim];exact aA hl Em1.nx
  obtain⟨c5,gi⟩:=TU (dp:=dp) (by omega) (M:=ext M [o8 (r5 k0 g z u K)]) (y0:=.int .i64 (i:Int)) (y1:=v) (y2:=.bool true) (y7:=.ptr M.nx 0) (y8:=x8) (y9:=x9) (y10:=.str pr) (y11:=x11) (y12:=x12) (y13:=x13) (y14:=x14) (y15:=x15) (y16:=.str []) n fu dp 0 (by omega) x5 fu (by omega);have D:A9 (λenv m k=>NP (l7 KW fu n) fu none env m k) fu (KH (iV (i:Int)) v tt (iV 0) (iV (dp:Int)) x5 (.str []) (.ptr M.nx 0) x8 x9 (.str pr) x11 x12 x13 x14 x15 (.str [])) (ext M [o8 (r5 k0 g z u K)]) []=_:=gi;clear gi;obtain⟨M2,g2,E2⟩:=aee fu b9 d n hn (ext M [o8 (r5 k0 g z u K)]) z e E1.ok ba (iZ.ext ⟨re,e1,e2⟩ Em1) fe (by omega) (by omega);have Em2:=Em1.trans E2;have ar:M2.lim<=M2.nx:=by rw [Em2.lim];exact aA hl Em2.nx
  have r:M2.get M.nx=some (o8 (r5 k0 g z u K)):=(E2.old _ (by simp)).trans x;rcases hk with rfl | rfl | rfl | rfl | rfl | rfl;have b:yC (.mk 1 g e t f) dp=L8 dp++([108,101,116,32]++(g++([32,61,32]++(aG e ++ [59,10])))):=rfl;have a:=Y;rw [b] at a;simp only [Q0] at a;have A:I6 pr (L8 dp)=some (.str (pr++(L8 dp))):=by rw [F6 (by (try simp only [Q0]);omega)];(try simp only [U0])
  have B:I6 (pr++(L8 dp)) [108,101,116,32]=some (.str (pr++((L8 dp) ++ [108,101,116,32]))):=by rw [F6 (by (try simp only [Q0]);omega)];(try simp only [U0])
  have C:I6 (pr++((L8 dp) ++ [108,101,116,32])) g=some (.str (pr++((L8 dp)++(108::101::116::32::g)))):=by rw [F6 (by (try simp only [Q0]);omega)];(try simp only [U0])
  have a0:I6 (pr++((L8 dp)++(108::101::116::32::g))) [32,61,32]=some (.str (pr++((L8 dp)++(108::101::116::32::(g ++ [32,61,32]))))):=by rw [F6 (by (try simp only [Q0]);omega)];(try simp only [U0])
  have ac:I6 (pr++((L8 dp)++(108::101::116::32::(g ++ [32,61,32])))) (aG e)=some (.str (pr++((L8 dp)++(108::101::116::32::(g++(32::61::32::(aG e))))))):=by rw [F6 (by (try simp only [Q0]);omega)];(try simp only [U0])
  have ay:I6 (pr++((L8 dp)++(108::101::116::32::(g++(32::61::32::(aG e)))))) [59,10]=some (.str (pr++((L8 dp)++(108::101::116::32::(g++(32::61::32::((aG e) ++ [59,10]))))))):=by rw [F6 (by (try simp only [Q0]);omega)];(try simp only [U0])
  obtain⟨c',x3',x5',x6',x7',x8',x9',x11',x12',x13',x14',x15',M',W,Z⟩:=y tt (iV (dp:Int)) c5 (.str (L8 dp)) (.ptr M.nx 0) (iV 1) tt x11 x12 x13 x14 x15 M2 N Em2 (by omega);refine⟨c',x3',x5',x6',x7',x8',x9',x11',x12',x13',x14',x15',M',?_,Z⟩;rw [l8,← W];simp [sQ,I5,J5,P,Q,S,T,U,V,oi,F,o,p,q,a1,w,G,J,O,L,oe,ot,of,ss,H,I,D,g2,x,r,b,A,B,C,a0,ac,ay,J7 (i:=i) (by omega)];have b:yC (.mk 2 g e t f) dp=L8 dp++(g++([32,61,32]++(aG e ++ [59,10]))):=rfl;have a:=Y;rw [b] at a;simp only [Q0] at a;have A:I6 pr (L8 dp)=some (.str (pr++(L8 dp))):=by rw [F6 (by (try simp only [Q0]);omega)];(try simp only [U0])
  have B:I6 (pr++(L8 dp)) g=some (.str (pr++((L8 dp)++g))):=by rw [F6 (by (try simp only [Q0]);omega)];(try simp only [U0])
  have C:I6 (pr++((L8 dp)++g)) [32,61,32]=some (.str (pr++((L8 dp)++(g ++ [32,61,32])))):=by rw [F6 (by (try simp only [Q0]);omega)];(try simp only [U0])
  have a0:I6 (pr++((L8 dp)++(g ++ [32,61,32]))) (aG e)=some (.str (pr++((L8 dp)++(g++(32::61::32::(aG e)))))):=by rw [F6 (by (try simp only [Q0]);omega)];(try simp only [U0])
  have ac:I6 (pr++((L8 dp)++(g++(32::61::32::(aG e))))) [59,10]=some (.str (pr++((L8 dp)++(g++(32::61::32::((aG e) ++ [59,10])))))):=by rw [F6 (by (try simp only [Q0]);omega)];(try simp only [U0])
  obtain⟨c',x3',x5',x6',x7',x8',x9',x11',x12',x13',x14',x15',M',W,Z⟩:=y tt (iV (dp:Int)) c5 (.str (L8 dp)) (.ptr M.nx 0) (iV 2) (.bool false) tt x12 x13 x14 x15 M2 N Em2 (by omega);refine⟨c',x3',x5',x6',x7',x8',x9',x11',x12',x13',x14',x15',M',?_,Z⟩;rw [l8,← W];simp [sQ,I5,J5,P,Q,S,T,U,V,oi,F,o,p,q,a1,w,G,J,O,L,oe,ot,of,ss,H,I,D,g2,x,r,b,A,B,C,a0,ac,J7 (i:=i) (by omega)];obtain⟨M3,g3,E3⟩:=ad M2 u t (dp+1) Em2.ok ar (R4.ext ⟨rt,t1,t2⟩ Em2) ft (by omega) (by omega) (by omega);have g3:l7 KW fu n (.func 20) [u,.int .i64 ((dp:Int)+1)] M2=_:=g3;have Em3:=Em2.trans E3;have a8:M3.get M.nx=some (o8 (r5 3 g z u K)):=(E3.old _ (gI (by simp) E2.nx)).trans r;have b:yC (.mk 3 g e t f) dp=L8 dp++([105,102,32]++(aG e++([32,123,10]++(P6 t (dp+1)++((if 0<f.length then L8 dp++([125,32,101,108,115,101,32,123,10]++P6 f (dp+1)) else [])++(L8 dp ++ [125,10])))))):=rfl;have a:=Y;rw [b] at a;have ap:=a;simp only [Q0] at ap;have a7:=f1.slice.len;rw [I4.len f2] at a7;have af:I6 pr (L8 dp)=some (.str (pr++(L8 dp))):=by rw [F6 (by (try simp only [Q0]);omega)];(try simp only [U0])
  have ag:I6 (pr++(L8 dp)) [105,102,32]=some (.str (pr++((L8 dp) ++ [105,102,32]))):=by rw [F6 (by (try simp only [Q0]);omega)];(try simp only [U0])
  have ah:I6 (pr++((L8 dp) ++ [105,102,32])) (aG e)=some (.str (pr++((L8 dp)++(105::102::32::(aG e))))):=by rw [F6 (by (try simp only [Q0]);omega)];(try simp only [U0])
  have ai:I6 (pr++((L8 dp)++(105::102::32::(aG e)))) [32,123,10]=some (.str (pr++((L8 dp)++(105::102::32::((aG e) ++ [32,123,10]))))):=by rw [F6 (by (try simp only [Q0]);omega)];(try simp only [U0])
  have aj:I6 (pr++((L8 dp)++(105::102::32::((aG e) ++ [32,123,10])))) (P6 t (dp+1))=some (.str (pr++((L8 dp)++(105::102::32::((aG e)++(32::123::10::(P6 t (dp+1)))))))):=by rw [F6 (by (try simp only [Q0]);omega)];(try simp only [U0])
  have ak:I6 (pr++((L8 dp)++(105::102::32::((aG e)++(32::123::10::(P6 t (dp+1))))))) (L8 dp)=some (.str (pr++((L8 dp)++(105::102::32::((aG e)++(32::123::10::((P6 t (dp+1))++(L8 dp)))))))):=by rw [F6 (by (try simp only [Q0]);omega)];(try simp only [U0])
  have al:I6 (pr++((L8 dp)++(105::102::32::((aG e)++(32::123::10::((P6 t (dp+1))++(L8 dp))))))) [125]=some (.str (pr++((L8 dp)++(105::102::32::((aG e)++(32::123::10::((P6 t (dp+1))++((L8 dp) ++ [125])))))))):=by rw [F6 (by (try simp only [Q0]);omega)];(try simp only [U0])
  by_cases hf0:f.length=0;have a6:f=[]:=aa5.1 hf0;subst a6;rw [if_neg (by simp)] at a b;simp only [Q0] at a;have av:I6 (pr++((L8 dp)++(105::102::32::((aG e)++(32::123::10::((P6 t (dp+1))++((L8 dp) ++ [125]))))))) [10]=some (.str (pr++((L8 dp)++(105::102::32::((aG e)++(32::123::10::((P6 t (dp+1))++((L8 dp) ++ [125,10])))))))):=by rw [F6 (by (try simp only [Q0]);omega)];(try simp only [U0])
  obtain⟨c',x3',x5',x6',x7',x8',x9',x11',x12',x13',x14',x15',M',W,Z⟩:=y tt (iV (dp:Int)) c5 (.str (L8 dp)) (.ptr M.nx 0) (iV 3) (.bool false) (.bool false) (.bool false) (.bool false) (.bool false) (.bool false) M3 N Em3 (by omega);refine⟨c',x3',x5',x6',x7',x8',x9',x11',x12',x13',x14',x15',M',?_,Z⟩;rw [l8,← W];simp [sQ,I5,J5,P,Q,S,T,U,V,oi,F,o,p,q,a1,w,G,J,O,L,oe,ot,of,ss,H,I,D,g2,g3,x,r,a8,w1,a7,b,af,ag,ah,ai,aj,ak,al,av,J7 (i:=i) (by omega)];have aq:0<(f.length:Int):=by omega
  have a9:0<f.length:=by omega
  have a6:¬ f=[]:=λh=>by simp [h] at hf0
  rw [if_pos a9] at a b;simp only [Q0] at a;have bb:M3.lim<=M3.nx:=by rw [Em3.lim];exact aA hl Em3.nx
  obtain⟨M4,g4,E4⟩:=ad M3 K f (dp+1) Em3.ok bb (R4.ext ⟨rf,f1,f2⟩ Em3) ff (by omega) (by omega) (by omega);have g4:l7 KW fu n (.func 20) [K,.int .i64 ((dp:Int)+1)] M3=_:=g4;have Em4:=Em3.trans E4;have aw:I6 (pr++((L8 dp)++(105::102::32::((aG e)++(32::123::10::((P6 t (dp+1))++((L8 dp) ++ [125]))))))) [32,101,108,115,101,32,123,10]=some (.str (pr++((L8 dp)++(105::102::32::((aG e)++(32::123::10::((P6 t (dp+1))++((L8 dp) ++ [125,32,101,108,115,101,32,123,10])))))))):=by rw [F6 (by (try simp only [Q0]);omega)];(try simp only [U0])
  have ax:I6 (pr++((L8 dp)++(105::102::32::((aG e)++(32::123::10::((P6 t (dp+1))++((L8 dp) ++ [125,32,101,108,115,101,32,123,10]))))))) (P6 f (dp+1))=some (.str (pr++((L8 dp)++(105::102::32::((aG e)++(32::123::10::((P6 t (dp+1))++((L8 dp)++(125::32::101::108::115::101::32::123::10::(P6 f (dp+1))))))))))):=by rw [F6 (by (try simp only [Q0]);omega)];(try simp only [U0])
  have am:I6 (pr++((L8 dp)++(105::102::32::((aG e)++(32::123::10::((P6 t (dp+1))++((L8 dp)++(125::32::101::108::115::101::32::123::10::(P6 f (dp+1)))))))))) (L8 dp)=some (.str (pr++((L8 dp)++(105::102::32::((aG e)++(32::123::10::((P6 t (dp+1))++((L8 dp)++(125::32::101::108::115::101::32::123::10::((P6 f (dp+1))++(L8 dp))))))))))):=by rw [F6 (by (try simp only [Q0]);omega)];(try simp only [U0])
  have an:I6 (pr++((L8 dp)++(105::102::32::((aG e)++(32::123::10::((P6 t (dp+1))++((L8 dp)++(125::32::101::108::115::101::32::123::10::((P6 f (dp+1))++(L8 dp)))))))))) [125]=some (.str (pr++((L8 dp)++(105::102::32::((aG e)++(32::123::10::((P6 t (dp+1))++((L8 dp)++(125::32::101::108::115::101::32::123::10::((P6 f (dp+1))++((L8 dp) ++ [125]))))))))))):=by rw [F6 (by (try simp only [Q0]);omega)];(try simp only [U0])
  have ao:I6 (pr++((L8 dp)++(105::102::32::((aG e)++(32::123::10::((P6 t (dp+1))++((L8 dp)++(125::32::101::108::115::101::32::123::10::((P6 f (dp+1))++((L8 dp) ++ [125])))))))))) [10]=some (.str (pr++((L8 dp)++(105::102::32::((aG e)++(32::123::10::((P6 t (dp+1))++((L8 dp)++(125::32::101::108::115::101::32::123::10::((P6 f (dp+1))++((L8 dp) ++ [125,10]))))))))))):=by rw [F6 (by (try simp only [Q0]);omega)];(try simp only [U0])
  obtain⟨c',x3',x5',x6',x7',x8',x9',x11',x12',x13',x14',x15',M',W,Z⟩:=y tt (iV (dp:Int)) c5 (.str (L8 dp)) (.ptr M.nx 0) (iV 3) (.bool false) (.bool false) (.bool false) (.bool false) (.bool false) tt M4 N Em4 (by omega);refine⟨c',x3',x5',x6',x7',x8',x9',x11',x12',x13',x14',x15',M',?_,Z⟩;rw [l8,← W];simp [sQ,I5,J5,P,Q,S,T,U,V,oi,F,o,p,q,a1,w,G,J,O,L,oe,ot,of,ss,H,I,D,g2,g3,g4,x,r,a8,w1,a7,hf0,aq,a9,a6,b,af,ag,ah,ai,aj,ak,al,aw,ax,am,an,ao,J7 (i:=i) (by omega)];obtain⟨M3,g3,E3⟩:=ad M2 u t (dp+1) Em2.ok ar (R4.ext ⟨rt,t1,t2⟩ Em2) ft (by omega) (by omega) (by omega);have g3:l7 KW fu n (.func 20) [u,.int .i64 ((dp:Int)+1)] M2=_:=g3;have Em3:=Em2.trans E3;have a8:M3.get M.nx=some (o8 (r5 4 g z u K)):=(E3.old _ (gI (by simp) E2.nx)).trans r;have b:yC (.mk 4 g e t f) dp=L8 dp++([119,104,105,108,101,32]++(aG e++([32,123,10]++(P6 t (dp+1)++(L8 dp ++ [125,10]))))):=rfl;have a:=Y;rw [b] at a;simp only [Q0] at a;have az:I6 pr (L8 dp)=some (.str (pr++(L8 dp))):=by rw [F6 (by (try simp only [Q0]);omega)];(try simp only [U0])
  have b0:I6 (pr++(L8 dp)) [119,104,105,108,101,32]=some (.str (pr++((L8 dp) ++ [119,104,105,108,101,32]))):=by rw [F6 (by (try simp only [Q0]);omega)];(try simp only [U0])
  have b1:I6 (pr++((L8 dp) ++ [119,104,105,108,101,32])) (aG e)=some (.str (pr++((L8 dp)++(119::104::105::108::101::32::(aG e))))):=by rw [F6 (by (try simp only [Q0]);omega)];(try simp only [U0])
  have b2:I6 (pr++((L8 dp)++(119::104::105::108::101::32::(aG e)))) [32,123,10]=some (.str (pr++((L8 dp)++(119::104::105::108::101::32::((aG e) ++ [32,123,10]))))):=by rw [F6 (by (try simp only [Q0]);omega)];(try simp only [U0])
  have b3:I6 (pr++((L8 dp)++(119::104::105::108::101::32::((aG e) ++ [32,123,10])))) (P6 t (dp+1))=some (.str (pr++((L8 dp)++(119::104::105::108::101::32::((aG e)++(32::123::10::(P6 t (dp+1)))))))):=by rw [F6 (by (try simp only [Q0]);omega)];(try simp only [U0])
  have b4:I6 (pr++((L8 dp)++(119::104::105::108::101::32::((aG e)++(32::123::10::(P6 t (dp+1))))))) (L8 dp)=some (.str (pr++((L8 dp)++(119::104::105::108::101::32::((aG e)++(32::123::10::((P6 t (dp+1))++(L8 dp)))))))):=by rw [F6 (by (try simp only [Q0]);omega)];(try simp only [U0])
  have b5:I6 (pr++((L8 dp)++(119::104::105::108::101::32::((aG e)++(32::123::10::((P6 t (dp+1))++(L8 dp))))))) [125,10]=some (.str (pr++((L8 dp)++(119::104::105::108::101::32::((aG e)++(32::123::10::((P6 t (dp+1))++((L8 dp) ++ [125,10])))))))):=by rw [F6 (by (try simp only [Q0]);omega)];(try simp only [U0])
  obtain⟨c',x3',x5',x6',x7',x8',x9',x11',x12',x13',x14',x15',M',W,Z⟩:=y tt (iV (dp:Int)) c5 (.str (L8 dp)) (.ptr M.nx 0) (iV 4) (.bool false) (.bool false) (.bool false) (.bool false) tt x15 M3 N Em3 (by omega);refine⟨c',x3',x5',x6',x7',x8',x9',x11',x12',x13',x14',x15',M',?_,Z⟩;rw [l8,← W];simp [sQ,I5,J5,P,Q,S,T,U,V,oi,F,o,p,q,a1,w,G,J,O,L,oe,ot,of,ss,H,I,D,g2,g3,x,r,a8,w1,b,az,b0,b1,b2,b3,b4,b5,J7 (i:=i) (by omega)];have b:yC (.mk 5 g e t f) dp=L8 dp++([112,114,105,110,116,32]++(aG e ++ [59,10])):=rfl;have a:=Y;rw [b] at a;simp only [Q0] at a;have A:I6 pr (L8 dp)=some (.str (pr++(L8 dp))):=by rw [F6 (by (try simp only [Q0]);omega)];(try simp only [U0])
  have B:I6 (pr++(L8 dp)) [112,114,105,110,116,32]=some (.str (pr++((L8 dp) ++ [112,114,105,110,116,32]))):=by rw [F6 (by (try simp only [Q0]);omega)];(try simp only [U0])
  have C:I6 (pr++((L8 dp) ++ [112,114,105,110,116,32])) (aG e)=some (.str (pr++((L8 dp)++(112::114::105::110::116::32::(aG e))))):=by rw [F6 (by (try simp only [Q0]);omega)];(try simp only [U0])
  have a0:I6 (pr++((L8 dp)++(112::114::105::110::116::32::(aG e)))) [59,10]=some (.str (pr++((L8 dp)++(112::114::105::110::116::32::((aG e) ++ [59,10]))))):=by rw [F6 (by (try simp only [Q0]);omega)];(try simp only [U0])
  obtain⟨c',x3',x5',x6',x7',x8',x9',x11',x12',x13',x14',x15',M',W,Z⟩:=y tt (iV (dp:Int)) c5 (.str (L8 dp)) (.ptr M.nx 0) (iV 5) (.bool false) (.bool false) tt x13 x14 x15 M2 N Em2 (by omega);refine⟨c',x3',x5',x6',x7',x8',x9',x11',x12',x13',x14',x15',M',?_,Z⟩;rw [l8,← W];simp [sQ,I5,J5,P,Q,S,T,U,V,oi,F,o,p,q,a1,w,G,J,O,L,oe,ot,of,ss,H,I,D,g2,x,r,b,A,B,C,a0,J7 (i:=i) (by omega)];have b:yC (.mk 6 g e t f) dp=L8 dp++(aG e ++ [59,10]):=rfl;have a:=Y;rw [b] at a;simp only [Q0] at a;have A:I6 pr (L8 dp)=some (.str (pr++(L8 dp))):=by rw [F6 (by (try simp only [Q0]);omega)];(try simp only [U0])
  have B:I6 (pr++(L8 dp)) (aG e)=some (.str (pr++((L8 dp)++(aG e)))):=by rw [F6 (by (try simp only [Q0]);omega)];(try simp only [U0])
  have C:I6 (pr++((L8 dp)++(aG e))) [59,10]=some (.str (pr++((L8 dp)++((aG e) ++ [59,10])))):=by rw [F6 (by (try simp only [Q0]);omega)];(try simp only [U0])
  obtain⟨c',x3',x5',x6',x7',x8',x9',x11',x12',x13',x14',x15',M',W,Z⟩:=y tt (iV (dp:Int)) c5 (.str (L8 dp)) (.ptr M.nx 0) (iV 6) (.bool false) (.bool false) (.bool false) tt x14 x15 M2 N Em2 (by omega);refine⟨c',x3',x5',x6',x7',x8',x9',x11',x12',x13',x14',x15',M',?_,Z⟩;rw [l8,← W];simp [sQ,I5,J5,P,Q,S,T,U,V,oi,F,o,p,q,a1,w,G,J,O,L,oe,ot,of,ss,H,I,D,g2,x,r,b,A,B,C,J7 (i:=i) (by omega)]
theorem aef (fu:Nat)(w:20000<=fu):∀d n:Nat,2*d+19<=n->C20 n fu d:=by
 intro d;induction d with
 | zero=>
  intro n D m v l j i z h y A u b;obtain⟨n,rfl⟩:∃k,n=k+1:=⟨n-1,by omega⟩;obtain⟨c,p,r⟩:=h;have a:=p.slice.len;rw [I4.len r] at a;have x:l=[]:=by
   cases l with
   | nil=>rfl
   | cons s l=>obtain⟨k,s,e,t,f⟩:=s;rw [aZ,vE] at u;omega
  subst x;obtain⟨fu,rfl⟩:∃k,fu=k+1:=⟨fu-1,by omega⟩;refine⟨m,?_,Ext.refl i⟩;rw [enter (sf:=f20) rfl rfl];simp [f20,sQ,l8,a,P6]
 | succ d ih=>intro n D m v l j i z h y A u b;obtain⟨n,rfl⟩:∃k,n=k+1:=⟨n-1,by omega⟩;obtain⟨c,p,r⟩:=h;have C:=V5 l;obtain⟨G,H,I,J,K,L,M,N,O,P,E,F,M1,g,q⟩:=aav (n:=n) w (by omega) (ih n (by omega)) i z l j p r y A u b l.length 0 (by omega) .undef .undef .undef .undef .undef .undef .undef .undef .undef .undef .undef .undef m fu (Ext.refl i) (by omega);have B:A9 (λo m k=>sQ (l7 KW fu n) fu none o m k) fu (KH (iV 0) v .undef .undef (iV (j:Int)) .undef .undef .undef .undef .undef (.str []) .undef .undef .undef .undef .undef (.str [])) m []=_:=g;refine⟨M1,?_,q⟩;rw [enter (sf:=f20) rfl rfl];simp [f20,B]
end Go.Proofs.YteecnooaopfkeaaGreatDoor.TT
