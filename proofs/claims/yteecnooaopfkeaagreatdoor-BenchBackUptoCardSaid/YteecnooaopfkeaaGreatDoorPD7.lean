/- The printer, and the law BenchBack: it answers true on statements of a bounded bulk and any text; conditions: the memory holds what the arguments say. -/
import Derived.Test.YteecnooaopfkeaaGreatDoorPD6
import Derived.KernelRfl
set_option linter.all false
namespace Go.Proofs.YteecnooaopfkeaaGreatDoor.TT
open Go Go.AM
set_option maxRecDepth 100000
set_option maxHeartbeats 8000000
theorem aq7 (n fu:Nat)(m:Mem):r9 KW fu (n+8) (.func 71) [.str [32,32],iV 0] m=some [⟨.str [],m⟩]:=by kernel_rfl
theorem aq8 (n fu:Nat)(m:Mem):r9 KW fu (n+8) (.func 71) [.str [32,32],iV 1] m=some [⟨.str [32,32],m⟩]:=by kernel_rfl
theorem aq9 (n fu:Nat)(m:Mem):r9 KW fu (n+8) (.func 71) [.str [32,32],iV 2] m=some [⟨.str [32,32,32,32],m⟩]:=by kernel_rfl
theorem aqa (n fu:Nat)(m:Mem):r9 KW fu (n+8) (.func 71) [.str [32,32],iV 3] m=some [⟨.str [32,32,32,32,32,32],m⟩]:=by kernel_rfl
theorem aqb (n fu:Nat)(m:Mem):r9 KW fu (n+8) (.func 71) [.str [32,32],iV 4] m=some [⟨.str [32,32,32,32,32,32,32,32],m⟩]:=by kernel_rfl
theorem aqc (n fu:Nat)(m:Mem):r9 KW fu (n+8) (.func 71) [.str [32,32],iV 5] m=some [⟨.str [32,32,32,32,32,32,32,32,32,32],m⟩]:=by kernel_rfl
theorem aqd (n fu:Nat)(m:Mem):r9 KW fu (n+8) (.func 71) [.str [32,32],iV 6] m=some [⟨.str [32,32,32,32,32,32,32,32,32,32,32,32],m⟩]:=by kernel_rfl
theorem aqe (n fu:Nat)(m:Mem):r9 KW fu (n+8) (.func 71) [.str [32,32],iV 7] m=some [⟨.str [32,32,32,32,32,32,32,32,32,32,32,32,32,32],m⟩]:=by kernel_rfl
theorem aqf (n fu:Nat)(m:Mem):r9 KW fu (n+8) (.func 71) [.str [32,32],iV 8] m=some [⟨.str [32,32,32,32,32,32,32,32,32,32,32,32,32,32,32,32],m⟩]:=by kernel_rfl
theorem aqg (n fu:Nat)(m:Mem):r9 KW fu (n+8) (.func 71) [.str [32,32],iV 9] m=some [⟨.str [32,32,32,32,32,32,32,32,32,32,32,32,32,32,32,32,32,32],m⟩]:=by kernel_rfl
theorem ako (n fu:Nat)(m:Mem):r9 KW fu (n+8) (.func 71) [.str [32,32],iV 10] m=some [⟨.str [32,32,32,32,32,32,32,32,32,32,32,32,32,32,32,32,32,32,32,32],m⟩]:=by kernel_rfl
theorem akp (n fu:Nat)(m:Mem):r9 KW fu (n+8) (.func 71) [.str [32,32],iV 11] m=some [⟨.str [32,32,32,32,32,32,32,32,32,32,32,32,32,32,32,32,32,32,32,32,32,32],m⟩]:=by kernel_rfl
theorem akq (n fu:Nat)(m:Mem):r9 KW fu (n+8) (.func 71) [.str [32,32],iV 12] m=some [⟨.str [32,32,32,32,32,32,32,32,32,32,32,32,32,32,32,32,32,32,32,32,32,32,32,32],m⟩]:=by kernel_rfl
theorem akr (n fu:Nat)(m:Mem):r9 KW fu (n+8) (.func 71) [.str [32,32],iV 13] m=some [⟨.str [32,32,32,32,32,32,32,32,32,32,32,32,32,32,32,32,32,32,32,32,32,32,32,32,32,32],m⟩]:=by kernel_rfl
theorem aks (n fu:Nat)(m:Mem):r9 KW fu (n+8) (.func 71) [.str [32,32],iV 14] m=some [⟨.str [32,32,32,32,32,32,32,32,32,32,32,32,32,32,32,32,32,32,32,32,32,32,32,32,32,32,32,32],m⟩]:=by kernel_rfl
theorem akt (n fu:Nat)(m:Mem):r9 KW fu (n+8) (.func 71) [.str [32,32],iV 15] m=some [⟨.str [32,32,32,32,32,32,32,32,32,32,32,32,32,32,32,32,32,32,32,32,32,32,32,32,32,32,32,32,32,32],m⟩]:=by kernel_rfl
theorem aku (n fu:Nat)(m:Mem):r9 KW fu (n+8) (.func 71) [.str [32,32],iV 16] m=some [⟨.str [32,32,32,32,32,32,32,32,32,32,32,32,32,32,32,32,32,32,32,32,32,32,32,32,32,32,32,32,32,32,32,32],m⟩]:=by kernel_rfl
theorem akv (n fu:Nat)(m:Mem):r9 KW fu (n+8) (.func 71) [.str [32,32],iV 17] m=some [⟨.str [32,32,32,32,32,32,32,32,32,32,32,32,32,32,32,32,32,32,32,32,32,32,32,32,32,32,32,32,32,32,32,32,32,32],m⟩]:=by kernel_rfl
theorem akw (n fu:Nat)(m:Mem):r9 KW fu (n+8) (.func 71) [.str [32,32],iV 18] m=some [⟨.str [32,32,32,32,32,32,32,32,32,32,32,32,32,32,32,32,32,32,32,32,32,32,32,32,32,32,32,32,32,32,32,32,32,32,32,32],m⟩]:=by kernel_rfl
theorem akx (n fu:Nat)(m:Mem):r9 KW fu (n+8) (.func 71) [.str [32,32],iV 19] m=some [⟨.str [32,32,32,32,32,32,32,32,32,32,32,32,32,32,32,32,32,32,32,32,32,32,32,32,32,32,32,32,32,32,32,32,32,32,32,32,32,32],m⟩]:=by kernel_rfl
theorem aky (n fu:Nat)(m:Mem):r9 KW fu (n+8) (.func 71) [.str [32,32],iV 20] m=some [⟨.str [32,32,32,32,32,32,32,32,32,32,32,32,32,32,32,32,32,32,32,32,32,32,32,32,32,32,32,32,32,32,32,32,32,32,32,32,32,32,32,32],m⟩]:=by kernel_rfl
theorem akz (n fu:Nat)(m:Mem):r9 KW fu (n+8) (.func 71) [.str [32,32],iV 21] m=some [⟨.str [32,32,32,32,32,32,32,32,32,32,32,32,32,32,32,32,32,32,32,32,32,32,32,32,32,32,32,32,32,32,32,32,32,32,32,32,32,32,32,32,32,32],m⟩]:=by kernel_rfl
theorem aa7 (d:Nat)(a:d<=21)(n fu:Nat)(m:Mem):r9 KW fu (n+8) (.func 71) [.str [32,32],iV (d:Int)] m=some [⟨.str (cK d),m⟩]:=by
 match d,a with
 | 0,_=>exact aq7 n fu m
 | 1,_=>exact aq8 n fu m
 | 2,_=>exact aq9 n fu m
 | 3,_=>exact aqa n fu m
 | 4,_=>exact aqb n fu m
 | 5,_=>exact aqc n fu m
 | 6,_=>exact aqd n fu m
 | 7,_=>exact aqe n fu m
 | 8,_=>exact aqf n fu m
 | 9,_=>exact aqg n fu m
 | 10,_=>exact ako n fu m
 | 11,_=>exact akp n fu m
 | 12,_=>exact akq n fu m
 | 13,_=>exact akr n fu m
 | 14,_=>exact aks n fu m
 | 15,_=>exact akt n fu m
 | 16,_=>exact aku n fu m
 | 17,_=>exact akv n fu m
 | 18,_=>exact akw n fu m
 | 19,_=>exact akx n fu m
 | 20,_=>exact aky n fu m
 | 21,_=>exact akz n fu m
 | d+22,h=>exact absurd h (by omega)
theorem xq:∀(a b:List V4) (d:Nat),bN (a++b) d=bN a d++bN b d
 | [],b,d=>rfl
 | s::a,b,d=>by rw [aat,bN,xq a b d,bN,aao]
theorem QM:∀{l:List V4} (h:ay l=true) (i:Nat) (hi:i<l.length),rF l[i]=true
 | e::l,h,0,hi=>by rw [ay,l9] at h;exact h.1
 | e::l,h,i+1,hi=>by rw [ay,l9] at h;exact QM h.2 i (by simpa using hi)
theorem WK {k:Int}{s:List UInt8}{e:List Ex}{t f:List V4}(h:rF (.mk k s e t f)=true):(k=1∨k=2∨k=3∨k=4∨k=5∨k=6)∧X0 e=true∧ay t=true∧ay f=true∧s.length<=16∧fmQ k e t f:=by
 have q:=h;simp only [rF,l9,aa2,decide_eq_true_eq] at h;obtain⟨⟨⟨⟨⟨⟨⟨⟨⟨⟨o,p⟩,b⟩,c⟩,d⟩,g⟩,i⟩,j⟩,l⟩,m⟩,n⟩:=h;refine⟨by omega,l,m,n,?_,c,d,by rcases g with (a | a) | a<;>simp [a],i,j⟩
 split at b;exact EZ b;have:s=[]:=by simpa using b
 simp [this]
def C34 (n fu d:Nat):Prop:=∀(m:Mem) (v:o7) (l:List V4) (dp:Nat),m.Ok->m.lim<=m.nx->13<=m.nx->aG m (λ_=>True) l v->ay l=true->V6 l<=1000->cu l<=d->dp+d<=20->
 ∃m',r9 KW fu n (.func 34) [v,iV (dp:Int)] m=some [⟨.str (bN l dp),m'⟩]∧Ext m m'
theorem acS {n fu d:Nat}(b9:20000<=fu)(hn:3*d+3<=n+2)(af:C34 (n+2) fu d){m:Mem}(hm:m.Ok)(hl:m.lim<=m.nx)(hb:13<=m.nx){v:o7}{rows:List (List o7)}(l:List V4)(dp p:Nat)(bm:m.nx<=p)(h1:rD m (λ_=>True) 5 v rows)(h2:I4 m (λ_=>True) l rows)(hf:ay l=true)(bn:V6 l<=1000)(hd:cu l<=d+1)(bk:dp+(d+1)<=20):
  ∀(j i:Nat),i+j=l.length->∀(c x6 x7 x8 x11 x12 x13 x14 x15 x16:o7) (M:Mem) (N:Nat),Ext m M->Bu m.nx M p (bN (l.take i) dp)->j+1<=N->
  ∃c' x6' x7' x8' x11' x12' x13' x14' x15' x16' M',K8 (λenv m k=>uM (r9 KW fu (n+2)) fu none env m k) N (abP (iV (dp:Int)) v (iV (i:Int)) (iV (l.length:Int)) c v x6 x7 x8 (.str (cK dp)) (.ptr p 0) x11 x12 x13 x14 x15 x16 (.str [])) M []=some [⟨.exit 0,(abP (iV (dp:Int)) v (iV (l.length:Int)) (iV (l.length:Int)) c' v x6' x7' x8' (.str (cK dp)) (.ptr p 0) x11' x12' x13' x14' x15' x16' (.str [])),M',[],none⟩]∧Ext m M'∧Bu m.nx M' p (bN l dp):=by
 have ah:=I4.len h2;have a9:=h1.slice.len;rw [ah] at a9;have bl:=iq l;have bg:=pW l dp hf (by omega);intro j;induction j with
 | zero=>
  intro i hi c x6 x7 x8 x11 x12 x13 x14 x15 x16 M N E B hN;obtain⟨N,rfl⟩:∃k,N=k+1:=⟨N-1,by omega⟩;obtain rfl:i=l.length:=by omega
  rw [akb] at B;refine⟨.bool false,x6,x7,x8,x11,x12,x13,x14,x15,x16,M,?_,E,B⟩;rw [A8];simp [uM]
 | succ j ih=>
  intro i hi c x6 x7 x8 x11 x12 x13 x14 x15 x16 M N E B hN;obtain⟨N,rfl⟩:∃k,N=k+1:=⟨N-1,by omega⟩;have o:i<l.length:=by omega
  have ac:i<rows.length:=by omega
  have r:(i:Int)<(l.length:Int):=by omega
  have hM:=E.ok;have b3:M.lim<=M.nx:=by rw [E.lim];exact gI hl E.nx
  have b4:13<=M.nx:=gI hb E.nx;obtain⟨bq,o1,a1,a2,a3,a4,a5⟩:=(h1.slice.ext E).at ac;have ad:=I4.get h2 i o ac;have bo:=ad.row;have y:=a4 0 5 (by omega) (by omega);rw [K9,L6 (by omega),Y7] at y;have bd:=sG l i o;have b7:=Br l i o;have b8:=QM hf i o;have be:bN (l.take i) dp++(Ic l[i] dp++bN (l.drop (i+1)) dp)=bN l dp:=by rw [← bN,← Z6 o,← xq,List.take_append_drop]
  have aq:bN (l.take (i+1)) dp=bN (l.take i) dp++Ic l[i] dp:=by rw [abA o,xq];show _++(Ic l[i] dp ++ [])=_;rw [abI]
  have b5:(bN (l.take i) dp).length+(Ic l[i] dp).length<=700000:=by have:=congrArg List.length be;rw [J9,J9] at this;omega
  have C:=ih (i+1) (by omega);rw [aq] at C;clear ih aq;generalize bN (l.take i) dp=pre at *;generalize hX:l[i]=X at *;generalize hR:rows[i]=R at *;obtain⟨k0,a,e,t,f⟩:=X;obtain⟨D,x,F,re,rt,rf,rfl,e1,e2,t1,t2,f1,f2⟩:=ad;obtain⟨hk,fe,ft,ff,bp,fq⟩:=WK b8;rw [stP] at bd;rw [zO] at b7;have hJ:=Fa e fe;have bh:=pW t (dp+1) ft (by omega);have bi:=pW f (dp+1) ff (by omega);have hI:(cK dp).length<=50:=by rw [cK,List.length_replicate];omega
  have Q:=e1.slice.cells;have T:=t1.slice.cells;have S:=f1.slice.cells;have oe:=e1.slice.H6;have ot:=t1.slice.H6;have of:=f1.slice.H6;have oi:∀(k:IntKind) (i:Int),Go.AM.H6 (.int k i)=true:=λ_ _=>rfl;have I:∀s:List UInt8,Go.AM.H6 (.str s)=true:=λ_=>rfl;have ss:∀s:List UInt8,dh 100 (.str s) (.str s)=true:=λs=>uw 99 s;have O:dh 100 D D=true:=sK e1.slice 99;have P:dh 100 x x=true:=sK t1.slice 99;have w1:rz ((dp:Int)+1)=(dp:Int)+1:=Z0 (by omega) (by omega);obtain⟨U,V,W,Y,Z,a0⟩:=qo hM b3;have L:Go.AM.wF (some (o9 (r5 0 [] nS nS nS))) 0 (r5 k0 a D x F)=some (o9 (r5 k0 a D x F)):=by rw [iY (by simp) (by simp)];rfl
  have E1:=H7 hM [o9 (r5 k0 a D x F)];have Em1:=E.trans E1;have A:(ext M [o9 (r5 k0 a D x F)]).get M.nx=some (o9 (r5 k0 a D x F)):=by rw [F7 hM];rfl
  have ba:(ext M [o9 (r5 k0 a D x F)]).lim<=(ext M [o9 (r5 k0 a D x F)]).nx:=by rw [Em1.lim];exact gI hl Em1.nx
  obtain⟨M2,g2,E2⟩:=agj fu b9 d (n+2) hn (ext M [o9 (r5 k0 a D x F)]) D e E1.ok ba (gI b4 E1.nx) (jK.ext ⟨re,e1,e2⟩ Em1) fe (by omega) (by omega);have Em2:=Em1.trans E2;have ap:M2.lim<=M2.nx:=by rw [Em2.lim];exact gI hl Em2.nx
  have b:M2.get M.nx=some (o9 (r5 k0 a D x F)):=(E2.old _ (by simp)).trans A;have B2:=(B.ext E1).ext E2;have bc:p≠M.nx:=by have:=B.2.1;omega
  have wr:∀(Mx:Mem) (s u:List UInt8),Ext m Mx->Bu m.nx Mx p s->s.length+u.length<=1000000->Mx.get M.nx=some (o9 (r5 k0 a D x F))->∃v My,r9 KW fu (n+2) (.func 72) [.ptr p 0,.str u] Mx=some [⟨.tuple [v,.nilIface],My⟩]∧Ext m My∧Bu m.nx My p (s++u)∧My.get M.nx=some (o9 (r5 k0 a D x F)):=by intro Mx s u Ex Bx a9 hc;obtain⟨v,My,g,J,K,q3,q4,q5,q6⟩:=agk Ex.ok (by rw [Ex.lim];exact hl) Bx u a9 n fu;exact⟨v,My,g,⟨J,gI Ex.nx K,q3.trans Ex.lim,λi hi=>(q5 i hi).trans (Ex.old i hi)⟩,q4,(q6 M.nx _ _ _ (ahE bc) (by rw [hc];rfl)).trans hc⟩
  rcases hk with rfl | rfl | rfl | rfl | rfl | rfl;obtain⟨vw,M3,q,E3,B3,w⟩:=wr M2 pre (Ic (.mk 1 a e t f) dp) Em2 B2 (by omega) b;rw [show Ic (.mk 1 a e t f) dp=cK dp++([108,101,116,32]++(a++([32,61,32]++(kE e ++ [59,10])))) from rfl] at q
  (try simp only [jr] at q)
  have G:Q0 (cK dp) [108,101,116,32]=some (.str ((cK dp) ++ [108,101,116,32])):=by rw [O7 (by (try simp only [fE]);omega)];(try simp only [jr])
  have H:Q0 ((cK dp) ++ [108,101,116,32]) a=some (.str ((cK dp)++(108::101::116::32::a))):=by rw [O7 (by (try simp only [fE]);omega)];(try simp only [jr])
  have a7:Q0 ((cK dp)++(108::101::116::32::a)) [32,61,32]=some (.str ((cK dp)++(108::101::116::32::(a ++ [32,61,32])))):=by rw [O7 (by (try simp only [fE]);omega)];(try simp only [jr])
  have ae:Q0 ((cK dp)++(108::101::116::32::(a ++ [32,61,32]))) (kE e)=some (.str ((cK dp)++(108::101::116::32::(a++(32::61::32::(kE e)))))):=by rw [O7 (by (try simp only [fE]);omega)];(try simp only [jr])
  have av:Q0 ((cK dp)++(108::101::116::32::(a++(32::61::32::(kE e))))) [59,10]=some (.str ((cK dp)++(108::101::116::32::(a++(32::61::32::((kE e) ++ [59,10])))))):=by rw [O7 (by (try simp only [fE]);omega)];(try simp only [jr])
  obtain⟨c',x6',x7',x8',x11',x12',x13',x14',x15',x16',M',gg,J,K⟩:=C tt (.ptr M.nx 0) (iV 1) tt x11 x12 x13 x14 x15 x16 M3 N E3 B3 (by omega);refine⟨c',x6',x7',x8',x11',x12',x13',x14',x15',x16',M',?_,J,K⟩;rw [A8,← gg];simp [uM,D7,F6,U,V,W,Y,Z,a0,oi,I,o,r,a1,y,L,Q,T,S,oe,ot,of,ss,O,P,g2,q,A,b,G,H,a7,ae,av,aF (i:=i) (by omega)];obtain⟨vw,M3,q,E3,B3,w⟩:=wr M2 pre (Ic (.mk 2 a e t f) dp) Em2 B2 (by omega) b;rw [show Ic (.mk 2 a e t f) dp=cK dp++(a++([32,61,32]++(kE e ++ [59,10]))) from rfl] at q
  (try simp only [jr] at q)
  have G:Q0 (cK dp) a=some (.str ((cK dp)++a)):=by rw [O7 (by (try simp only [fE]);omega)];(try simp only [jr])
  have H:Q0 ((cK dp)++a) [32,61,32]=some (.str ((cK dp)++(a ++ [32,61,32]))):=by rw [O7 (by (try simp only [fE]);omega)];(try simp only [jr])
  have a7:Q0 ((cK dp)++(a ++ [32,61,32])) (kE e)=some (.str ((cK dp)++(a++(32::61::32::(kE e))))):=by rw [O7 (by (try simp only [fE]);omega)];(try simp only [jr])
  have ae:Q0 ((cK dp)++(a++(32::61::32::(kE e)))) [59,10]=some (.str ((cK dp)++(a++(32::61::32::((kE e) ++ [59,10]))))):=by rw [O7 (by (try simp only [fE]);omega)];(try simp only [jr])
  obtain⟨c',x6',x7',x8',x11',x12',x13',x14',x15',x16',M',gg,J,K⟩:=C tt (.ptr M.nx 0) (iV 2) (.bool false) tt x12 x13 x14 x15 x16 M3 N E3 B3 (by omega);refine⟨c',x6',x7',x8',x11',x12',x13',x14',x15',x16',M',?_,J,K⟩;rw [A8,← gg];simp [uM,D7,F6,U,V,W,Y,Z,a0,oi,I,o,r,a1,y,L,Q,T,S,oe,ot,of,ss,O,P,g2,q,A,b,G,H,a7,ae,aF (i:=i) (by omega)];obtain⟨M3,q,E3⟩:=af M2 x t (dp+1) Em2.ok ap (gI hb Em2.nx) (aG.ext ⟨rt,t1,t2⟩ Em2) ft (by omega) (by omega) (by omega);have q:r9 KW fu (n+2) (.func 34) [x,.int .i64 ((dp:Int)+1)] M2=_:=q;have Em3:=Em2.trans E3;have w:M3.get M.nx=some (o9 (r5 3 a D x F)):=(E3.old _ (J3 (by simp) E2.nx)).trans b;have B3:=B2.ext E3;have ai:Q0 (cK dp) [105,102,32]=some (.str ((cK dp) ++ [105,102,32])):=by rw [O7 (by (try simp only [fE]);omega)];(try simp only [jr])
  have aj:Q0 ((cK dp) ++ [105,102,32]) (kE e)=some (.str ((cK dp)++(105::102::32::(kE e)))):=by rw [O7 (by (try simp only [fE]);omega)];(try simp only [jr])
  have ak:Q0 ((cK dp)++(105::102::32::(kE e))) [32,123,10]=some (.str ((cK dp)++(105::102::32::((kE e) ++ [32,123,10])))):=by rw [O7 (by (try simp only [fE]);omega)];(try simp only [jr])
  have al:Q0 ((cK dp)++(105::102::32::((kE e) ++ [32,123,10]))) (bN t (dp+1))=some (.str ((cK dp)++(105::102::32::((kE e)++(32::123::10::(bN t (dp+1))))))):=by rw [O7 (by (try simp only [fE]);omega)];(try simp only [jr])
  have am:Q0 (cK dp) [125,10]=some (.str ((cK dp) ++ [125,10])):=by rw [O7 (by (try simp only [fE]);omega)];(try simp only [jr])
  have ar:Q0 (cK dp) [125,32,101,108,115,101,32,123,10]=some (.str ((cK dp) ++ [125,32,101,108,115,101,32,123,10])):=by rw [O7 (by (try simp only [fE]);omega)];(try simp only [jr])
  have au:Q0 ((cK dp) ++ [125,32,101,108,115,101,32,123,10]) (bN f (dp+1))=some (.str ((cK dp)++(125::32::101::108::115::101::32::123::10::(bN f (dp+1))))):=by rw [O7 (by (try simp only [fE]);omega)];(try simp only [jr])
  have z:pre.length+(cK dp++([105,102,32]++(kE e++([32,123,10]++(bN t (dp+1)++((if 0<f.length then cK dp++([125,32,101,108,115,101,32,123,10]++bN f (dp+1)) else [])++(cK dp ++ [125,10]))))))).length<=700000:=b5;have an:=z;simp only [fE] at an;obtain⟨bf,M4,g4,E4,B4,a6⟩:=wr M3 pre (cK dp++([105,102,32]++(kE e++([32,123,10]++bN t (dp+1))))) Em3 B3 (by simp only [fE];omega) w;simp only [jr] at g4;have aa:=f1.slice.len;rw [I4.len f2] at aa;by_cases hf0:f.length=0;have a8:f=[]:=Z8.1 hf0;rw [if_neg (by omega)] at z;simp only [fE] at z;obtain⟨br,M5,g5,E5,B5,ag⟩:=wr M4 _ (cK dp ++ [125,10]) E4 B4 (by simp only [fE];omega) a6;have B5':Bu m.nx M5 p (pre++Ic (.mk 3 a e t f) dp):=by rw [show Ic (.mk 3 a e t f) dp=cK dp++([105,102,32]++(kE e++([32,123,10]++(bN t (dp+1)++((if 0<f.length then cK dp++([125,32,101,108,115,101,32,123,10]++bN f (dp+1)) else [])++(cK dp ++ [125,10])))))) from rfl,if_neg (by omega)];simpa only [aao,aat,abX] using B5
  obtain⟨c',x6',x7',x8',x11',x12',x13',x14',x15',x16',M',gg,J,K⟩:=C tt (.ptr M.nx 0) (iV 3) (.bool false) (.bool false) (.bool false) (.bool false) (.bool false) tt (.bool false) M5 N E5 B5' (by omega);refine⟨c',x6',x7',x8',x11',x12',x13',x14',x15',x16',M',?_,J,K⟩;rw [A8,← gg];simp [uM,D7,F6,U,V,W,Y,Z,a0,oi,I,o,r,a1,y,L,Q,T,S,oe,ot,of,ss,O,P,g2,q,g4,g5,A,b,w,a6,w1,aa,hf0,a8,ai,aj,ak,al,am,aF (i:=i) (by omega)];have ao:0<(f.length:Int):=by omega
  have ab:0<f.length:=by omega
  have a8:¬ f=[]:=λh=>by simp [h] at hf0
  rw [if_pos ab] at z;simp only [fE] at z;have bb:M4.lim<=M4.nx:=by rw [E4.lim];exact gI hl E4.nx
  obtain⟨M5,g5,E5⟩:=af M4 F f (dp+1) E4.ok bb (gI hb E4.nx) (aG.ext ⟨rf,f1,f2⟩ E4) ff (by omega) (by omega) (by omega);have g5:r9 KW fu (n+2) (.func 34) [F,.int .i64 ((dp:Int)+1)] M4=_:=g5;have Em5:=E4.trans E5;have ag:M5.get M.nx=some (o9 (r5 3 a D x F)):=(E5.old _ (Mem.I8 E4.ok a6)).trans a6;have B5:=B4.ext E5;obtain⟨bs,M6,g6,E6,B6,b6⟩:=wr M5 _ (cK dp++([125,32,101,108,115,101,32,123,10]++bN f (dp+1))) Em5 B5 (by simp only [fE];omega) ag;obtain⟨bt,M7,g7,E7,B7,bj⟩:=wr M6 _ (cK dp ++ [125,10]) E6 B6 (by simp only [fE];omega) b6;simp only [jr] at g6;have B7':Bu m.nx M7 p (pre++Ic (.mk 3 a e t f) dp):=by rw [show Ic (.mk 3 a e t f) dp=cK dp++([105,102,32]++(kE e++([32,123,10]++(bN t (dp+1)++((if 0<f.length then cK dp++([125,32,101,108,115,101,32,123,10]++bN f (dp+1)) else [])++(cK dp ++ [125,10])))))) from rfl,if_pos (by omega)];simpa only [aao,aat,abX] using B7
  obtain⟨c',x6',x7',x8',x11',x12',x13',x14',x15',x16',M',gg,J,K⟩:=C tt (.ptr M.nx 0) (iV 3) (.bool false) (.bool false) (.bool false) (.bool false) (.bool false) tt tt M7 N E7 B7' (by omega);refine⟨c',x6',x7',x8',x11',x12',x13',x14',x15',x16',M',?_,J,K⟩;rw [A8,← gg];simp [uM,D7,F6,U,V,W,Y,Z,a0,oi,I,o,r,a1,y,L,Q,T,S,oe,ot,of,ss,O,P,g2,q,g4,g5,g6,g7,A,b,w,a6,ag,w1,aa,hf0,ao,ab,a8,ai,aj,ak,al,am,ar,au,aF (i:=i) (by omega)];obtain⟨M3,q,E3⟩:=af M2 x t (dp+1) Em2.ok ap (gI hb Em2.nx) (aG.ext ⟨rt,t1,t2⟩ Em2) ft (by omega) (by omega) (by omega);have q:r9 KW fu (n+2) (.func 34) [x,.int .i64 ((dp:Int)+1)] M2=_:=q;have Em3:=Em2.trans E3;have w:M3.get M.nx=some (o9 (r5 4 a D x F)):=(E3.old _ (J3 (by simp) E2.nx)).trans b;have B3:=B2.ext E3;have aw:Q0 (cK dp) [119,104,105,108,101,32]=some (.str ((cK dp) ++ [119,104,105,108,101,32])):=by rw [O7 (by (try simp only [fE]);omega)];(try simp only [jr])
  have ax:Q0 ((cK dp) ++ [119,104,105,108,101,32]) (kE e)=some (.str ((cK dp)++(119::104::105::108::101::32::(kE e)))):=by rw [O7 (by (try simp only [fE]);omega)];(try simp only [jr])
  have az:Q0 ((cK dp)++(119::104::105::108::101::32::(kE e))) [32,123,10]=some (.str ((cK dp)++(119::104::105::108::101::32::((kE e) ++ [32,123,10])))):=by rw [O7 (by (try simp only [fE]);omega)];(try simp only [jr])
  have b0:Q0 ((cK dp)++(119::104::105::108::101::32::((kE e) ++ [32,123,10]))) (bN t (dp+1))=some (.str ((cK dp)++(119::104::105::108::101::32::((kE e)++(32::123::10::(bN t (dp+1))))))):=by rw [O7 (by (try simp only [fE]);omega)];(try simp only [jr])
  have b1:Q0 ((cK dp)++(119::104::105::108::101::32::((kE e)++(32::123::10::(bN t (dp+1)))))) (cK dp)=some (.str ((cK dp)++(119::104::105::108::101::32::((kE e)++(32::123::10::((bN t (dp+1))++(cK dp))))))):=by rw [O7 (by (try simp only [fE]);omega)];(try simp only [jr])
  have b2:Q0 ((cK dp)++(119::104::105::108::101::32::((kE e)++(32::123::10::((bN t (dp+1))++(cK dp)))))) [125,10]=some (.str ((cK dp)++(119::104::105::108::101::32::((kE e)++(32::123::10::((bN t (dp+1))++((cK dp) ++ [125,10]))))))):=by rw [O7 (by (try simp only [fE]);omega)];(try simp only [jr])
  obtain⟨bf,M4,g4,E4,B4,a6⟩:=wr M3 pre (Ic (.mk 4 a e t f) dp) Em3 B3 (by omega) w;rw [show Ic (.mk 4 a e t f) dp=cK dp++([119,104,105,108,101,32]++(kE e++([32,123,10]++(bN t (dp+1)++(cK dp ++ [125,10]))))) from rfl] at g4;simp only [jr] at g4;obtain⟨c',x6',x7',x8',x11',x12',x13',x14',x15',x16',M',gg,J,K⟩:=C tt (.ptr M.nx 0) (iV 4) (.bool false) (.bool false) (.bool false) (.bool false) tt x15 x16 M4 N E4 B4 (by omega);refine⟨c',x6',x7',x8',x11',x12',x13',x14',x15',x16',M',?_,J,K⟩;rw [A8,← gg];simp [uM,D7,F6,U,V,W,Y,Z,a0,oi,I,o,r,a1,y,L,Q,T,S,oe,ot,of,ss,O,P,g2,q,g4,A,b,w,w1,aw,ax,az,b0,b1,b2,aF (i:=i) (by omega)];obtain⟨vw,M3,q,E3,B3,w⟩:=wr M2 pre (Ic (.mk 5 a e t f) dp) Em2 B2 (by omega) b;rw [show Ic (.mk 5 a e t f) dp=cK dp++([112,114,105,110,116,32]++(kE e ++ [59,10])) from rfl] at q
  (try simp only [jr] at q)
  have G:Q0 (cK dp) [112,114,105,110,116,32]=some (.str ((cK dp) ++ [112,114,105,110,116,32])):=by rw [O7 (by (try simp only [fE]);omega)];(try simp only [jr])
  have H:Q0 ((cK dp) ++ [112,114,105,110,116,32]) (kE e)=some (.str ((cK dp)++(112::114::105::110::116::32::(kE e)))):=by rw [O7 (by (try simp only [fE]);omega)];(try simp only [jr])
  have a7:Q0 ((cK dp)++(112::114::105::110::116::32::(kE e))) [59,10]=some (.str ((cK dp)++(112::114::105::110::116::32::((kE e) ++ [59,10])))):=by rw [O7 (by (try simp only [fE]);omega)];(try simp only [jr])
  obtain⟨c',x6',x7',x8',x11',x12',x13',x14',x15',x16',M',gg,J,K⟩:=C tt (.ptr M.nx 0) (iV 5) (.bool false) (.bool false) tt x13 x14 x15 x16 M3 N E3 B3 (by omega);refine⟨c',x6',x7',x8',x11',x12',x13',x14',x15',x16',M',?_,J,K⟩;rw [A8,← gg];simp [uM,D7,F6,U,V,W,Y,Z,a0,oi,I,o,r,a1,y,L,Q,T,S,oe,ot,of,ss,O,P,g2,q,A,b,G,H,a7,aF (i:=i) (by omega)];obtain⟨vw,M3,q,E3,B3,w⟩:=wr M2 pre (Ic (.mk 6 a e t f) dp) Em2 B2 (by omega) b;rw [show Ic (.mk 6 a e t f) dp=cK dp++(kE e ++ [59,10]) from rfl] at q
  (try simp only [jr] at q)
  have G:Q0 (cK dp) (kE e)=some (.str ((cK dp)++(kE e))):=by rw [O7 (by (try simp only [fE]);omega)];(try simp only [jr])
  have H:Q0 ((cK dp)++(kE e)) [59,10]=some (.str ((cK dp)++((kE e) ++ [59,10]))):=by rw [O7 (by (try simp only [fE]);omega)];(try simp only [jr])
  obtain⟨c',x6',x7',x8',x11',x12',x13',x14',x15',x16',M',gg,J,K⟩:=C tt (.ptr M.nx 0) (iV 6) (.bool false) (.bool false) (.bool false) tt x14 x15 x16 M3 N E3 B3 (by omega);refine⟨c',x6',x7',x8',x11',x12',x13',x14',x15',x16',M',?_,J,K⟩;rw [A8,← gg];simp [uM,D7,F6,U,V,W,Y,Z,a0,oi,I,o,r,a1,y,L,Q,T,S,oe,ot,of,ss,O,P,g2,q,A,b,G,H,aF (i:=i) (by omega)]
theorem aa8 {m:Mem}(a:m.Ok):Bu m.nx (ext m [fJ 123 [.nilPtr,nS]]) m.nx []:=
 ⟨aP _,by simp,.nilPtr,nS,by rw [F7 a];rfl,.inl rfl,.inl ⟨rfl,rfl⟩⟩
theorem agu (fu:Nat)(F:20000<=fu):∀d n:Nat,3*d+12<=n->C34 n fu d:=by
 intro d;induction d with
 | zero=>
  intro n Q m v l c p z L h D M C r;obtain⟨n,rfl⟩:∃k,n=k+9:=⟨n-9,by omega⟩;obtain⟨w,x,y⟩:=h;have b:=I4.len y;have a:=x.slice.len;rw [b] at a;have G:l=[]:=by
   cases l with
   | nil=>rfl
   | cons s l=>obtain⟨k,s,e,t,f⟩:=s;rw [cu,zO] at C;omega
  subst G;have E:=H7 p [fJ 123 [.nilPtr,nS]];have j:=aa7 c (by omega) n fu (ext m [fJ 123 [.nilPtr,nS]]);obtain⟨M',o,H,I,J,K⟩:=ZR (lo:=m.nx) E.ok (by rw [E.lim];exact z) (aa8 p) (by simp) (n+7) fu;refine⟨M',?_,⟨H,by rw [I];exact E.nx,J.trans E.lim,λi u=>(K i u).trans (E.old i u)⟩⟩;obtain⟨fu,rfl⟩:∃k,fu=k+1:=⟨fu-1,by omega⟩;rw [enter (sf:=f34) rfl rfl];simp [f34,uM,A8,D7,zU,a,j,o,bN]
 | succ d ih=>intro n Q m v l c p z L h D M C r;obtain⟨n,rfl⟩:∃k,n=k+9:=⟨n-9,by omega⟩;obtain⟨w,x,y⟩:=h;have b:=I4.len y;have a:=x.slice.len;rw [b] at a;have P:=iq l;have N:=pW l c D (by omega);have E:=H7 p [fJ 123 [.nilPtr,nS]];have j:=aa7 c (by omega) n fu (ext m [fJ 123 [.nilPtr,nS]]);obtain⟨R,S,T,U,V,W,X,Y,Z,y9,M1,g,q,B⟩:=acS (n:=n+6) F (by omega) (ih (n+8) (by omega)) p z L l c m.nx (aP _) x y D M C r l.length 0 (by omega) .undef .undef .undef .undef .undef .undef .undef .undef .undef .undef (ext m [fJ 123 [.nilPtr,nS]]) fu E (aa8 p) (by omega);have O:K8 (λA m k=>uM (r9 KW fu (n+8)) fu none A m k) fu (abP (iV (c:Int)) v (iV 0) (iV (l.length:Int)) .undef v .undef .undef .undef (.str (cK c)) (.ptr m.nx 0) .undef .undef .undef .undef .undef .undef (.str [])) (ext m [fJ 123 [.nilPtr,nS]]) []=_:=g;obtain⟨M',o,H,I,J,K⟩:=ZR (lo:=m.nx) q.ok (by rw [q.lim];exact z) B (by omega) (n+7) fu;refine⟨M',?_,⟨H,by rw [I];exact q.nx,J.trans q.lim,λi u=>(K i u).trans (q.old i u)⟩⟩;rw [enter (sf:=f34) rfl rfl];simp [f34,D7,zU,a,j,O,o]
theorem NH {m:Mem}(j:m.Ok)(f:m.lim<=m.nx)(hb:13<=m.nx){v:o7}{l:List V4}(h:aG m (λ_=>True) l v)(hp:V6 l<=10000)(i:cu l<=26)(n fu:Nat)(r:120<=n)(a:20000<=fu):
  ∃m',r9 KW fu (n+1) (.func 14) [v] m=some [⟨.tuple [.str (if ZO l=0 then bN l 0 else []),iV (ZO l)],m'⟩]∧Ext m m':=by
 obtain⟨n,rfl⟩:∃k,n=k+1:=⟨n-1,by omega⟩;obtain⟨d,e,E1⟩:=agi j f h hp i n fu (by omega) a;by_cases c:ZO l=0;obtain⟨s,p,q⟩:=SV c;obtain⟨o,g,E2⟩:=agu fu a 20 (n+1) (by omega) d v l 0 E1.ok (by rw [E1.lim];exact gI f E1.nx) (gI hb E1.nx) (aG.ext h E1) q (by omega) p (by omega);have b:r9 KW fu (n+1) (.func 34) [v,iV 0] d=_:=g;refine⟨o,?_,E1.trans E2⟩;rw [if_pos c,enter (sf:=f14) rfl rfl];simp [f14,e,c,b];refine⟨d,?_,E1⟩;rw [if_neg c,enter (sf:=f14) rfl rfl];simp [f14,e,c]
set_option maxHeartbeats 16000000
theorem UF {m:Mem}(r:m.Ok)(y:m.lim<=m.nx)(s:By)(hs:8000<s.length)(n fu:Nat):
  ∃m',r9 KW fu (n+6) (.func 10) [.str s] m=some [⟨.tuple [nS,iV 2],m'⟩]∧Ext m m':=by
 have E0:=H7 r [o9 [nS],o9 [iV 0]];have D:(ext m [o9 [nS],o9 [iV 0]]).nx=m.nx+2:=by simp
 have d:(ext m [o9 [nS],o9 [iV 0]]).get m.nx=some (o9 [nS]):=by rw [F7 r];rfl
 have o:(ext m [o9 [nS],o9 [iV 0]]).get (m.nx+1)=some (o9 [iV 0]):=by rw [bR r];rfl
 have w:r9 KW fu (n+5) (.func 8) [.str s] (ext m [o9 [nS],o9 [iV 0]])=_:=afM s hs (n+4) fu;generalize hm1:(ext m [o9 [nS],o9 [iV 0]])=m1 at *;have z:m1.lim<=m.nx:=by rw [E0.lim];exact y
 have g:m1.lim<=m.nx+1:=by omega
 have a:m.nx+1<m1.nx:=by omega
 have t:=sB g;have b:(m1.set (m.nx+1) (o9 [iV 2])).Ok:=Mem.Ok.set E0.ok a _;have f:(m1.set (m.nx+1) (o9 [iV 2])).get (m.nx+1)=some (o9 [iV 2]):=D6 E0.ok _ a rfl;have k:(m1.set (m.nx+1) (o9 [iV 2])).get m.nx=some (o9 [nS]):=(w9 E0.ok _ a (by omega)).trans d;have A:(m1.set (m.nx+1) (o9 [iV 2])).lim<=m.nx:=z;have u:=sB A;have h:m.nx<(m1.set (m.nx+1) (o9 [iV 2])).nx:=by show m.nx<m1.nx;omega
 have c:((m1.set (m.nx+1) (o9 [iV 2])).set m.nx (o9 [nS])).Ok:=Mem.Ok.set b h _;have e:((m1.set (m.nx+1) (o9 [iV 2])).set m.nx (o9 [nS])).get m.nx=some (o9 [nS]):=D6 b _ h rfl;have p:((m1.set (m.nx+1) (o9 [iV 2])).set m.nx (o9 [nS])).get (m.nx+1)=some (o9 [iV 2]):=(w9 b _ h (by omega)).trans f;have C:((m1.set (m.nx+1) (o9 [iV 2])).set m.nx (o9 [nS])).lim<=m.nx+1:=g;have v:=sB C;have j:m.nx+1<((m1.set (m.nx+1) (o9 [iV 2])).set m.nx (o9 [nS])).nx:=a;have l:∀B,(((m1.set (m.nx+1) (o9 [iV 2])).set m.nx (o9 [nS])).set (m.nx+1) B).get m.nx=some (o9 [nS]):=λB=>(w9 c _ j (by omega)).trans e;have q:∀B,(((m1.set (m.nx+1) (o9 [iV 2])).set m.nx (o9 [nS])).set (m.nx+1) B).get (m.nx+1)=some B:=λB=>D6 c _ j rfl;refine⟨((m1.set (m.nx+1) (o9 [iV 2])).set m.nx (o9 [nS])).set (m.nx+1) (o9 [iV 2]),?_,⟨Mem.Ok.set c j _,E0.nx,E0.lim,λi x=>?_⟩⟩;rw [enter (sf:=f10) rfl rfl];simp [f10,D7,F6,hm1,w,d,o,t,k,f,u,e,p,v,l,q,su];rw [w9 c _ j (by omega),w9 b _ h (by omega),w9 E0.ok _ a (by omega),E0.old i x]
theorem Fe {m:Mem}(g:m.Ok)(f:m.lim<=m.nx){l:List V4}{s:By}(hp:Ew s=.inr l)(hs:s.length<=8000)(n fu:Nat)(i:90000<=n)(a:20000<=fu):
  ∃v m',r9 KW fu n (.func 10) [.str s] m=some [⟨.tuple [v,iV 0],m'⟩]∧Ext m m'∧aG m' (λ_=>True) l v:=by
 obtain⟨v,e,m',_,E,h⟩:=ZG g f s hs n fu i a;rw [hp] at h;obtain⟨rfl,⟨r,b,c⟩,j,d⟩:=h;exact⟨v,m',d,E,⟨r,b.mono (aP _) (λ_ _ _=>rfl) (λ_ _ _=>trivial),I4.mono (aP _) (λ_ _ _=>rfl) (λ_ _ _=>trivial) _ _ c⟩⟩
structure akA (n fu:Nat)(m:Mem)(v:o7)(l:List V4):Prop where
 h:(∃s m1 x m2 m3,r9 KW fu n (.func 14) [v] m=some [⟨.tuple [.str s,iV 0],m1⟩]∧decide ((s.length:Int)<=8000)=true∧r9 KW fu n (.func 10) [.str s] m1=some [⟨.tuple [x,iV 0],m2⟩]∧r9 KW fu n (.func 12) [x,v] m2=some [⟨.bool true,m3⟩]∧Ext m m3)∨
  (∃s m1 m2,r9 KW fu n (.func 14) [v] m=some [⟨.tuple [.str s,iV 0],m1⟩]∧decide ((s.length:Int)<=8000)=false∧r9 KW fu n (.func 10) [.str s] m1=some [⟨.tuple [nS,iV 2],m2⟩]∧Ext m m2)∨
  (∃e m1 x m2,r9 KW fu n (.func 14) [v] m=some [⟨.tuple [.str [],iV e],m1⟩]∧decide (e=0)=false∧r9 KW fu n (.func 10) [.str []] m1=some [⟨.tuple [x,iV 0],m2⟩]∧Ext m m2)
theorem akB {m:Mem}(q:m.Ok)(i:m.lim<=m.nx)(hb:13<=m.nx){v:o7}{l:List V4}(h:aG m (λ_=>True) l v)(hp:V6 l<=600)(g:cu l<=26)(n fu:Nat)(j:90000<=n)(a:20000<=fu):akA n fu m v l:=by
 have L:∀{M:Mem},Ext m M->M.lim<=M.nx:=λE=>by rw [E.lim];exact gI i E.nx
 obtain⟨n,rfl⟩:∃k,n=k+6:=⟨n-6,by omega⟩;obtain⟨f,d,E1⟩:=NH q i hb h (by omega) g (n+5) fu (by omega) a;by_cases c:ZO l=0;rw [c,if_pos rfl] at d;by_cases hs:(bN l 0).length<=8000;obtain⟨x,b,e,E2,o⟩:=Fe E1.ok (L E1) (Io c) hs (n+6) fu j a;have F2:=E1.trans E2;obtain⟨r,p,E3⟩:=Zo (n+6) fu 26 a (by omega) b x v l F2.ok (L F2) o (aG.ext h F2) g (by omega);exact⟨.inl ⟨_,f,x,b,r,d,decide_eq_true (by omega),e,p,F2.trans E3⟩⟩;obtain⟨b,e,E2⟩:=UF E1.ok (L E1) (bN l 0) (by omega) n fu;exact⟨.inr (.inl ⟨_,f,b,d,decide_eq_false (by omega),e,E1.trans E2⟩)⟩;rw [if_neg c] at d;obtain⟨x,b,e,E2,o⟩:=Fe E1.ok (L E1) aa5 (by simp) (n+6) fu j a;exact⟨.inr (.inr ⟨_,f,x,b,d,decide_eq_false c,e,E1.trans E2⟩)⟩
structure aem (n fu:Nat)(m:Mem)(s:By):Prop where
 h:(∃c m1,Two (r9 KW fu n (.func 10) [.str s] m) ⟨.tuple [nS,iV c],m1⟩∧decide (c=0)=false∧Ext m m1)∨
  (∃y m1 t m2 z m3 m4 m5,r9 KW fu n (.func 10) [.str s] m=some [⟨.tuple [y,iV 0],m1⟩]∧r9 KW fu n (.func 14) [y] m1=some [⟨.tuple [.str t,iV 0],m2⟩]∧decide ((8000:Int)<(t.length:Int))=false∧
   r9 KW fu n (.func 10) [.str t] m2=some [⟨.tuple [z,iV 0],m3⟩]∧r9 KW fu n (.func 14) [z] m3=some [⟨.tuple [.str t,iV 0],m4⟩]∧r9 KW fu n (.func 12) [y,z] m4=some [⟨.bool true,m5⟩]∧Ext m m5)∨
  (∃y m1 t m2 m3 u j m4,r9 KW fu n (.func 10) [.str s] m=some [⟨.tuple [y,iV 0],m1⟩]∧r9 KW fu n (.func 14) [y] m1=some [⟨.tuple [.str t,iV 0],m2⟩]∧decide ((8000:Int)<(t.length:Int))=true∧
   r9 KW fu n (.func 10) [.str t] m2=some [⟨.tuple [nS,iV 2],m3⟩]∧r9 KW fu n (.func 14) [nS] m3=some [⟨.tuple [.str u,iV j],m4⟩]∧Ext m m4)
theorem akC {m:Mem}(u:m.Ok)(o:m.lim<=m.nx)(hb:13<=m.nx)(s:By)(hs:s.length<=2000)(n fu:Nat)(p:90000<=n)(a:20000<=fu):aem n fu m s:=by
 have L:∀{M:Mem},Ext m M->M.lim<=M.nx:=λE=>by rw [E.lim];exact gI o E.nx
 have H:∀{M:Mem},Ext m M->13<=M.nx:=λE=>gI hb E.nx;cases hp:Ew s with
 | inl c=>obtain⟨v,e,f,b,E1,h⟩:=ZG u o s (by omega) n fu p a;rw [hp] at h;obtain⟨rfl,rfl⟩:=h;refine⟨.inl ⟨e,f,b,decide_eq_false ?_,E1⟩⟩;rcases aa6 hp with rfl | rfl<;>decide
 | inr y=>obtain⟨n,rfl⟩:∃k,n=k+6:=⟨n-6,by omega⟩;have c:=acR hp;obtain⟨B,C,D⟩:=SV c;obtain⟨v,f,b,E1,r⟩:=Fe u o hp (by omega) (n+6) fu p a;obtain⟨w,i,E2⟩:=NH E1.ok (L E1) (H E1) r (by omega) (by omega) (n+5) fu (by omega) a;rw [c,if_pos rfl] at i;have F2:=E1.trans E2;by_cases ht:(bN y 0).length<=8000;obtain⟨z,q,j,E3,t⟩:=Fe F2.ok (L F2) (Io c) ht (n+6) fu p a;have F3:=F2.trans E3;obtain⟨g,d,E4⟩:=NH F3.ok (L F3) (H F3) t (by omega) (by omega) (n+5) fu (by omega) a;rw [c,if_pos rfl] at d;have F4:=F3.trans E4;obtain⟨A,x,E5⟩:=Zo (n+6) fu 26 a (by omega) g v z y F4.ok (L F4) (aG.ext r ((E2.trans E3).trans E4)) (aG.ext t E4) (by omega) (by omega);exact⟨.inr (.inl ⟨v,f,_,w,z,q,g,A,b,i,decide_eq_false (by omega),j,d,x,F4.trans E5⟩)⟩;obtain⟨q,j,E3⟩:=UF F2.ok (L F2) (bN y 0) (by omega) n fu;have F3:=F2.trans E3;obtain⟨g,d,E4⟩:=NH F3.ok (L F3) (H F3) (v:=nS) (l:=[]) ⟨[],.inl ⟨rfl,rfl⟩,rfl⟩ (by simp [V6]) (by simp [cu]) (n+5) fu (by omega) a;exact⟨.inr (.inr ⟨v,f,_,w,q,_,_,g,b,i,decide_eq_true (by omega),j,d,F3.trans E4⟩)⟩
theorem akD {m:Mem}(w:m.Ok)(o:m.lim<=m.nx)(hb:13<=m.nx){v:o7}{l:List V4}(h:aG m (λ_=>True) l v)(hp:V6 l<=2000000)(i:uY l<=4000000000)(s:By)(n fu:Nat)(p:90000<=n)(f:20000<=fu):
  ∃m',Two (r9 KW fu (n+1) (.func 6) [v,.str s] m) ⟨.bool true,m'⟩∧Ext m m':=by
 have L:∀{M:Mem},Ext m M->M.lim<=M.nx:=λE=>by rw [E.lim];exact gI o E.nx
 obtain⟨n,rfl⟩:∃k,n=k+1:=⟨n-1,by omega⟩;obtain⟨q,b,E1⟩:=agb (n:=n) (fu:=fu) (by omega) f w o h hp i;have a:∀M,r9 KW fu (n+1) (.func 7) [] M=_:=λM=>Ws n fu M;by_cases hw:l.length<=520∧wS 26 l 600<=600
 case neg=>
  have e:(decide (l.length<=520)&&decide (wS 26 l 600<=600))=false:=by rw [afo,decide_eq_false_iff_not,decide_eq_false_iff_not];omega
  rw [e] at b;refine⟨q,.inl ?_,E1⟩;rw [enter (sf:=f6) rfl rfl];simp [f6,b,a]
 have e:(decide (l.length<=520)&&decide (wS 26 l 600<=600))=true:=by rw [l9,decide_eq_true_eq,decide_eq_true_eq];exact hw
 rw [e] at b;by_cases hs:s.length<=2000
 case neg=>have d:decide ((2000:Int)<(s.length:Int))=true:=decide_eq_true (by omega);refine⟨q,.inl ?_,E1⟩;rw [enter (sf:=f6) rfl rfl];simp [f6,b,d,a]
 have d:decide ((2000:Int)<(s.length:Int))=false:=decide_eq_false (by omega);obtain⟨B,A,C⟩:=WB hw.2;have r:=akB E1.ok (L E1) (gI hb E1.nx) (aG.ext h E1) (by omega) A (n+1) fu p f;have g:∀M,Ext m M->aem (n+1) fu M s:=λM E=>akC E.ok (L E) (gI hb E.nx) s hs (n+1) fu p f;rcases r.h with⟨s1,a1,x,a2,a3,k1,k2,k3,k4,E2⟩ | ⟨s1,a1,a3,k1,k2,k3,E2⟩ | ⟨e2,a1,x,a3,k1,k2,k3,E2⟩;rcases (g a3 (E1.trans E2)).h with⟨c,b5,j1,j2,F⟩ | ⟨y,b1,t,b2,z,b3,b4,b5,j1,j2,j3,j4,j5,j6,F⟩ | ⟨y,b1,t,b2,b3,u,j,b5,j1,j2,j3,j4,j5,F⟩;refine⟨b5,?_,(E1.trans E2).trans F⟩;rcases j1 with j1 | j1;left;rw [enter (sf:=f6) rfl rfl];simp [f6,b,d,k1,k2,k3,k4,j1,j2,a];right;rw [enter (sf:=f6) rfl rfl];simp [f6,b,d,k1,k2,k3,k4,j1,j2,a,Bv];refine⟨b5,.inl ?_,(E1.trans E2).trans F⟩;rw [enter (sf:=f6) rfl rfl];simp [f6,b,d,k1,k2,k3,k4,j1,j2,j3,j4,j5,j6,a,C8];refine⟨b5,.inl ?_,(E1.trans E2).trans F⟩;rw [enter (sf:=f6) rfl rfl];simp [f6,b,d,k1,k2,k3,k4,j1,j2,j3,j4,j5,a,C8];rcases (g a3 (E1.trans E2)).h with⟨c,b5,j1,j2,F⟩ | ⟨y,b1,t,b2,z,b3,b4,b5,j1,j2,j3,j4,j5,j6,F⟩ | ⟨y,b1,t,b2,b3,u,j,b5,j1,j2,j3,j4,j5,F⟩;refine⟨b5,?_,(E1.trans E2).trans F⟩;rcases j1 with j1 | j1;left;rw [enter (sf:=f6) rfl rfl];simp [f6,b,d,k1,k2,k3,j1,j2,a];right;rw [enter (sf:=f6) rfl rfl];simp [f6,b,d,k1,k2,k3,j1,j2,a,Bv];refine⟨b5,.inl ?_,(E1.trans E2).trans F⟩;rw [enter (sf:=f6) rfl rfl];simp [f6,b,d,k1,k2,k3,j1,j2,j3,j4,j5,j6,a,C8];refine⟨b5,.inl ?_,(E1.trans E2).trans F⟩;rw [enter (sf:=f6) rfl rfl];simp [f6,b,d,k1,k2,k3,j1,j2,j3,j4,j5,a,C8];rcases (g a3 (E1.trans E2)).h with⟨c,b5,j1,j2,F⟩ | ⟨y,b1,t,b2,z,b3,b4,b5,j1,j2,j3,j4,j5,j6,F⟩ | ⟨y,b1,t,b2,b3,u,j,b5,j1,j2,j3,j4,j5,F⟩;refine⟨b5,?_,(E1.trans E2).trans F⟩;rcases j1 with j1 | j1;left;rw [enter (sf:=f6) rfl rfl];simp [f6,b,d,k1,k2,k3,j1,j2,a];right;rw [enter (sf:=f6) rfl rfl]
 simp [f6,b,d,k1,k2,k3,j1,j2,a,Bv];refine⟨b5,.inl ?_,(E1.trans E2).trans F⟩;rw [enter (sf:=f6) rfl rfl];simp [f6,b,d,k1,k2,k3,j1,j2,j3,j4,j5,j6,a,C8];refine⟨b5,.inl ?_,(E1.trans E2).trans F⟩;rw [enter (sf:=f6) rfl rfl];simp [f6,b,d,k1,k2,k3,j1,j2,j3,j4,j5,a,C8]
end Go.Proofs.YteecnooaopfkeaaGreatDoor.TT
