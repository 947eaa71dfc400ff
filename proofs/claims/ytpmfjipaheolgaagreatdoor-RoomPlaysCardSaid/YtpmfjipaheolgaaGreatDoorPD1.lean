/- Functions of the program and of the specification, walked; conditions: the memory holds what the arguments say. -/
import Derived.Test.YtpmfjipaheolgaaGreatDoorPB0
import Derived.Lib.ItoaMem
import Derived.Lib.AtoiAll
import Derived.Lib.SpaceU
set_option linter.all false
namespace Go.Proofs.YtpmfjipaheolgaaGreatDoor.TT
open Go Go.AM
open Nat (beq ble blt)
noncomputable section
def SA(f:Nat):Bool:=beq f 6||(beq f 337||(beq f 131||(beq f 261||(beq f 330||(beq f 331||beq f 133)))))
def avu(f:FuncId):Option L6:=(fns f).map λsf=>{sf with pure:=SA f}
def Ep(s:List cL):EK:=match Lib.atoiAll s with
 |.ok v=>⟨.tuple [.int .i64 v,.nilIface],[]⟩
 |.range=>⟨.tuple [.int .i64 (Lib.atoiSat s),.iface 381 (.ptr base.nx 0)],[.dead]⟩
 |_=>⟨.tuple [.int .i64 0,.iface 381 (.ptr base.nx 0)],[.dead]⟩
def PE(s:List cL):EK:=⟨.slice base.nx 0 (Lib.fieldsD s).length (Lib.fieldsD s).length,[.cells 1 ((Lib.fieldsD s).map λw=>[j5.str w])]⟩
def ai7(f:FuncId)(args:cM)(bs:List NB):Option EK:=match bs with
 |[]=>match args with
  |[.int .i64 n]=>if f=261∧-9223372036854775808<=n∧n<=9223372036854775807 then some ⟨.str (Lib.itoa n),[]⟩else none
  |[.str s]=>if s.length<1000000 then(if f=131 then some (Ep s)else if f=337 then some (PE s)else none)else none
  |_=>none
 |_=>none
def wV(f:FuncId)(args:cM)(bs:List NB):Option EK:=if f=6 then sumOf [⟨6,[],[],.bool true,[]⟩] f args bs else if f=330∨f=331 then ae5 331 330 133 base.nx f args bs else if f=133 then ae5 331 330 133 base.nx 133 args bs else ai7 f args bs
def KW:Known:=⟨avu,base,wV⟩
variable {m:cD}{n:Nat}
def enter{a:Nat}{f:FuncId}{sf:L6}{vs:cM}(h:fns f=some sf)(hf:SA f=false):
   l9 KW a (n+1) (.func f) vs m=dD (l9 KW a n) (Di KW (l9 KW a n) a) a sf vs m:=by
 rw[mK];have h:KW.fns f=some {sf with pure:=false}:=by show(fns f).map _=_;rw[h,hf];rfl
 simp only[h,I6,bA];rfl
def FY{a:Nat}{f:FuncId}{sf:L6}{vs:cM}(h:fns f=some sf)(hf:SA f=true):
   l9 KW a (n+1) (.func f) vs m=yL KW (l9 KW a n) a f {sf with pure:=true} vs m:=by
 rw[mK];have h:KW.fns f=some {sf with pure:=true}:=by show(fns f).map _=_;rw[h,hf];rfl
 simp only[h,I6];rfl
def en(sf:L6){a:Nat}{f:FuncId}{vs:cM}(h:fns f=some sf:=by rfl)(hf:SA f=false:=by rfl):l9 KW a (n+1) (.func f) vs m=dD (l9 KW a n) (Di KW (l9 KW a n) a) a sf vs m:=enter h hf
def sx(n:Nat)(h:0<n:=by (omega)):∃k,n=k+1:=⟨n-1,Zs⟩
def aed(i:Int)(h0:-9223372036854775808<=i)(d:i<=9223372036854775807)(n b:Nat)(m:cD):l9 KW b (n+1) (.func 261) [.int .i64 i] m=some [⟨.str (Lib.itoa i),m⟩]:=by
 rw[FY (sf:=f261) rfl rfl,tJ (K:=KW) (c:=⟨[],[.int .i64 i],[]⟩) (a:=⟨.str (Lib.itoa i),[]⟩) (wP m rfl λ_=>rfl)
  (by show wV 261 [.int .i64 i] []=_;rw[wV,aE ZS,aE ZS,aE ZS];exact cg ⟨rfl,h0,d⟩)]
 rfl
def Zb(s:List cL)(hs:s.length<1000000)(n f:Nat)(d:m.Ok):∃v m',l9 KW f (n+1) (.func 337) [.str s] m=some [⟨v,m'⟩]∧cE m m'∧xR m' v (strs (Lib.fieldsD s)):=by
 refine⟨.slice m.nx 0 (Lib.fieldsD s).length (Lib.fieldsD s).length,m.new (fB (.cells 1 ((Lib.fieldsD s).map λw=>[j5.str w]))),?_,(cE.refl d).new _,m.nx,0,_,by rw[G7],by rw[G7];exact aA _,ZZ,.inr ⟨len' ((Lib.fieldsD s).map λw=>[j5.str w]),T.ofList ((Lib.fieldsD s).map λw=>[j5.str w]),?_,?_,λi g=>?_⟩⟩;rw[FY (sf:=f337) rfl rfl,tJ (K:=KW) (c:=⟨[],[.str s],[]⟩) (a:=PE s) (wP m rfl λ_=>rfl)
  (by show wV 337 [.str s] []=_;rw[wV,aE ZS,aE ZS,aE ZS];show(if s.length<1000000 then _ else _)=_;rw[cg hs,aE ZS,cg rfl])]
 show ob (ob (iU base.nx [] m.nx base.nx) λj=>some (j5.slice j 0 (Lib.fieldsD s).length (Lib.fieldsD s).length)) (λv=>ob (ob (ob (nY (iU base.nx [] m.nx) ((Lib.fieldsD s).map λw=>[j5.str w])) λx=>some (NB.cells 1 x)) λx=>ob (some []) λy=>some (x::y)) λe=>one v (layAll e m))=_;rw[Kc,zJ];rfl;rw[cD.Q5 d,cg rfl];rfl;rw[K7];simp[strs];have b:i<(Lib.fieldsD s).length:=by rwa [G7]at g
 rw[P7,T.bV,abP,cB b];simp[strs]
def Xh(s:List cL)(hs:s.length<1000000)(n l:Nat)(m:cD)(g:m.Ok):∃v e m',l9 KW l (n+1) (.func 131) [.str s] m=some [⟨.tuple [.int .i64 v,e],m'⟩]∧cE m m'∧
   ((Lib.atoiAll s=.ok v∧e=.nilIface)∨((∀x,Lib.atoiAll s≠.ok x)∧∃p,e=.iface 381 (.ptr p 0))):=by
 have b:l9 KW l (n+1) (.func 131) [.str s] m=ob (iT (iU base.nx [] m.nx) (Ep s).v) λv=>ob (xE (iU base.nx [] m.nx) (Ep s).bs) λf=>one v (layAll f m):=by
  rw[FY (sf:=f131) rfl rfl,tJ (K:=KW) (c:=⟨[],[.str s],[]⟩) (a:=Ep s) (wP m rfl λ_=>rfl)
   (by show wV 131 [.str s] []=_;rw[wV,aE ZS,aE ZS,aE ZS];show(if s.length<1000000 then _ else _)=_;rw[cg hs,cg rfl])]
  rfl
 have d:∀k:Int,ob (iT (iU base.nx [] m.nx) (.tuple [.int .i64 k,.iface 381 (.ptr base.nx 0)])) (λv=>ob (xE (iU base.nx [] m.nx) [.dead]) λf=>one v (layAll f m))=some [⟨.tuple [.int .i64 k,.iface 381 (.ptr m.nx 0)],m.new .dead⟩]:=λk=>by show ob (ob (ob (some (j5.int .i64 k)) λx=>ob (ob (ob (ob (iU base.nx [] m.nx base.nx) λj=>some (j5.ptr j 0)) λx=>some (j5.iface 381 x)) λx=>ob (some []) λy=>some (x::y)) λy=>some (x::y)) λx=>some (j5.tuple x)) (λv=>ob (some [NB.dead]) λf=>one v (layAll f m))=_;rw[Kc];rfl
 cases h:Lib.atoiAll s with
 |ok v=>refine⟨v,.nilIface,m,?_,cE.refl g,.inl ⟨rfl,rfl⟩⟩;rw[b];simp only[Ep,h];rfl
 |range=>refine⟨Lib.atoiSat s,.iface 381 (.ptr m.nx 0),m.new .dead,?_,(cE.refl g).new _,.inr ⟨(λx (i:Lib.NumEnd.range=.ok x)=>by cases i),m.nx,rfl⟩⟩;rw[b];simp only[Ep,h];exact d _
 |_=>refine⟨0,.iface 381 (.ptr m.nx 0),m.new .dead,?_,(cE.refl g).new _,.inr ⟨(by intro x i;cases i),m.nx,rfl⟩⟩;rw[b];simp only[Ep,h];exact d 0
def abn(s:List cL)(c:cL)(hs:s.length<1000000)(n b:Nat)(m:cD):l9 KW b (n+1) (.func 331) [.str s,.str [c]] m=some [⟨.int .i64 (oM c s),m⟩]:=by
 rw[FY (sf:=f331) rfl rfl,tJ (K:=KW) (c:=⟨[],[.str s,.str [c]],[]⟩) (a:=⟨.int .i64 (oM c s),[]⟩) rfl
  (by
   show wV 331 [.str s,.str [c]] []=_;rw[wV,aE ZS,cg ZS];show bi (blt (len' s) 1000000) (some (⟨.int .i64 (oM c s),[]⟩:EK)) none=_;rw[K7,show blt s.length 1000000=true from O8.mpr hs];rfl)]
 rfl
def abo(s:List cL)(c:cL)(hs:s.length<1000000)(n b:Nat)(m:cD):l9 KW b (n+1) (.func 330) [.str s,.str [c]] m=some [⟨.int .i64 (nI c s:Nat),m⟩]:=by
 rw[FY (sf:=f330) rfl rfl,tJ (K:=KW) (c:=⟨[],[.str s,.str [c]],[]⟩) (a:=⟨.int .i64 (.ofNat (nI c s)),[]⟩) rfl
  (by
   show wV 330 [.str s,.str [c]] []=_;rw[wV,aE ZS,cg ZS];show bi (blt (len' s) 1000000) (some (⟨.int .i64 (.ofNat (nI c s)),[]⟩:EK)) none=_;rw[K7,show blt s.length 1000000=true from O8.mpr hs];rfl)]
 rfl
def xS(m:cD)(v:j5)(ws:List (List cL)):Prop:=
 (v=.nilSlice∧ws=[])∨∃id off,base.nx<=id∧((∃c,v=.slice id off ws.length c∧ws.length<=c)∨v=.sliceU id off ws.length 1)∧id<m.nx∧
  ∃(all:List (List cL)) (cF:T cM),m.get id=some (.cells 1 all.length cF)∧(∀i (h:i<all.length),cF.get i=some [.str all[i]])∧off+ws.length<=all.length∧ws=(all.drop off).take ws.length
variable {v:j5}{ws:List (List cL)}
def xS.vs(h:xS m v ws):dV m v (strs ws):=by
 rcases h with⟨rfl,rfl⟩|⟨id,off,_,h1,h2,all,cF,h3,h4,h5,h6⟩;exact .inl ⟨rfl,rfl⟩;refine .inr ⟨id,off,by simpa[G7]using h1,h2,.inr ⟨_,cF,h3,by rw[G7];exact h5,λi b=>?_⟩⟩;have a:i<ws.length:=by rwa [G7]at b
 rw[h4 (off+i) Zs];have e:ws[i]=all[off+i]'Zs:=by
  have e:ws[i]?=all[off+i]?:=by have:ws[i]?=((all.drop off).take ws.length)[i]?:=ci (·[i]?) h6;rw[this,List.getElem?_take_of_lt a,akv]
  rw[cB a,cB Zs]at e;exact rW e
 simp[strs,e]
def xS.keep{a:cD}(h:xS m v ws)(hn:m.nx<=a.nx)(b:∀id,id<m.nx->(∃o l c,v=.slice id o l c)∨(∃o l e,v=.sliceU id o l e)->a.get id=m.get id):xS a v ws:=by rcases h with h|⟨id,off,h0,h1,h2,all,cF,h3,h4⟩;exact .inl h;refine .inr ⟨id,off,h0,h1,aP h2 hn,all,cF,(b id h2 ?_).trans h3,h4⟩;rcases h1 with⟨c,rfl,_⟩|rfl;exact .inl ⟨_,_,_,rfl⟩;exact .inr ⟨_,_,_,rfl⟩
def xS.ext{a:cD}(e:cE m a)(h:xS m v ws):xS a v ws:=h.keep e.nx λid b _=>e.old id b
def fC{α:Type}:∀(n:Nat) (l:List α),iA n l=l.drop n
 |0,l=>rfl
 |n+1,[]=>by show[]=_;simp
 |n+1,x::l=>by show iA n l=_;rw[fC n];rfl
def SE{α:Type}:∀(n:Nat) (l:List α),n<=l.length->takeN n l=some (l.take n)
 |0,l,_=>rfl
 |n+1,[],h=>by simp at h
 |n+1,x::l,h=>by show ob (takeN n l) (λr=>some (x::r))=_;rw[SE n l (by simpa using h)];rfl
def aee(h:xS m v ws)(b:List cL)(t:ws.length<1000000)(o:(iP b ws).length<1000000)(n s:Nat):
   l9 KW s (n+1) (.func 133) [v,.str b] m=some [⟨.str (iP b ws),m⟩]:=by
 rw[FY (sf:=f133) rfl rfl];rcases h with⟨rfl,rfl⟩|⟨id,off,h0,h1,h2,all,cF,h3,h4,h5,h6⟩;rw[tJ (K:=KW) (c:=⟨[],[.nilSlice,.str b],[]⟩) (a:=⟨.str [],[]⟩) rfl (by show wV 133 [.nilSlice,.str b] []=_;rw[wV,aE ZS,aE ZS,cg rfl];rfl)];rfl;have u:Bc (.cells 1 all.length cF)=some (.cells 1 (all.map λw=>[.str w])):=by
  show ob (cF.slice all.length 0) (λl=>some (NB.cells 1 l))=_;have:=En cF (all.map λw=>[j5.str w]) 0 (λj o=>by
   have f:j<all.length:=by simpa using o
   rw[P7,h4 j f,abP,cB f];rfl)
  rw[ahP]at this;rw[this];rfl
 have q:=FD (lo:=base.nx) h3 u (Ka base.nx all) 99998;have d:ble base.nx id=true:=l7 h0;have r:uq base.nx [id] id=some base.nx:=by show bi (ble base.nx id) (bi (beq id id) (some base.nx) none) _=_;rw[d,show beq id id=true from ah6 id];rfl
 have g:ob (takeN ws.length (iA off (all.map λw=>[j5.str w]))) (λl=>ob (wQ l) λe=>bi (blt (len' (iP b e)) 1000000) (some (⟨.str (iP b e),[]⟩:EK)) none)=some ⟨.str (iP b ws),[]⟩:=by rw[fC,SE _ _ ZD,I6,← axq,← avx,← h6,Ke,I6,K7,show blt (iP b ws).length 1000000=true from O8.mpr o];rfl
 have p:blt ws.length 1000000=true:=O8.mpr t;rcases h1 with⟨c,rfl,hc⟩|rfl;have k:sK base.nx [j5.slice id off ws.length c,.str b]=[id]:=by show bi (ble base.nx id) [id] []++_=_;rw[d];rfl
 rw[tJ (K:=KW) (c:=⟨[id],[.slice base.nx off ws.length c,.str b],[.cells 1 (all.map λw=>[.str w])]⟩) (a:=⟨.str (iP b ws),[]⟩)
  (by
   show ob (reach m base.nx (99998+2) (sK base.nx _) []) _=_;rw[k,q];show ob (ob (ob (uq base.nx [id] id) λj=>some (j5.slice j off ws.length c)) λx=>ob (some [j5.str b]) λy=>some (x::y)) (λe=>ob (ob (ob (nY (uq base.nx [id]) (all.map λw=>[j5.str w])) λx=>some (NB.cells 1 x)) λx=>ob (some []) λy=>some (x::y)) λi=>some (⟨[id],e,i⟩:CO))=_;rw[r,zJ];rfl)
  (by
   show wV 133 [.slice base.nx off ws.length c,.str b] [.cells 1 (all.map λw=>[j5.str w])]=_;rw[wV,aE ZS,aE ZS,cg rfl];show bi (beq base.nx base.nx) (bi (ble ws.length c) (bi (blt ws.length 1000000) _ none) none) none=_;rw[ah6,show ble ws.length c=true from l7 hc,p];exact g)]
 rfl;have k:sK base.nx [j5.sliceU id off ws.length 1,.str b]=[id]:=by show bi (ble base.nx id) [id] []++_=_;rw[d];rfl
 rw[tJ (K:=KW) (c:=⟨[id],[.sliceU base.nx off ws.length 1,.str b],[.cells 1 (all.map λw=>[.str w])]⟩) (a:=⟨.str (iP b ws),[]⟩)
  (by
   show ob (reach m base.nx (99998+2) (sK base.nx _) []) _=_;rw[k,q];show ob (ob (ob (uq base.nx [id] id) λj=>some (j5.sliceU j off ws.length 1)) λx=>ob (some [j5.str b]) λy=>some (x::y)) (λe=>ob (ob (ob (nY (uq base.nx [id]) (all.map λw=>[j5.str w])) λx=>some (NB.cells 1 x)) λx=>ob (some []) λy=>some (x::y)) λi=>some (⟨[id],e,i⟩:CO))=_;rw[r,zJ];rfl)
  (by
   show wV 133 [.sliceU base.nx off ws.length 1,.str b] [.cells 1 (all.map λw=>[j5.str w])]=_;rw[wV,aE ZS,aE ZS,cg rfl];show bi (beq base.nx base.nx) (bi (blt ws.length 1000000) _ none) none=_;rw[ah6,p];exact g)]
 rfl
attribute [simp] I J S U Z A V tt ff
abbrev nS:j5:=.nilSlice
abbrev iV(a:Int):j5:=.int .i64 a
abbrev iN(a:Nat):j5:=.int .i64 (a:Int)
abbrev iZ:j5:=.int .i64 0
abbrev uV:j5:=.undef
abbrev fV:j5:=.bool false
abbrev tV:j5:=.bool true
abbrev nV2(a0 a1:j5):T j5:=(.nd (.nd .e a1 .e) a0 .e)
abbrev nV4(a0 a1 a2 a3:j5):T j5:=(.nd (.nd (.nd .e a3 .e) a1 .e) a0 (.nd .e a2 .e))
abbrev PG(a0 a1 a2 a3 a4:j5):T j5:=(.nd (.nd (.nd .e a3 .e) a1 .e) a0 (.nd (.nd .e a4 .e) a2 .e))
abbrev nV6(a0 a1 a2 a3 a4 a5:j5):T j5:=(.nd (.nd (.nd .e a3 .e) a1 (.nd .e a5 .e)) a0 (.nd (.nd .e a4 .e) a2 .e))
abbrev Da(a0 a1 a2 a3 a4 a5 a6:j5):T j5:=(.nd (.nd (.nd .e a3 .e) a1 (.nd .e a5 .e)) a0 (.nd (.nd .e a4 .e) a2 (.nd .e a6 .e)))
abbrev zV(a0 a1 a2 a3 a4 a5 a6 a7:j5):T j5:=(.nd (.nd (.nd (.nd .e a7 .e) a3 .e) a1 (.nd .e a5 .e)) a0 (.nd (.nd .e a4 .e) a2 (.nd .e a6 .e)))
abbrev Mc(a0 a1 a2 a3 a4 a5 a6 a7 a8:j5):T j5:=(.nd (.nd (.nd (.nd .e a7 .e) a3 .e) a1 (.nd .e a5 .e)) a0 (.nd (.nd (.nd .e a8 .e) a4 .e) a2 (.nd .e a6 .e)))
abbrev zW(a0 a1 a2 a3 a4 a5 a6 a7 a8 a9:j5):T j5:=(.nd (.nd (.nd (.nd .e a7 .e) a3 .e) a1 (.nd (.nd .e a9 .e) a5 .e)) a0 (.nd (.nd (.nd .e a8 .e) a4 .e) a2 (.nd .e a6 .e)))
abbrev xU(a0 a1 a2 a3 a4 a5 a6 a7 a8 a9 a10:j5):T j5:=(.nd (.nd (.nd (.nd .e a7 .e) a3 .e) a1 (.nd (.nd .e a9 .e) a5 .e)) a0 (.nd (.nd (.nd .e a8 .e) a4 .e) a2 (.nd (.nd .e a10 .e) a6 .e)))
abbrev aef(a0 a1 a2 a3 a4 a5 a6 a7 a8 a9 a10 a11:j5):T j5:=(.nd (.nd (.nd (.nd .e a7 .e) a3 (.nd .e a11 .e)) a1 (.nd (.nd .e a9 .e) a5 .e)) a0 (.nd (.nd (.nd .e a8 .e) a4 .e) a2 (.nd (.nd .e a10 .e) a6 .e)))
abbrev ai9(a0 a1 a2 a3 a4 a5 a6 a7 a8 a9 a10 a11 a12:j5):T j5:=(.nd (.nd (.nd (.nd .e a7 .e) a3 (.nd .e a11 .e)) a1 (.nd (.nd .e a9 .e) a5 .e)) a0 (.nd (.nd (.nd .e a8 .e) a4 (.nd .e a12 .e)) a2 (.nd (.nd .e a10 .e) a6 .e)))
abbrev aia(a0 a1 a2 a3 a4 a5 a6 a7 a8 a9 a10 a11 a12 a13:j5):T j5:=(.nd (.nd (.nd (.nd .e a7 .e) a3 (.nd .e a11 .e)) a1 (.nd (.nd .e a9 .e) a5 (.nd .e a13 .e))) a0 (.nd (.nd (.nd .e a8 .e) a4 (.nd .e a12 .e)) a2 (.nd (.nd .e a10 .e) a6 .e)))
abbrev abp(a0 a1 a2 a3 a4 a5 a6 a7 a8 a9 a10 a11 a12 a13 a14 a15 a16 a17:j5):T j5:=(.nd (.nd (.nd (.nd (.nd .e a15 .e) a7 .e) a3 (.nd .e a11 .e)) a1 (.nd (.nd (.nd .e a17 .e) a9 .e) a5 (.nd .e a13 .e))) a0 (.nd (.nd (.nd (.nd .e a16 .e) a8 .e) a4 (.nd .e a12 .e)) a2 (.nd (.nd .e a10 .e) a6 (.nd .e a14 .e))))
abbrev aib(a0 a1 a2 a3 a4 a5 a6 a7 a8 a9 a10 a11 a12 a13 a14 a15 a16 a17 a18:j5):T j5:=(.nd (.nd (.nd (.nd (.nd .e a15 .e) a7 .e) a3 (.nd .e a11 .e)) a1 (.nd (.nd (.nd .e a17 .e) a9 .e) a5 (.nd .e a13 .e))) a0 (.nd (.nd (.nd (.nd .e a16 .e) a8 .e) a4 (.nd .e a12 .e)) a2 (.nd (.nd (.nd .e a18 .e) a10 .e) a6 (.nd .e a14 .e))))
abbrev PI(a0 a1 a2 a3 a4 a5 a6 a7 a8 a9 a10 a11 a12 a13 a14 a15 a16 a17 a18 a19:j5):T j5:=(.nd (.nd (.nd (.nd (.nd .e a15 .e) a7 .e) a3 (.nd (.nd .e a19 .e) a11 .e)) a1 (.nd (.nd (.nd .e a17 .e) a9 .e) a5 (.nd .e a13 .e))) a0 (.nd (.nd (.nd (.nd .e a16 .e) a8 .e) a4 (.nd .e a12 .e)) a2 (.nd (.nd (.nd .e a18 .e) a10 .e) a6 (.nd .e a14 .e))))
abbrev FZ(a0 a1 a2 a3 a4 a5 a6 a7 a8 a9 a10 a11 a12 a13 a14 a15 a16 a17 a18 a19 a20 a21 a22 a23 a24 a25 a26 a27 a28 a29 a30 a31 a32 a33:j5):T j5:=(.nd (.nd (.nd (.nd (.nd (.nd .e a31 .e) a15 .e) a7 (.nd .e a23 .e)) a3 (.nd (.nd .e a19 .e) a11 (.nd .e a27 .e))) a1 (.nd (.nd (.nd (.nd .e a33 .e) a17 .e) a9 (.nd .e a25 .e)) a5 (.nd (.nd .e a21 .e) a13 (.nd .e a29 .e)))) a0 (.nd (.nd (.nd (.nd (.nd .e a32 .e) a16 .e) a8 (.nd .e a24 .e)) a4 (.nd (.nd .e a20 .e) a12 (.nd .e a28 .e))) a2 (.nd (.nd (.nd .e a18 .e) a10 (.nd .e a26 .e)) a6 (.nd (.nd .e a22 .e) a14 (.nd .e a30 .e)))))
abbrev aeg(a0 a1 a2 a3 a4 a5 a6 a7 a8 a9 a10 a11 a12 a13 a14 a15 a16 a17 a18 a19 a20 a21 a22 a23 a24 a25 a26 a27 a28 a29 a30 a31 a32 a33 a34 a35 a36 a37 a38 a39 a40 a41 a42 a43 a44 a45 a46 a47 a48 a49 a50:j5):T j5:=(.nd (.nd (.nd (.nd (.nd (.nd .e a31 .e) a15 (.nd .e a47 .e)) a7 (.nd (.nd .e a39 .e) a23 .e)) a3 (.nd (.nd (.nd .e a35 .e) a19 .e) a11 (.nd (.nd .e a43 .e) a27 .e))) a1 (.nd (.nd (.nd (.nd .e a33 .e) a17 (.nd .e a49 .e)) a9 (.nd (.nd .e a41 .e) a25 .e)) a5 (.nd (.nd (.nd .e a37 .e) a21 .e) a13 (.nd (.nd .e a45 .e) a29 .e)))) a0 (.nd (.nd (.nd (.nd (.nd .e a32 .e) a16 (.nd .e a48 .e)) a8 (.nd (.nd .e a40 .e) a24 .e)) a4 (.nd (.nd (.nd .e a36 .e) a20 .e) a12 (.nd (.nd .e a44 .e) a28 .e))) a2 (.nd (.nd (.nd (.nd .e a34 .e) a18 (.nd .e a50 .e)) a10 (.nd (.nd .e a42 .e) a26 .e)) a6 (.nd (.nd (.nd .e a38 .e) a22 .e) a14 (.nd (.nd .e a46 .e) a30 .e)))))
attribute [simp] nS iV iN iZ uV fV tV dD fA fM gW jX jG jf aW bR bH nV2 nV4 PG nV6 Da zV Mc zW xU aef ai9 aia abp aib PI FZ aeg
def ay(a:m.Ok)(d:m.lim<=m.nx):(∀(m:cD) b,m.new b=ext m [b])∧(∀(m:cD) l l',ext (ext m l) l'=ext m (l++l'))∧(∀l,(ext m l).get m.nx=l[0]?)∧(∀l c,(ext m l).get (m.nx+c)=l[c]?)∧
   (∀(β:Type) l c off vs (k:cD->Option β),storeAt (ext m l) (m.nx+c) off vs k=bi (H8 vs) (ob (Go.AM.ZX l[c]? off vs) λb=>k (ext m (l.set c b))) none)∧
   (∀(β:Type) l off vs (k:cD->Option β),storeAt (ext m l) m.nx off vs k=bi (H8 vs) (ob (Go.AM.ZX l[0]? off vs) λb=>k (ext m (l.set 0 b))) none)∧
   (∀(l:List Y9) c b,c<l.length->(ext m l).set (m.nx+c) b=ext m (l.set c b))∧∀(l:List Y9) b,0<l.length->(ext m l).set m.nx b=ext m (l.set 0 b):=
 ⟨o9,A8,l8 a,r9 a,λβ l c off vs k=>Fz a d l c off vs k,λβ l off vs k=>zA a d l off vs k,pY a,qO a⟩
def dh(a:m.Ok)(d:m.lim<=m.nx):(∀l:List Y9,(ext m l).get m.nx=l[0]?)∧(∀(l:List Y9) (c:Nat),(ext m l).get (m.nx+c)=l[c]?)∧
   (∀(β:Type) (l:List Y9) (c off:Nat) (vs:cM) (k:cD->Option β),storeAt (ext m l) (m.nx+c) off vs k=bi (H8 vs) (ob (ZX l[c]? off vs) λb=>k (ext m (l.set c b))) none)∧
   (∀(β:Type) (l:List Y9) (off:Nat) (vs:cM) (k:cD->Option β),storeAt (ext m l) m.nx off vs k=bi (H8 vs) (ob (ZX l[0]? off vs) λb=>k (ext m (l.set 0 b))) none)∧
   (∀(l:List Y9) (c:Nat) (b:Y9),c<l.length->(ext m l).set (m.nx+c) b=ext m (l.set c b))∧∀(l:List Y9) (b:Y9),0<l.length->(ext m l).set m.nx b=ext m (l.set 0 b):=
 ⟨l8 a,r9 a,λ_=>Fz a d,λ_=>zA a d,pY a,qO a⟩
@[simp] abbrev zr:cM:=[iZ,iZ,iZ,iZ,iZ,iZ,iZ,iZ,iZ,iZ,iZ,iZ,iZ,iZ,iZ,iZ,iZ,iZ,iZ,iZ,iZ,iZ,nS,nS,iZ,iZ,iZ,iZ,iZ,nS,iZ,iZ]
@[simp] abbrev zK(a b c d:Int):cM:=[iV a,iV b,iV c,iV d,iZ,iZ,iZ,iZ,iZ,iZ,iZ,iZ,iZ,iZ,iZ,iZ,iZ,iZ,iZ,iZ,iZ,iZ,nS,nS,iZ,iZ,iZ,iZ,iZ,nS,iZ,iZ]
structure D6 where
 room:Int
 no:Int
 known:Int
 kind:Int
 flo:Int
 fhi:Int
 gid:Int
 made:Int
 nom:Int
 tlo:Int
 thi:Int
 gn:Int
 gd:Int
 wear:Int
 ug:Int
 ud:Int
 lg:Int
 ll:Int
 lh:Int
 lw:Int
 cid:Int
 cday:Int
 A:j5
 B:j5
 diff:Int
 err:Int
 hlo:Int
 hhi:Int
 mday:Int
 L:j5
 tr:Int
 tn:Int
def D6.cells(f:D6):cM:=[j5.int .i64 f.room,j5.int .i64 f.no,j5.int .i64 f.known,j5.int .i64 f.kind,j5.int .i64 f.flo,j5.int .i64 f.fhi,j5.int .i64 f.gid,j5.int .i64 f.made,j5.int .i64 f.nom,j5.int .i64 f.tlo,j5.int .i64 f.thi,j5.int .i64 f.gn,j5.int .i64 f.gd,j5.int .i64 f.wear,j5.int .i64 f.ug,j5.int .i64 f.ud,j5.int .i64 f.lg,j5.int .i64 f.ll,j5.int .i64 f.lh,j5.int .i64 f.lw,j5.int .i64 f.cid,j5.int .i64 f.cday,f.A,f.B,j5.int .i64 f.diff,j5.int .i64 f.err,j5.int .i64 f.hlo,j5.int .i64 f.hhi,j5.int .i64 f.mday,f.L,j5.int .i64 f.tr,j5.int .i64 f.tn]
@[simp] theorem D6.len(f:D6):f.cells.length=32:=id rfl
@[simp] theorem D6.c0(f:D6):f.cells[0]?=some (j5.int .i64 f.room):=id rfl
@[simp] theorem D6.c1(f:D6):f.cells[1]?=some (j5.int .i64 f.no):=id rfl
@[simp] theorem D6.c2(f:D6):f.cells[2]?=some (j5.int .i64 f.known):=id rfl
@[simp] theorem D6.c3(f:D6):f.cells[3]?=some (j5.int .i64 f.kind):=id rfl
@[simp] theorem D6.c4(f:D6):f.cells[4]?=some (j5.int .i64 f.flo):=id rfl
@[simp] theorem D6.c5(f:D6):f.cells[5]?=some (j5.int .i64 f.fhi):=id rfl
@[simp] theorem D6.c6(f:D6):f.cells[6]?=some (j5.int .i64 f.gid):=id rfl
@[simp] theorem D6.c7(f:D6):f.cells[7]?=some (j5.int .i64 f.made):=id rfl
@[simp] theorem D6.c8(f:D6):f.cells[8]?=some (j5.int .i64 f.nom):=id rfl
@[simp] theorem D6.c9(f:D6):f.cells[9]?=some (j5.int .i64 f.tlo):=id rfl
@[simp] theorem D6.c10(f:D6):f.cells[10]?=some (j5.int .i64 f.thi):=id rfl
@[simp] theorem D6.c11(f:D6):f.cells[11]?=some (j5.int .i64 f.gn):=id rfl
@[simp] theorem D6.c12(f:D6):f.cells[12]?=some (j5.int .i64 f.gd):=id rfl
@[simp] theorem D6.c16(f:D6):f.cells[16]?=some (j5.int .i64 f.lg):=id rfl
@[simp] theorem D6.c17(f:D6):f.cells[17]?=some (j5.int .i64 f.ll):=id rfl
@[simp] theorem D6.c18(f:D6):f.cells[18]?=some (j5.int .i64 f.lh):=id rfl
@[simp] theorem D6.c22(f:D6):f.cells[22]?=some (f.A):=id rfl
@[simp] theorem D6.c23(f:D6):f.cells[23]?=some (f.B):=id rfl
@[simp] theorem D6.c27(f:D6):f.cells[27]?=some (j5.int .i64 f.hhi):=id rfl
@[simp] theorem D6.g0(f:D6)(h:0<f.cells.length):f.cells[0]'h=j5.int .i64 f.room:=id rfl
@[simp] theorem D6.g1(f:D6)(h:1<f.cells.length):f.cells[1]'h=j5.int .i64 f.no:=id rfl
@[simp] theorem D6.g2(f:D6)(h:2<f.cells.length):f.cells[2]'h=j5.int .i64 f.known:=id rfl
@[simp] theorem D6.g3(f:D6)(h:3<f.cells.length):f.cells[3]'h=j5.int .i64 f.kind:=id rfl
@[simp] theorem D6.g4(f:D6)(h:4<f.cells.length):f.cells[4]'h=j5.int .i64 f.flo:=id rfl
@[simp] theorem D6.g5(f:D6)(h:5<f.cells.length):f.cells[5]'h=j5.int .i64 f.fhi:=id rfl
@[simp] theorem D6.g6(f:D6)(h:6<f.cells.length):f.cells[6]'h=j5.int .i64 f.gid:=id rfl
@[simp] theorem D6.g7(f:D6)(h:7<f.cells.length):f.cells[7]'h=j5.int .i64 f.made:=id rfl
@[simp] theorem D6.g8(f:D6)(h:8<f.cells.length):f.cells[8]'h=j5.int .i64 f.nom:=id rfl
@[simp] theorem D6.g9(f:D6)(h:9<f.cells.length):f.cells[9]'h=j5.int .i64 f.tlo:=id rfl
@[simp] theorem D6.g10(f:D6)(h:10<f.cells.length):f.cells[10]'h=j5.int .i64 f.thi:=id rfl
@[simp] theorem D6.g11(f:D6)(h:11<f.cells.length):f.cells[11]'h=j5.int .i64 f.gn:=id rfl
@[simp] theorem D6.g12(f:D6)(h:12<f.cells.length):f.cells[12]'h=j5.int .i64 f.gd:=id rfl
@[simp] theorem D6.g13(f:D6)(h:13<f.cells.length):f.cells[13]'h=j5.int .i64 f.wear:=id rfl
@[simp] theorem D6.g14(f:D6)(h:14<f.cells.length):f.cells[14]'h=j5.int .i64 f.ug:=id rfl
@[simp] theorem D6.g15(f:D6)(h:15<f.cells.length):f.cells[15]'h=j5.int .i64 f.ud:=id rfl
@[simp] theorem D6.g16(f:D6)(h:16<f.cells.length):f.cells[16]'h=j5.int .i64 f.lg:=id rfl
@[simp] theorem D6.g17(f:D6)(h:17<f.cells.length):f.cells[17]'h=j5.int .i64 f.ll:=id rfl
@[simp] theorem D6.g18(f:D6)(h:18<f.cells.length):f.cells[18]'h=j5.int .i64 f.lh:=id rfl
@[simp] theorem D6.g19(f:D6)(h:19<f.cells.length):f.cells[19]'h=j5.int .i64 f.lw:=id rfl
@[simp] theorem D6.g20(f:D6)(h:20<f.cells.length):f.cells[20]'h=j5.int .i64 f.cid:=id rfl
@[simp] theorem D6.g21(f:D6)(h:21<f.cells.length):f.cells[21]'h=j5.int .i64 f.cday:=id rfl
@[simp] theorem D6.g22(f:D6)(h:22<f.cells.length):f.cells[22]'h=f.A:=id rfl
@[simp] theorem D6.g23(f:D6)(h:23<f.cells.length):f.cells[23]'h=f.B:=id rfl
@[simp] theorem D6.g24(f:D6)(h:24<f.cells.length):f.cells[24]'h=j5.int .i64 f.diff:=id rfl
@[simp] theorem D6.g25(f:D6)(h:25<f.cells.length):f.cells[25]'h=j5.int .i64 f.err:=id rfl
@[simp] theorem D6.g26(f:D6)(h:26<f.cells.length):f.cells[26]'h=j5.int .i64 f.hlo:=id rfl
@[simp] theorem D6.g27(f:D6)(h:27<f.cells.length):f.cells[27]'h=j5.int .i64 f.hhi:=id rfl
@[simp] theorem D6.g28(f:D6)(h:28<f.cells.length):f.cells[28]'h=j5.int .i64 f.mday:=id rfl
@[simp] theorem D6.g29(f:D6)(h:29<f.cells.length):f.cells[29]'h=f.L:=id rfl
@[simp] theorem D6.g30(f:D6)(h:30<f.cells.length):f.cells[30]'h=j5.int .i64 f.tr:=id rfl
@[simp] theorem D6.g31(f:D6)(h:31<f.cells.length):f.cells[31]'h=j5.int .i64 f.tn:=id rfl
@[simp] theorem D6.awO(f:D6):(f.cells.drop 4).take 2=[j5.int .i64 f.flo,j5.int .i64 f.fhi]:=id rfl
@[simp] theorem D6.awP(f:D6):(f.cells.drop 6).take 8=[j5.int .i64 f.gid,j5.int .i64 f.made,j5.int .i64 f.nom,j5.int .i64 f.tlo,j5.int .i64 f.thi,j5.int .i64 f.gn,j5.int .i64 f.gd,j5.int .i64 f.wear]:=id rfl
@[simp] theorem D6.awj(f:D6):(f.cells.drop 14).take 2=[j5.int .i64 f.ug,j5.int .i64 f.ud]:=id rfl
@[simp] theorem D6.awk(f:D6):(f.cells.drop 16).take 4=[j5.int .i64 f.lg,j5.int .i64 f.ll,j5.int .i64 f.lh,j5.int .i64 f.lw]:=id rfl
@[simp] theorem D6.awl(f:D6):(f.cells.drop 20).take 8=[j5.int .i64 f.cid,j5.int .i64 f.cday,f.A,f.B,j5.int .i64 f.diff,j5.int .i64 f.err,j5.int .i64 f.hlo,j5.int .i64 f.hhi]:=id rfl
@[simp] theorem D6.awm(f:D6):(f.cells.drop 28).take 2=[j5.int .i64 f.mday,f.L]:=id rfl
@[simp] theorem D6.awn(f:D6):(f.cells.drop 30).take 2=[j5.int .i64 f.tr,j5.int .i64 f.tn]:=id rfl
@[simp] theorem D6.awo(f:D6):(f.cells.drop 17).take 2=[j5.int .i64 f.ll,j5.int .i64 f.lh]:=id rfl
@[simp] theorem D6.awp(f:D6):f.cells.take 32=f.cells:=id rfl
def eB(n b:Nat)(a lo hi:Int)(m:cD):l9 KW b (n+1) (.func 56) [iV a,iV lo,iV hi] m=some [⟨.bool (decide (lo<=a)&&decide (a<=hi)),m⟩]:=by rw[en f56];simp +contextual [dD,f56,fA,fM,gW]
def bJ(n b:Nat)(a lo hi:Int)(m:cD):l9 KW b (n+1) (.func 27) [iV a,iV lo,iV hi] m=some [⟨.bool (decide (lo<=a)&&decide (a<=hi)),m⟩]:=by rw[en f27];simp +contextual [dD,f27,fA,fM,gW]
def jv(n b:Nat)(a lo hi:Int)(m:cD):l9 KW b (n+1) (.func 128) [iV a,iV lo,iV hi] m=some [⟨.bool (decide (lo<=a)&&decide (a<=hi)),m⟩]:=by rw[en f128];simp +contextual [dD,f128,fA,fM,gW]
def bP(n b:Nat)(a lo hi:Int)(m:cD):l9 KW b (n+1) (.func 388) [iV a,iV lo,iV hi] m=some [⟨.bool (decide (lo<=a)&&decide (a<=hi)),m⟩]:=by rw[en ahU];simp +contextual [dD,ahU,fA,fM,gW]
def pF(n b:Nat)(a:Int)(m:cD):l9 KW b (n+2) (.func 211) [iV a] m=some [⟨.bool (decide (1<=a)&&decide (a<=1099511627776)),m⟩]:=by rw[en f211];simp[f211,eB]
def Ky(n b:Nat)(a:Int)(m:cD):l9 KW b (n+2) (.func 92) [iV a] m=some [⟨.bool (decide (0<=a)&&decide (a<=1099511627776)),m⟩]:=by rw[en f92];simp[f92,eB]
def Kz(n b:Nat)(a:Int)(m:cD):l9 KW b (n+2) (.func 48) [iV a] m=some [⟨.bool (decide (0<=a)&&decide (a<=1099511627776)),m⟩]:=by rw[en f48];simp[f48,bJ]
def eX(n b:Nat)(a:Int)(m:cD):l9 KW b (n+2) (.func 124) [iV a] m=some [⟨.bool (decide (0<=a)&&decide (a<=20000)),m⟩]:=by rw[en f124];simp[f124,jv]
def eO(n b:Nat)(a:Int)(m:cD):l9 KW b (n+2) (.func 313) [iV a] m=some [⟨.bool (decide (0<=a)&&decide (a<=20000)),m⟩]:=by rw[en f313];simp[f313,bP]
def PN(n c:Nat)(l h a b:Int)(m:cD)(d:m.Ok):l9 KW c (n+1) (.func 206) [.agg [iV l,iV h],iV a,iV b] m =
   some [⟨.bool (decide (a<=l)&&decide (l<=h)&&decide (h<=b)),ext m [j6 [iV l,iV h]]⟩]:=by
 rw[en f206];simp +contextual [dD,f206,fA,fM,gW,o9,l8 d]
def PO(n c:Nat)(l h a b:Int)(m:cD)(d:m.Ok):l9 KW c (n+1) (.func 225) [.agg [iV l,iV h],iV a,iV b] m =
   some [⟨.bool (decide (a<=l)&&decide (l<=h)&&decide (h<=b)),ext m [j6 [iV l,iV h]]⟩]:=by
 rw[en f225];simp +contextual [dD,f225,fA,fM,gW,o9,l8 d]
def Xi(n c:Nat)(l h a b:Int)(m:cD)(d:m.Ok):l9 KW c (n+1) (.func 118) [.agg [iV l,iV h],iV a,iV b] m =
   some [⟨.bool (decide (a<=l)&&decide (l<=h)&&decide (h<=b)),ext m [j6 [iV l,iV h]]⟩]:=by
 rw[en f118];simp +contextual [dD,f118,fA,fM,gW,o9,l8 d]
def Xj(n c:Nat)(l h a b:Int)(m:cD)(d:m.Ok):l9 KW c (n+1) (.func 180) [.agg [iV l,iV h],iV a,iV b] m =
   some [⟨.bool (decide (a<=l)&&decide (l<=h)&&decide (h<=b)),ext m [j6 [iV l,iV h]]⟩]:=by
 rw[en f180];simp +contextual [dD,f180,fA,fM,gW,o9,l8 d]
def PU(n a:Nat)(f:D6)(m:cD)(c:m.Ok)(b:m.lim<=m.nx):l9 KW a (n+1) (.func 44) [.agg f.cells] m =
   some [⟨.agg [iV f.room,iV f.no],ext m [j6 f.cells,j6 [iV f.room,iV f.no]]⟩]:=by
 rw[en f44];simp[f44,ay c b,D8]
def aeh(n b:Nat)(f:D6)(m:cD)(a:m.Ok)(c:m.lim<=m.nx):∃m',l9 KW b (n+2) (.func 205) [.agg f.cells] m=some [⟨.bool (decide (0<=f.flo)&&decide (f.flo<=f.fhi)&&decide (f.fhi<=1000000)),m'⟩]∧cE m m':=by rw[en f205];refine⟨ext m [j6 f.cells,j6 [iV f.flo,iV f.fhi]],?_,o8 a _⟩;simp +contextual [f205,dD,fA,fM,ay a c,bH,PN _ _ _ _ _ _ _ (I7 a _)]
def aei(n b:Nat)(f:D6)(m:cD)(a:m.Ok)(c:m.lim<=m.nx):∃m',l9 KW b (n+3) (.func 210) [.agg f.cells] m=some [⟨.bool ((decide (1<=f.ug)&&decide (f.ug<=1099511627776))&&(decide (0<=f.ud)&&decide (f.ud<=20000))),m'⟩]∧cE m m':=by rw[en f210];refine⟨ext m [j6 f.cells],?_,o8 a _⟩;simp +contextual [f210,dD,fA,fM,gW,jX,ay a c,pF,eB]
variable {w:j5}{a xs:cQ}
def abq(y:U5 m v xs)(z:U5 m w a)(A:a.length=xs.length)(hb:xs.length<1000000)(cf:G6)(n:Nat)(d:j5):
   ∀(j i:Nat),i+j=xs.length->∀(N:Nat),j<N->∀(a5 a6 a7:j5),
    ∃x k b5 b6 b7,I9 (λenv m k=>FL cf n none env m k) N (Mc v w d (iN i) (iN (xs.length)) a5 a6 a7 fV) m []=some [⟨x,(Mc v w d (iN k) (iN (xs.length)) b5 b6 b7 fV),m,[],none⟩]∧
     x=(if xs.drop i=a.drop i then bQ.exit 0 else .ret):=by
 intro j;induction j with
 |zero=>
  intro i u N s a5 a6 a7;obtain⟨N,rfl⟩:=sx N;refine⟨.exit 0,i,fV,a6,a7,?_,?_⟩;rw[o7];have h:¬ i<xs.length:=Zs
  simp[FL,o9,A8,D8,h];rw[su Zs,su Zs];rfl
 |succ j ih=>
  intro i u N s a5 a6 a7;obtain⟨N,rfl⟩:=sx N;have h:i<xs.length:=Zs
  have c:i<a.length:=Zs
  obtain⟨p,e,_,f⟩:=y.at h;obtain⟨q,g,_,l⟩:=z.at c;by_cases he:xs[i]=a[i];obtain⟨x,k,b5,b6,b7,o,r⟩:=ih (i+1) Zs N Zs tV (iV i) fV;refine⟨x,k,b5,b6,b7,?_,?_⟩;rw[o7,← o];simp[FL,h,e,f,g,l,he,I4 (i:=i) Zs];rw[r];have t:(xs.drop i=a.drop i)↔(xs.drop (i+1)=a.drop (i+1)):=by rw[zu h,zu c,he];exact⟨λb=>(akk b).2,λb=>by rw[b]⟩
  simp only[t];refine⟨.ret,i,tV,iV i,tV,?_,?_⟩;rw[o7];simp[FL,h,e,f,g,l,he];rw[aE];intro b;rw[zu h,zu c]at b;exact he (akk b).1
def PV{ys:cQ}(f:U5 m v xs)(g:U5 m w ys)(hb:xs.length<20000)(n b:Nat)(o:20000<=b):
   l9 KW b (n+1) (.func 224) [v,w] m=some [⟨.bool (decide (xs=ys)),m⟩]:=by
 rw[en f224];have d:=f.len;have e:=g.len;by_cases hxy:ys.length=xs.length;obtain⟨x,k,p,q,r,c,a⟩:=abq f g hxy Zs (l9 KW b n) b fV xs.length 0 Zs b Zs uV uV uV;have a:x=if xs=ys then bQ.exit 0 else .ret:=a
 by_cases he:xs=ys;rw[cg he]at a;subst a;simp[f224,d,e,hxy,he]at c ⊢;simp[c];rw[aE he]at a;subst a;simp[f224,d,e,hxy,he]at c ⊢;simp[c];have i:¬ xs.length=ys.length:=λh=>hxy h.symm;have j:¬ xs=ys:=λh=>i (by rw[h]);have l:¬ ((xs.length:Nat):Int)=((ys.length:Nat):Int):=Zs
 simp[f224,d,e,l,j]
def abr(o:U5 m v xs)(hb:xs.length<1000000)(n r:Nat):
   ∀(j i:Nat),i+j=xs.length->∀(N:Nat),j<N->∀(a0 a1 a2 a3:j5),
    ∃x k b0 b1 b2 b3,I9 (λenv m k=>uM (l9 KW r (n+1)) r none env m k) N (Mc v (iN i) (iN (xs.length)) a0 v a1 a2 a3 fV) m []=some [⟨x,(Mc v (iN k) (iN (xs.length)) b0 v b1 b2 b3 fV),m,[],none⟩]∧x=(bif Z9 (okB xs) j i then bQ.exit 0 else .ret):=by
 intro j;induction j with
 |zero=>
  intro i E N D a0 a1 a2 a3;obtain⟨N,rfl⟩:=sx N;refine⟨.exit 0,i,fV,a1,a2,a3,?_,rfl⟩;rw[o7];have h:¬ i<xs.length:=Zs
  have c:=o.len;simp[uM,h,c]
 |succ j ih=>
  intro i E N D a0 a1 a2 a3;obtain⟨N,rfl⟩:=sx N;have h:i<xs.length:=Zs
  have c:=o.len;obtain⟨p,d,_,e⟩:=o.at h;have A:=kR h;have f:okB xs i=true->∃x k b0 b1 b2 b3,I9 (λenv m k=>uM (l9 KW r (n+1)) r none env m k) (N+1) (Mc v (iN i) (iN (xs.length)) a0 v a1 a2 a3 fV) m []=some [⟨x,(Mc v (iN k) (iN (xs.length)) b0 v b1 b2 b3 fV),m,[],none⟩]∧x=(bif Z9 (okB xs) (j+1) i then bQ.exit 0 else .ret):=by
   intro a;obtain⟨x,k,b0,b1,b2,b3,B,C⟩:=ih (i+1) Zs N Zs tV ((iV xs[i])) ((iV (i:Nat))) fV;refine⟨x,k,b0,b1,b2,b3,?_,by rw[C];simp[Z9,a]⟩;rw[o7,← B];simp only[okB,A,oo,ate,ck]at a;obtain⟨⟨y,z⟩,u⟩:=a;by_cases h0:i=0;have b:¬ 0<i:=Zs
   simp[uM,h,c,d,e,y,z,b,bP,I4 (i:=i) Zs];have g:i-1<xs.length:=Zs
   obtain⟨q,s,_,t⟩:=o.at g;have u:=u.resolve_left h0;rw[kR g]at u;have b:0<i:=Zs
   have w:¬ xs[i]<=xs[i-1]:=Zs
   simp[uM,h,c,d,e,s,t,y,z,b,w,bP,I4 (i:=i) Zs,qd (i:=i) b Zs]
  cases a:okB xs i with
  |true=>exact f a
  |false=>
   refine⟨.ret,i,tV,iV xs[i],iV (i:Nat),tV,?_,by simp[Z9,a]⟩;rw[o7];simp only[okB,A]at a;by_cases h0:i=0;have l:(decide (1<=xs[i])&&decide (xs[i]<=1099511627776))=false:=by simpa[h0]using a
   simp[uM,h,c,d,e,l,bP];have g:i-1<xs.length:=Zs
   obtain⟨q,s,_,t⟩:=o.at g;have b:0<i:=Zs
   rw[kR g,show decide (i=0)=false from decide_eq_false h0,avY]at a;cases l:(decide (1<=xs[i])&&decide (xs[i]<=1099511627776))with
   |false=>simp[uM,h,c,d,e,l,bP]
   |true=>rw[l,ajy]at a;have w:xs[i]<=xs[i-1]:=(by simpa using a);simp[uM,h,c,d,e,s,t,l,b,w,bP,qd (i:=i) b Zs]
def Xk(d:U5 m v xs)(hb:xs.length<20000)(n a:Nat)(f:20000<=a):
   l9 KW a (n+2) (.func 393) [v] m=some [⟨.bool (Z9 (okB xs) xs.length 0&&decide (xs.length<=6)),m⟩]:=by
 rw[en ahV];have e:=d.len;obtain⟨x,k,g,h,i,j,c,b⟩:=abr d Zs n a xs.length 0 Zs a Zs uV uV uV uV;cases ha:Z9 (okB xs) xs.length 0<;>rw[ha]at b<;>simp only[cond_true,cond_false]at b<;>subst b<;>simp[ahV,e]at c ⊢ <;>simp[c,e]
 omega
def abt(o:U5 m v xs)(hb:xs.length<1000000)(n r:Nat):
   ∀(j i:Nat),i+j=xs.length->∀(N:Nat),j<N->∀(a0 a1:j5),
    ∃x k b0 b1,I9 (λenv m k=>uJ (l9 KW r (n+1)) r none env m k) N (PG (iN i) v a0 a1 fV) m []=some [⟨x,(PG (iN k) v b0 b1 fV),m,[],none⟩]∧x=(bif Z9 (okB xs) j i then bQ.exit 0 else .ret):=by
 intro j;induction j with
 |zero=>
  intro i E N D a0 a1;obtain⟨N,rfl⟩:=sx N;refine⟨.exit 0,i,fV,a1,?_,rfl⟩;rw[o7];have h:¬ i<xs.length:=Zs
  have c:=o.len;simp[uJ,h,c]
 |succ j ih=>
  intro i E N D a0 a1;obtain⟨N,rfl⟩:=sx N;have h:i<xs.length:=Zs
  have c:=o.len;obtain⟨p,d,_,e⟩:=o.at h;have A:=kR h;have f:okB xs i=true->∃x k b0 b1,I9 (λenv m k=>uJ (l9 KW r (n+1)) r none env m k) (N+1) (PG (iN i) v a0 a1 fV) m []=some [⟨x,(PG (iN k) v b0 b1 fV),m,[],none⟩]∧x=(bif Z9 (okB xs) (j+1) i then bQ.exit 0 else .ret):=by
   intro a;obtain⟨x,k,b0,b1,B,C⟩:=ih (i+1) Zs N Zs tV fV;refine⟨x,k,b0,b1,?_,by rw[C];simp[Z9,a]⟩;rw[o7,← B];simp only[okB,A,oo,ate,ck]at a;obtain⟨⟨y,z⟩,u⟩:=a;by_cases h0:i=0;have b:¬ 0<i:=Zs
   simp[uJ,h,c,d,e,y,z,b,jv,I4 (i:=i) Zs];have g:i-1<xs.length:=Zs
   obtain⟨q,s,_,t⟩:=o.at g;have u:=u.resolve_left h0;rw[kR g]at u;have b:0<i:=Zs
   have w:¬ xs[i]<=xs[i-1]:=Zs
   simp[uJ,h,c,d,e,s,t,y,z,b,w,jv,I4 (i:=i) Zs,qd (i:=i) b Zs]
  cases a:okB xs i with
  |true=>exact f a
  |false=>
   refine⟨.ret,i,tV,tV,?_,by simp[Z9,a]⟩;rw[o7];simp only[okB,A]at a;by_cases h0:i=0;have l:(decide (1<=xs[i])&&decide (xs[i]<=1099511627776))=false:=by simpa[h0]using a
   simp[uJ,h,c,d,e,l,jv];have g:i-1<xs.length:=Zs
   obtain⟨q,s,_,t⟩:=o.at g;have b:0<i:=Zs
   rw[kR g,show decide (i=0)=false from decide_eq_false h0,avY]at a;cases l:(decide (1<=xs[i])&&decide (xs[i]<=1099511627776))with
   |false=>simp[uJ,h,c,d,e,l,jv]
   |true=>rw[l,ajy]at a;have w:xs[i]<=xs[i-1]:=(by simpa using a);simp[uJ,h,c,d,e,s,t,l,b,w,jv,qd (i:=i) b Zs]
def Xl(d:U5 m v xs)(hb:xs.length<20000)(n a:Nat)(e:20000<=a):
   l9 KW a (n+2) (.func 190) [v] m=some [⟨.bool (Z9 (okB xs) xs.length 0&&decide (xs.length<=6)),m⟩]:=by
 rw[en f190];have f:=d.len;obtain⟨x,k,g,h,c,b⟩:=abt d Zs n a xs.length 0 Zs a Zs uV uV;cases ha:Z9 (okB xs) xs.length 0<;>rw[ha]at b<;>simp only[cond_true,cond_false]at b<;>subst b<;>simp[f190]at c ⊢ <;>simp[c,f]
 omega
def abu(d:m.Ok){day:Int}(r:U5 (ext m [j6 [iV day,v]]) v xs)(hb:xs.length<1000000)(n s:Nat):
   ∀(j i:Nat),i+j=xs.length->∀(N:Nat),j<N->∀(a0 a1 a2 a3:j5),
    ∃x k b0 b1 b2 b3,I9 (λenv m k=>uK (l9 KW s (n+2)) s none env m k) N (zW (.agg [iV day,v]) (.ptr m.nx 0) (iN i) (iN (xs.length)) a0 v a1 a2 a3 fV) (ext m [j6 [iV day,v]]) []=some [⟨x,(zW (.agg [iV day,v]) (.ptr m.nx 0) (iN k) (iN (xs.length)) b0 v b1 b2 b3 fV),(ext m [j6 [iV day,v]]),[],none⟩]∧x=(bif Z9 (okB xs) j i then bQ.exit 0 else .ret):=by
 intro j;induction j with
 |zero=>
  intro i F N E a0 a1 a2 a3;obtain⟨N,rfl⟩:=sx N;refine⟨.exit 0,i,fV,a1,a2,a3,?_,rfl⟩;rw[o7];have h:¬ i<xs.length:=Zs
  have c:=r.len;simp[uK,h,c,l8 d]
 |succ j ih=>
  intro i F N E a0 a1 a2 a3;obtain⟨N,rfl⟩:=sx N;have h:i<xs.length:=Zs
  have c:=r.len;obtain⟨p,e,_,f⟩:=r.at h;have B:=kR h;have g:okB xs i=true->∃x k b0 b1 b2 b3,I9 (λenv m k=>uK (l9 KW s (n+2)) s none env m k) (N+1) (zW (.agg [iV day,v]) (.ptr m.nx 0) (iN i) (iN (xs.length)) a0 v a1 a2 a3 fV) (ext m [j6 [iV day,v]]) []=some [⟨x,(zW (.agg [iV day,v]) (.ptr m.nx 0) (iN k) (iN (xs.length)) b0 v b1 b2 b3 fV),(ext m [j6 [iV day,v]]),[],none⟩]∧x=(bif Z9 (okB xs) (j+1) i then bQ.exit 0 else .ret):=by
   intro a;obtain⟨x,k,b0,b1,b2,b3,C,D⟩:=ih (i+1) Zs N Zs tV ((iV xs[i])) ((iV (i:Nat))) fV;refine⟨x,k,b0,b1,b2,b3,?_,by rw[D];simp[Z9,a]⟩;rw[o7,← C];simp only[okB,B,oo,ate,ck]at a;obtain⟨⟨z,A⟩,w⟩:=a;by_cases h0:i=0;have b:¬ 0<i:=Zs
   simp[uK,h,c,e,f,z,A,b,pF,I4 (i:=i) Zs,l8 d];have l:i-1<xs.length:=Zs
   obtain⟨q,t,_,u⟩:=r.at l;have w:=w.resolve_left h0;rw[kR l]at w;have b:0<i:=Zs
   have y:¬ xs[i]<=xs[i-1]:=Zs
   simp[uK,h,c,e,f,t,u,z,A,b,y,pF,I4 (i:=i) Zs,qd (i:=i) b Zs,l8 d]
  cases a:okB xs i with
  |true=>exact g a
  |false=>
   refine⟨.ret,i,tV,iV xs[i],iV (i:Nat),tV,?_,by simp[Z9,a]⟩;rw[o7];simp only[okB,B]at a;by_cases h0:i=0;have o:(decide (1<=xs[i])&&decide (xs[i]<=1099511627776))=false:=by simpa[h0]using a
   simp[uK,h,c,e,f,o,pF,l8 d];have l:i-1<xs.length:=Zs
   obtain⟨q,t,_,u⟩:=r.at l;have b:0<i:=Zs
   rw[kR l,show decide (i=0)=false from decide_eq_false h0,avY]at a;cases o:(decide (1<=xs[i])&&decide (xs[i]<=1099511627776))with
   |false=>simp[uK,h,c,e,f,o,pF,l8 d]
   |true=>rw[o,ajy]at a;have y:xs[i]<=xs[i-1]:=(by simpa using a);simp[uK,h,c,e,f,t,u,o,b,y,pF,qd (i:=i) b Zs,l8 d]
def aej(c:m.Ok){day:Int}(a:U5 m v xs)(hb:xs.length<20000)(n b:Nat)(i:20000<=b):
   l9 KW b (n+3) (.func 219) [.agg [iV day,v]] m=some [⟨.bool (Z9 (okB xs) xs.length 0&&((decide (0<=day)&&decide (day<=19999))&&(decide (2<=xs.length)&&decide (xs.length<=5)))),ext m [j6 [iV day,v]]⟩]:=by
 rw[en f219];have a:=a.ext (o8 c [j6 [iV day,v]]);have f:=a.len;have q:v.cells=[v]:=a.cells;obtain⟨x,k,j,l,o,p,d,e⟩:=abu c a Zs n b xs.length 0 Zs b Zs uV uV uV uV;have g:decide (2<=((xs.length:Nat):Int))=decide (2<=xs.length):=by rw[acv];simp;omega
 have h:decide (((xs.length:Nat):Int)<=5)=decide (xs.length<=5):=by rw[acv];simp;omega
 cases ha:Z9 (okB xs) xs.length 0<;>rw[ha]at e<;>simp only[cond_true,cond_false]at e<;>subst e<;>simp[f219,f,o9,l8 c]at d ⊢
 simp[d];simp +contextual [d,f,l8 c,gW,jX,eB,g,h]
@[simp] theorem agX:iR nS nS=some true:=id rfl
def abv(x:Int)(n a:Nat)(b:20000<=a)(m:cD):l9 KW a (n+1) (.func 237) [nS,iV x] m=some [⟨iV (.negSucc 0),m⟩]:=by rw[en f237];obtain⟨N,rfl⟩:∃M,a=M+1:=⟨a-1,Zs⟩;simp[f237,o7,Vj]
def abw(x:Int)(n a:Nat)(b:20000<=a)(m:cD):l9 KW a (n+2) (.func 250) [nS,iV x] m=some [⟨fV,m⟩]:=by rw[en f250];simp[f250,abv x n a b]
variable {p:Nat}
def abx(x:Int)(n a:Nat)(b:20000<=a)(hp:m.get p=some (j6 [nS])):l9 KW a (n+3) (.func 364) [iV x,.ptr p 0] m=some [⟨fV,m⟩]:=by rw[en ahT];simp[ahT,hp,abw x n a b]
def aby(l:U5 m v xs)(hp:m.get p=some (j6 [nS]))(hb:xs.length<1000000)(n a:Nat)(b:20000<=a):
   ∀(j i:Nat),i+j=xs.length->∀(N:Nat),j<N->∀(a0 a1 a2:j5),
    ∃k b0 b1 b2,I9 (λenv m k=>oN (l9 KW a (n+3)) a none env m k) N (zV v (iN i) (iN (xs.length)) a0 (.func (.func 364) [] [.ptr p 0]) a1 a2 iZ) m []=some [⟨.exit 0,(zV v (iN k) (iN (xs.length)) b0 (.func (.func 364) [] [.ptr p 0]) b1 b2 iZ),m,[],none⟩]:=by
 intro j;induction j with
 |zero=>
  intro i g N f a0 a1 a2;obtain⟨N,rfl⟩:=sx N;refine⟨i,fV,a1,a2,?_⟩;rw[o7];have h:¬ i<xs.length:=Zs
  simp[oN,h]
 |succ j ih=>
  intro i g N f a0 a1 a2;obtain⟨N,rfl⟩:=sx N;have h:i<xs.length:=Zs
  obtain⟨q,c,_,d⟩:=l.at h;obtain⟨k,b0,b1,b2,e⟩:=ih (i+1) Zs N Zs tV (iV i) fV;refine⟨k,b0,b1,b2,?_⟩;rw[o7,← e];simp[oN,h,c,d,abx _ n a b hp,I4 (i:=i) Zs]
def abz(d:U5 m v xs)(hp:m.get p=some (j6 [nS]))(hb:xs.length<20000)(n a:Nat)(b:20000<=a):
   l9 KW a (n+4) (.func 143) [v,.func (.func 364) [] [.ptr p 0]] m=some [⟨iV (.negSucc 0),m⟩]:=by
 rw[en f143];have e:=d.len;obtain⟨k,f,g,h,c⟩:=aby d hp Zs n a b xs.length 0 Zs a Zs uV uV uV;simp[f143,e]at c ⊢;simp[c]
def abA(c:U5 m v xs)(hp:m.get p=some (j6 [nS]))(hb:xs.length<20000)(n a:Nat)(b:20000<=a):
   l9 KW a (n+5) (.func 363) [v,.func (.func 364) [] [.ptr p 0]] m=some [⟨v,m⟩]:=by
 rw[en ab9];simp[ab9,abz c hp hb n a b]
def Il(j:m.Ok)(C:m.lim<=m.nx)(p:U5 m v xs)(hb:xs.length<20000)(n u:Nat):
   ∃v' m',l9 KW u (n+1) (.func 136) [v] m=some [⟨v',m'⟩]∧cE m m'∧U5 m' v' xs:=by
 rw[en f136];rcases p with⟨rfl,rfl⟩|p;refine⟨nS,m,?_,cE.refl j,.inl ⟨rfl,rfl⟩⟩;simp[f136];have d:U5 m v xs:=.inr p;have k:iR v nS=some false:=by obtain⟨id,⟨c,rfl⟩|⟨c,rfl⟩,_⟩:=p<;>rfl
 have E:jR 1 0 [] (λb=>some (j5.slice m.nx 0 0 0,some b))=some (.slice m.nx 0 0 0,some (.cells 1 0 (T.ofList []))):=rfl;have q:∀z h,J2 1 0 z [] [] h m.nx=some (.slice m.nx 0 0 0,some (.cells 1 0 (T.ofList []))):=λz h=>rfl;have o:U5 (m.new (.cells 1 0 (T.ofList []))) v xs:=d.ext ((cE.refl j).new _);cases hx:xs with
 |nil=>
  subst hx;refine⟨.slice m.nx 0 0 0,m.new (.cells 1 0 (T.ofList [])),?_,(cE.refl j).new _,.inr ⟨(m.nx,0),.inl ⟨0,rfl⟩,ZZ,.inl rfl⟩⟩;have a:∀(l r:T j5) g,lu 1 8 N9 (G5 gH) g [.slice m.nx 0 0 0] (.nd l v r) (m.new (.cells 1 0 (T.ofList [])))=some [⟨.slice m.nx 0 0 0,m.new (.cells 1 0 (T.ofList []))⟩]:=by intro l r g;show ob (Go.AM.lenOf v) (λn=>ob (Z8 _ 1 n v) λf=>jS _ 1 8 n f (.slice m.nx 0 0 0))=_;rw[d.lenOf];simp only[I6,aww];have:=o.read;rw[aww]at this;rw[this];rfl
  simp[f136,k,q,a]
 |cons x xs'=>
  obtain⟨m',w,y,A⟩:=UK (m:=m.new (.cells 1 0 (T.ofList []))) (cD.Ok.new j _) xs;refine⟨_,m',?_,((cE.refl j).new _).trans y,by rw[← hx];exact A⟩;have a:∀(l r:T j5) g,lu 1 8 N9 (G5 gH) g [.slice m.nx 0 0 0] (.nd l v r) (m.new (.cells 1 0 (T.ofList [])))=some [⟨.sliceU (m.new (.cells 1 0 (T.ofList []))).nx 0 xs.length 1,m'⟩]:=by
   intro l r g;show ob (Go.AM.lenOf v) (λn=>ob (Z8 _ 1 n v) λf=>jS _ 1 8 n f (.slice m.nx 0 0 0))=_;rw[d.lenOf];simp only[I6];rw[o.read];simp only[I6];show gF _ 1 8 xs.length (ints xs) m.nx 0 0 0=_;unfold gF;have D:0<xs.length:=by rw[hx];simp
   rw[show ble (Nat.add 0 xs.length) 0=false from by
    cases hb':ble (Nat.add 0 xs.length) 0 with
    |false=>rfl
    |true=>
     have B:=D5 hb';have s:Nat.add 0 xs.length=xs.length:=P7 _;rw[s]at B;omega]
   rw[bA];have i:big (Nat.add 0 xs.length) 8 1=true:=by have e:Nat.add 0 xs.length=xs.length:=P7 _;unfold big;rw[e,show ble (Nat.mul (Nat.add (Nat.mul 2 xs.length) 2048) 8) 281474976710656=true from l7 (by show(2*xs.length+2048)*8<=281474976710656;omega)];rfl
   rw[i,aC];show ob (Z6 _ m.nx 0 (Nat.mul 0 1)) _=_;have e:Nat.mul 0 1=0:=rfl;rw[e];show grown (m.new (.cells 1 0 (T.ofList []))) 1 (Nat.add 0 xs.length) (dK [] (ints xs))=_;have t:Nat.add 0 xs.length=xs.length:=P7 _;rw[t,V9,O9,w]
  simp[f136,k,q,a]
def Zc(b:m.Ok)(j:m.lim<=m.nx)(i:U5 m v xs)(hb:xs.length<20000)(n a:Nat)(d:20000<=a):
   ∃v' m',l9 KW a (n+6) (.func 258) [v,nS] m=some [⟨v',m'⟩]∧cE m m'∧U5 m' v' xs:=by
 rw[en f258];have e:=i.ext (o8 b [j6 [nS]]);obtain⟨v',m',g,f,c⟩:=Il (m:=ext m [j6 [nS]]) (I7 b _) ZD e hb (n+4) a;have h:m'.get m.nx=some (j6 [nS]):=by rw[f.old _ ZZ];rw[l8 b];rfl
 refine⟨v',m',?_,(o8 b _).trans f,c⟩;simp[f258,o9,g,c.aL,abA c h hb n a d]
def Vt(i:m.Ok)(h:m.lim<=m.nx)(f:U5 m v xs)(n d:Nat)(e:20000<=d):
   l9 KW d (n+6) (.func 258) [nS,v] m=some [⟨nS,ext m [j6 [v]]⟩]:=by
 rw[en f258];obtain⟨N,rfl⟩:∃M,d=M+1:=⟨d-1,Zs⟩;have g:=f.cells;have b:l9 KW (N+1) (n+5) (.func 136) [nS] (ext m [j6 [v]])=some [⟨nS,ext m [j6 [v]]⟩]:=by rw[en f136];simp[f136]
 have a:l9 KW (N+1) (n+4) (.func 143) [nS,.func (.func 364) [] [.ptr m.nx 0]] (ext m [j6 [v]])=some [⟨iV (.negSucc 0),ext m [j6 [v]]⟩]:=by rw[en f143];simp[f143,o7,oN]
 have c:l9 KW (N+1) (n+5) (.func 363) [nS,.func (.func 364) [] [.ptr m.nx 0]] (ext m [j6 [v]])=some [⟨nS,ext m [j6 [v]]⟩]:=by rw[en ab9];simp[ab9,a]
 simp[f258,o9,g,b,c]
def aek(g:m.Ok)(l:m.lim<=m.nx)(e:U5 m v xs)(hb:xs.length<20000)(n b:Nat)(a:20000<=b):
   ∃v1 v2 m',l9 KW b (n+7) (.func 416) [v,nS] m=some [⟨.tuple [v1,v2,iV (bif (Z9 (okB xs) xs.length 0&&decide (xs.length<=6))then 0 else 1)],m'⟩]∧cE m m':=by
 rw[en ae9];have d:=Xk e hb (n+4) b a;have h:l9 KW b (n+6) (.func 393) [nS] m=some [⟨tV,m⟩]:=Xk (m:=m) (v:=nS) (xs:=[]) (.inl ⟨rfl,rfl⟩) ZZ (n+4) b a;cases ha:(Z9 (okB xs) xs.length 0&&decide (xs.length<=6))with
 |false=>rw[ha]at d;refine⟨nS,nS,m,?_,cE.refl g⟩;simp[ae9,d]
 |true=>rw[ha]at d;obtain⟨o,m',j,c,k⟩:=Zc g l e hb n b a;have f:=e.ext c;have i:=Vt (m:=m') c.ok (by have p:=c.lim;have q:=c.nx;omega) f n b a;refine⟨o,nS,ext m' [j6 [v]],?_,c.trans (o8 c.ok _)⟩;simp[ae9,d,h,j,k.aL,i]
def Xm(f:m.Ok)(e:m.lim<=m.nx)(g:U5 m v xs)(hb:xs.length<20000)(n a:Nat)(b:20000<=a):
   ∃m',l9 KW a (n+8) (.func 340) [v] m=some [⟨.bool (Z9 (okB xs) xs.length 0&&decide (xs.length<=6)),m'⟩]∧cE m m':=by
 rw[en f340];obtain⟨h,i,m',c,d⟩:=aek f e g hb n a b;refine⟨m',?_,d⟩;cases ha:(Z9 (okB xs) xs.length 0&&decide (xs.length<=6))<;>rw[ha]at c<;>simp[f340,c]
def ael(o:U5 m v xs)(A:U5 m w a)(B:a.length=xs.length)(hb:xs.length<1000000)(cf:G6)(r:Nat)(e:j5):
   ∀(j i:Nat),i+j=xs.length->∀(N:Nat),j<N->∀(a4 a5:j5),
    ∃x k b4 b5,I9 (λenv m k=>Nn cf r none env m k) N (Da v w e (iN i) a4 a5 fV) m []=some [⟨x,(Da v w e (iN k) b4 b5 fV),m,[],none⟩]∧
     x=(if xs.drop i=a.drop i then bQ.exit 0 else .ret):=by
 have d:=o.len;intro j;induction j with
 |zero=>
  intro i z N u a4 a5;obtain⟨N,rfl⟩:=sx N;refine⟨.exit 0,i,fV,a5,?_,?_⟩;rw[o7];have h:¬ i<xs.length:=Zs
  simp[Nn,h,d];rw[su Zs,su Zs];rfl
 |succ j ih=>
  intro i z N u a4 a5;obtain⟨N,rfl⟩:=sx N;have h:i<xs.length:=Zs
  have c:i<a.length:=Zs
  obtain⟨p,f,_,g⟩:=o.at h;obtain⟨q,l,_,n⟩:=A.at c;by_cases he:xs[i]=a[i];obtain⟨x,k,b4,b5,s,t⟩:=ih (i+1) Zs N Zs tV fV;refine⟨x,k,b4,b5,?_,?_⟩;rw[o7,← s];simp[Nn,h,d,f,g,l,n,he,I4 (i:=i) Zs];rw[t];have y:(xs.drop i=a.drop i)↔(xs.drop (i+1)=a.drop (i+1)):=by rw[zu h,zu c,he];exact⟨λb=>(akk b).2,λb=>by rw[b]⟩
  simp only[y];refine⟨.ret,i,tV,tV,?_,?_⟩;rw[o7];simp[Nn,h,d,f,g,l,n,he];rw[aE];intro b;rw[zu h,zu c]at b;exact he (akk b).1
def PW{ys:cQ}(f:U5 m v xs)(g:U5 m w ys)(hb:xs.length<20000)(n b:Nat)(o:20000<=b):
   l9 KW b (n+1) (.func 38) [v,w] m=some [⟨.bool (decide (xs=ys)),m⟩]:=by
 rw[en f38];have d:=f.len;have e:=g.len;by_cases hxy:ys.length=xs.length;obtain⟨x,k,p,q,c,a⟩:=ael f g hxy Zs (l9 KW b n) b fV xs.length 0 Zs b Zs uV uV;have a:x=if xs=ys then bQ.exit 0 else .ret:=a
 by_cases he:xs=ys;rw[cg he]at a;subst a;simp[f38,d,e,hxy,he]at c ⊢;simp[c];rw[aE he]at a;subst a;simp[f38,d,e,hxy,he]at c ⊢;simp[c];have i:¬ xs.length=ys.length:=λh=>hxy h.symm;have j:¬ xs=ys:=λh=>i (by rw[h]);have l:¬ ((xs.length:Nat):Int)=((ys.length:Nat):Int):=Zs
 simp[f38,d,e,l,j]
structure aR(m:cD)(f:D6)(xa xb xl:cQ):Prop where
 a:U5 m f.A xa
 b:U5 m f.B xb
 l:U5 m f.L xl
 la:xa.length<20000
 lb:xb.length<20000
 ll:xl.length<20000
variable {f:D6}{b l:cQ}
def aR.ext{c:cD}(h:cE m c)(k:aR m f a b l):aR c f a b l:=⟨k.a.ext h,k.b.ext h,k.l.ext h,k.la,k.lb,k.ll⟩
def aR.same(k:aR m f a b l):bg 100 (.agg f.cells) (.agg f.cells)=true:=by rw[vJ];simp[D6.cells,FB,JV,G8,gG k.a,gG k.b,gG k.l]
def nW(f g:D6)(a b a' b':cQ):Bool:=
 decide (f.cid=g.cid)&&(decide (f.cday=g.cday)&&(decide (f.diff=g.diff)&&(decide (f.err=g.err)&&(decide (f.hlo=g.hlo)&&(decide (f.hhi=g.hhi)&&(decide (a=a')&&decide (b=b')))))))
def D6.cmp(f:D6):cM:=[iV f.cid,iV f.cday,f.A,f.B,iV f.diff,iV f.err,iV f.hlo,iV f.hhi]
@[simp] theorem D6.asY(f:D6):f.cmp.length=8:=id rfl
@[simp] theorem D6.asZ(f:D6):(f.cmp.drop 6).take 2=[iV f.hlo,iV f.hhi]:=id rfl
@[simp] theorem D6.bD(f:D6):[iV f.cid,iV f.cday,f.A,f.B,iV f.diff,iV f.err,iV f.hlo,iV f.hhi]=f.cmp:=id rfl
@[simp] theorem D6.k0(f:D6)(h:0<f.cmp.length):f.cmp[0]'h=j5.int .i64 f.cid:=id rfl
@[simp] theorem D6.k1(f:D6)(h:1<f.cmp.length):f.cmp[1]'h=j5.int .i64 f.cday:=id rfl
@[simp] theorem D6.k2(f:D6)(h:2<f.cmp.length):f.cmp[2]'h=f.A:=id rfl
@[simp] theorem D6.k3(f:D6)(h:3<f.cmp.length):f.cmp[3]'h=f.B:=id rfl
@[simp] theorem D6.k4(f:D6)(h:4<f.cmp.length):f.cmp[4]'h=j5.int .i64 f.diff:=id rfl
@[simp] theorem D6.k5(f:D6)(h:5<f.cmp.length):f.cmp[5]'h=j5.int .i64 f.err:=id rfl
@[simp] theorem D6.k6(f:D6)(h:6<f.cmp.length):f.cmp[6]'h=j5.int .i64 f.hlo:=id rfl
@[simp] theorem D6.k7(f:D6)(h:7<f.cmp.length):f.cmp[7]'h=j5.int .i64 f.hhi:=id rfl
variable {g:D6}{a' b':cQ}
def aem{k:cQ}(c:m.Ok)(hf:aR m f a b l)(h:aR m g a' b' k)(n e:Nat)(d:20000<=e):
   l9 KW e (n+2) (.func 223) [.agg f.cmp,.agg g.cmp] m=some [⟨.bool (nW f g a b a' b'),ext m [j6 f.cmp,j6 g.cmp]⟩]:=by
 rw[en f223];have hf:=hf.ext (o8 c [j6 f.cmp,j6 g.cmp]);have h:=h.ext (o8 c [j6 f.cmp,j6 g.cmp]);have i:=PV hf.a h.a hf.la n e d;have j:=PV hf.b h.b hf.lb n e d;by_cases h0:f.cid=g.cid;by_cases h1:f.cday=g.cday;by_cases h2:f.diff=g.diff;by_cases h3:f.err=g.err;by_cases h4:f.hlo=g.hlo;by_cases h5:f.hhi=g.hhi;by_cases h6:a=a';by_cases h7:b=b';simp[f223,o9,A8,l8 c,r9 c,i,j,nW,h0,h1,h2,h3,h4,h5,h6,h7];simp[f223,o9,A8,l8 c,r9 c,i,j,nW,h0,h1,h2,h3,h4,h5,h6,h7];simp[f223,o9,A8,l8 c,r9 c,i,nW,h0,h1,h2,h3,h4,h5,h6];simp[f223,o9,A8,l8 c,r9 c,nW,h0,h1,h2,h3,h4,h5];simp[f223,o9,A8,l8 c,r9 c,nW,h0,h1,h2,h3,h4];simp[f223,o9,A8,l8 c,r9 c,nW,h0,h1,h2,h3];simp[f223,o9,A8,l8 c,r9 c,nW,h0,h1,h2];simp[f223,o9,A8,l8 c,r9 c,nW,h0,h1];simp[f223,o9,A8,l8 c,r9 c,nW,h0]
def aif{k:cQ}(c:m.Ok)(hf:aR m f a b l)(j:aR m g a' b' k)(n i:Nat)(h:20000<=i):
   l9 KW i (n+2) (.func 67) [.agg f.cmp,.agg g.cmp] m=some [⟨.bool (nW f g a b a' b'),ext m [j6 f.cmp,j6 g.cmp]⟩]:=by
 rw[en f67];have hf:=hf.ext (o8 c [j6 f.cmp,j6 g.cmp]);have j:=j.ext (o8 c [j6 f.cmp,j6 g.cmp]);have d:=PW hf.a j.a hf.la n i h;have e:=PW hf.b j.b hf.lb n i h;by_cases h0:a=a';by_cases h1:b=b';by_cases h2:f.cid=g.cid;by_cases h3:f.cday=g.cday;by_cases h4:f.diff=g.diff;by_cases h5:f.err=g.err;by_cases h6:f.hlo=g.hlo;by_cases h7:f.hhi=g.hhi;simp[f67,o9,A8,l8 c,r9 c,d,e,nW,h0,h1,h2,h3,h4,h5,h6,h7];simp[f67,o9,A8,l8 c,r9 c,d,e,nW,h0,h1,h2,h3,h4,h5,h6,h7];simp[f67,o9,A8,l8 c,r9 c,d,e,nW,h0,h1,h2,h3,h4,h5,h6];simp[f67,o9,A8,l8 c,r9 c,d,e,nW,h0,h1,h2,h3,h4,h5];simp[f67,o9,A8,l8 c,r9 c,d,e,nW,h0,h1,h2,h3,h4];simp[f67,o9,A8,l8 c,r9 c,d,e,nW,h0,h1,h2,h3];simp[f67,o9,A8,l8 c,r9 c,d,e,nW,h0,h1,h2];simp[f67,o9,A8,l8 c,r9 c,d,e,nW,h0,h1];simp[f67,o9,A8,l8 c,r9 c,d,e,nW,h0]
set_option maxRecDepth 100000
set_option maxHeartbeats 2000000
def eH(f g:D6):Bool:=(decide (f.room=g.room)&&decide (f.no=g.no))&&(decide (f.known=g.known)&&(decide (f.kind=g.kind)&&((decide (f.flo=g.flo)&&decide (f.fhi=g.fhi))&&((decide (f.gid=g.gid)&&(decide (f.made=g.made)&&(decide (f.nom=g.nom)&&(decide (f.tlo=g.tlo)&&(decide (f.thi=g.thi)&&(decide (f.gn=g.gn)&&(decide (f.gd=g.gd)&&decide (f.wear=g.wear))))))))&&((decide (f.ug=g.ug)&&decide (f.ud=g.ud))&&((decide (f.lg=g.lg)&&(decide (f.ll=g.ll)&&(decide (f.lh=g.lh)&&decide (f.lw=g.lw))))&&((decide (f.tr=g.tr)&&decide (f.tn=g.tn)))))))))
def bX(f g:D6)(a b l a' b' l':cQ):Bool:=eH f g&&(nW f g a b a' b'&&(decide (f.mday=g.mday)&&decide (l=l')))
def D6.nm(f:D6):Y9:=j6 [iV f.room,iV f.no]
def Xn{u:cQ}(c:m.Ok)(v:m.lim<=m.nx)(hf:aR m f a b l)(r:aR m g a' b' u)(n i:Nat)(k:20000<=i):
   l9 KW i (n+3) (.func 138) [.agg f.cells,.agg g.cells] m=some [⟨.bool (bX f g a b l a' b' u),ext m ([j6 f.cells,j6 g.cells,j6 f.cells,f.nm,j6 g.cells,g.nm]++(bif eH f g then[j6 f.cmp,j6 g.cmp]else[]))⟩]:=by
 rw[en f138];have w:=hf.same;have h:=r.same;have d:=PU (n+1) i f (ext m [j6 f.cells,j6 g.cells]) (I7 c _) ZD;have e:=PU (n+1) i g (ext m [j6 f.cells,j6 g.cells,j6 f.cells,f.nm]) (I7 c _) ZD;have p:=hf.ext (o8 c [j6 f.cells,j6 g.cells,j6 f.cells,f.nm,j6 g.cells,g.nm]);have s:=r.ext (o8 c [j6 f.cells,j6 g.cells,j6 f.cells,f.nm,j6 g.cells,g.nm]);have j:=aem (I7 c _) p s n i k;have q:=hf.ext (o8 c [j6 f.cells,j6 g.cells,j6 f.cells,f.nm,j6 g.cells,g.nm,j6 f.cmp,j6 g.cmp]);have t:=r.ext (o8 c [j6 f.cells,j6 g.cells,j6 f.cells,f.nm,j6 g.cells,g.nm,j6 f.cmp,j6 g.cmp]);have o:=PV q.l t.l hf.ll (n+1) i k;simp only[D6.nm]at d e j o ⊢;cases h0:(decide (f.room=g.room)&&decide (f.no=g.no))with
 |true=>
  cases h1:decide (f.known=g.known)with
  |true=>
   cases h2:decide (f.kind=g.kind)with
   |true=>
    cases h3:(decide (f.flo=g.flo)&&decide (f.fhi=g.fhi))with
    |true=>
     cases h4:(decide (f.gid=g.gid)&&(decide (f.made=g.made)&&(decide (f.nom=g.nom)&&(decide (f.tlo=g.tlo)&&(decide (f.thi=g.thi)&&(decide (f.gn=g.gn)&&(decide (f.gd=g.gd)&&decide (f.wear=g.wear))))))))with
     |true=>
      cases h5:(decide (f.ug=g.ug)&&decide (f.ud=g.ud))with
      |true=>
       cases h6:(decide (f.lg=g.lg)&&(decide (f.ll=g.ll)&&(decide (f.lh=g.lh)&&decide (f.lw=g.lw))))with
       |true=>
        cases h7:(decide (f.tr=g.tr)&&decide (f.tn=g.tn))with
        |true=>
         cases h8:nW f g a b a' b' with
         |true=>
          cases h9:decide (f.mday=g.mday)with
          |true=>
           cases h10:decide (l=u)with
           |true=>simp[f138,o9,A8,l8 c,r9 c,d,e,j,o,h,bX,eH,h0,h1,h2,h3,h4,h5,h6,h7,h8,h9,h10]
           |false=>simp[f138,o9,A8,l8 c,r9 c,d,e,j,o,h,bX,eH,h0,h1,h2,h3,h4,h5,h6,h7,h8,h9,h10]
          |false=>simp[f138,o9,A8,l8 c,r9 c,d,e,j,h,bX,eH,h0,h1,h2,h3,h4,h5,h6,h7,h8,h9]
         |false=>simp[f138,o9,A8,l8 c,r9 c,d,e,j,h,bX,eH,h0,h1,h2,h3,h4,h5,h6,h7,h8]
        |false=>simp[f138,o9,A8,l8 c,r9 c,d,e,h,bX,eH,h0,h1,h2,h3,h4,h5,h6,h7]
       |false=>simp[f138,o9,A8,l8 c,r9 c,d,e,h,bX,eH,h0,h1,h2,h3,h4,h5,h6]
      |false=>simp[f138,o9,A8,l8 c,r9 c,d,e,h,bX,eH,h0,h1,h2,h3,h4,h5]
     |false=>simp[f138,o9,A8,l8 c,r9 c,d,e,h,bX,eH,h0,h1,h2,h3,h4]
    |false=>simp[f138,o9,A8,l8 c,r9 c,d,e,h,bX,eH,h0,h1,h2,h3]
   |false=>simp[f138,o9,A8,l8 c,r9 c,d,e,h,bX,eH,h0,h1,h2]
  |false=>simp[f138,o9,A8,l8 c,r9 c,d,e,h,bX,eH,h0,h1]
 |false=>simp[f138,o9,A8,l8 c,r9 c,d,e,h,bX,eH,h0]
def PX{q:cQ}(c:m.Ok)(hf:aR m f a b l)(r:aR m g a' b' q)(n i:Nat)(h:20000<=i):
   l9 KW i (n+3) (.func 18) [.agg f.cells,.agg g.cells] m=some [⟨.bool (bX f g a b l a' b' q),ext m [j6 f.cells,j6 g.cells,j6 f.cmp,j6 g.cmp]⟩]:=by
 rw[en f18];have j:=hf.ext (o8 c [j6 f.cells,j6 g.cells]);have o:=r.ext (o8 c [j6 f.cells,j6 g.cells]);have d:=aif (I7 c _) j o n i h;have k:=hf.ext (o8 c [j6 f.cells,j6 g.cells,j6 f.cmp,j6 g.cmp]);have p:=r.ext (o8 c [j6 f.cells,j6 g.cells,j6 f.cmp,j6 g.cmp]);have e:=PW k.l p.l hf.ll (n+1) i h;cases h0:decide (f.room=g.room)with
 |true=>
  cases h1:decide (f.no=g.no)with
  |true=>
   cases h2:decide (f.known=g.known)with
   |true=>
    cases h3:decide (f.kind=g.kind)with
    |true=>
     cases h4:(decide (f.flo=g.flo)&&decide (f.fhi=g.fhi))with
     |true=>
      cases h5:(decide (f.gid=g.gid)&&(decide (f.made=g.made)&&(decide (f.nom=g.nom)&&(decide (f.tlo=g.tlo)&&(decide (f.thi=g.thi)&&(decide (f.gn=g.gn)&&(decide (f.gd=g.gd)&&decide (f.wear=g.wear))))))))with
      |true=>
       cases h6:(decide (f.ug=g.ug)&&decide (f.ud=g.ud))with
       |true=>
        cases h7:(decide (f.lg=g.lg)&&(decide (f.ll=g.ll)&&(decide (f.lh=g.lh)&&decide (f.lw=g.lw))))with
        |true=>
         cases h8:nW f g a b a' b' with
         |true=>
          cases h9:decide (f.mday=g.mday)with
          |true=>
           cases h10:decide (l=q)with
           |true=>
            cases h11:(decide (f.tr=g.tr)&&decide (f.tn=g.tn))with
            |true=>simp[f18,o9,A8,l8 c,r9 c,d,e,bX,eH,h0,h1,h2,h3,h4,h5,h6,h7,h8,h9,h10,h11]
            |false=>simp[f18,o9,A8,l8 c,r9 c,d,e,bX,eH,h0,h1,h2,h3,h4,h5,h6,h7,h8,h9,h10,h11]
           |false=>simp[f18,o9,A8,l8 c,r9 c,d,e,bX,eH,h0,h1,h2,h3,h4,h5,h6,h7,h8,h9,h10]
          |false=>simp[f18,o9,A8,l8 c,r9 c,d,e,bX,eH,h0,h1,h2,h3,h4,h5,h6,h7,h8,h9]
         |false=>simp[f18,o9,A8,l8 c,r9 c,d,e,bX,eH,h0,h1,h2,h3,h4,h5,h6,h7,h8]
        |false=>simp[f18,o9,A8,l8 c,r9 c,d,e,bX,eH,h0,h1,h2,h3,h4,h5,h6,h7]
       |false=>simp[f18,o9,A8,l8 c,r9 c,d,e,bX,eH,h0,h1,h2,h3,h4,h5,h6]
      |false=>simp[f18,o9,A8,l8 c,r9 c,d,e,bX,eH,h0,h1,h2,h3,h4,h5]
     |false=>simp[f18,o9,A8,l8 c,r9 c,d,e,bX,eH,h0,h1,h2,h3,h4]
    |false=>simp[f18,o9,A8,l8 c,r9 c,d,e,bX,eH,h0,h1,h2,h3]
   |false=>simp[f18,o9,A8,l8 c,r9 c,d,e,bX,eH,h0,h1,h2]
  |false=>simp[f18,o9,A8,l8 c,r9 c,d,e,bX,eH,h0,h1]
 |false=>simp[f18,o9,A8,l8 c,r9 c,d,e,bX,eH,h0]
def aG(f:D6):D6:={room:=f.room,no:=f.no,known:=f.known,kind:=f.kind,flo:=0,fhi:=0,gid:=0,made:=0,nom:=0,tlo:=0,thi:=0,gn:=0,gd:=0,wear:=0,ug:=0,ud:=0,lg:=0,ll:=0,lh:=0,lw:=0,cid:=0,cday:=0,A:=nS,B:=nS,diff:=0,err:=0,hlo:=0,hhi:=0,mday:=0,L:=nS,tr:=0,tn:=0}
def U3(f:D6):D6:=if f.kind=1 then {aG f with flo:=f.flo,fhi:=f.fhi} else if f.kind=2 then {aG f with gid:=f.gid,made:=f.made,nom:=f.nom,tlo:=f.tlo,thi:=f.thi,gn:=f.gn,gd:=f.gd,wear:=f.wear} else if f.kind=3 then {aG f with ug:=f.ug,ud:=f.ud} else if f.kind=4 then {aG f with lg:=f.lg,ll:=f.ll,lh:=f.lh,lw:=f.lw} else if f.kind=5 then {aG f with cid:=f.cid,cday:=f.cday,A:=f.A,B:=f.B,diff:=f.diff,err:=f.err,hlo:=f.hlo,hhi:=f.hhi} else if f.kind=6 then {aG f with mday:=f.mday,L:=f.L} else if f.kind=7 then {aG f with tr:=f.tr,tn:=f.tn} else aG f
def Xo(hf:aR m f a b l):aR m (U3 f) (if f.kind=5 then a else[]) (if f.kind=5 then b else[]) (if f.kind=6 then l else[]):=by
 have c:U5 m nS []:=.inl ⟨rfl,rfl⟩;by_cases h5:f.kind=5;refine⟨?_,?_,?_,?_,?_,?_⟩<;>simp[U3,h5,aG,hf.a,hf.b,hf.la,hf.lb,c]
 ·by_cases h6:f.kind=6;refine⟨?_,?_,?_,?_,?_,?_⟩<;>simp[U3,h6,aG,hf.l,hf.ll,c]
  ·have e:(U3 f).A=nS∧(U3 f).B=nS∧(U3 f).L=nS:=by
    unfold U3;simp only[h5,h6,if_false];repeat' split
    all_goals exact⟨rfl,rfl,rfl⟩
   simp only[h5,h6,if_false];exact⟨by rw[e.1];exact c,by rw[e.2.1];exact c,by rw[e.2.2];exact c,ZZ,ZZ,ZZ⟩
def aen(e:m.Ok)(d:m.lim<=m.nx)(hf:aR m f a b l)(n o:Nat):
   l9 KW o (n+1) (.func 140) [.agg f.cells] m=some [⟨.agg (U3 f).cells,ext m [j6 f.cells,j6 (U3 f).cells,j6 (U3 f).cells]⟩]:=by
 rw[en f140];have h:=hf.a.D8;have j:=hf.b.D8;have k:=hf.l.D8;have g:D8 nS=true:=rfl;have c:∀i,D8 (iV i)=true:=λ_=>rfl;by_cases k1:f.kind=1;simp[-D6.bD,f140,ay e d,h,j,k,g,c,U3,aG,D6.cells,k1];by_cases k2:f.kind=2;simp[-D6.bD,f140,ay e d,h,j,k,g,c,U3,aG,D6.cells,k2];by_cases k3:f.kind=3;simp[-D6.bD,f140,ay e d,h,j,k,g,c,U3,aG,D6.cells,k3];by_cases k4:f.kind=4;simp[-D6.bD,f140,ay e d,h,j,k,g,c,U3,aG,D6.cells,k4];by_cases k5:f.kind=5;simp[-D6.bD,f140,ay e d,h,j,k,g,c,U3,aG,D6.cells,k5];by_cases k6:f.kind=6;simp[-D6.bD,f140,ay e d,h,j,k,g,c,U3,aG,D6.cells,k6];by_cases k7:f.kind=7;simp[-D6.bD,f140,ay e d,h,j,k,g,c,U3,aG,D6.cells,k7];simp[-D6.bD,f140,ay e d,h,j,k,g,c,U3,aG,D6.cells,k1,k2,k3,k4,k5,k6,k7]
def sj(xs:cQ):Bool:=Z9 (okB xs) xs.length 0&&decide (xs.length<=6)
def NA(f:D6):Bool:=(decide (0<=f.flo)&&decide (f.flo<=f.fhi)&&decide (f.fhi<=1000000))
def SF(f:D6):Bool:=(decide (1<=f.ug)&&decide (f.ug<=1099511627776))&&(decide (0<=f.ud)&&decide (f.ud<=20000))
def tL(f:D6):Bool:=(decide (1<=f.lg)&&decide (f.lg<=1099511627776))&&((decide (0<=f.ll)&&decide (f.ll<=f.lh)&&decide (f.lh<=20000))&&(decide (0<=f.lw)&&decide (f.lw<=1048576)))
def eZ(f:D6)(a b:cQ):Bool:=decide (f.cid=0)&&((decide (0<=f.cday)&&decide (f.cday<=20000))&&((decide (-1125899906842624<=f.diff)&&decide (f.diff<=1125899906842624))&&((decide (0<=f.err)&&decide (f.err<=1073741824))&&((decide (-10000<=f.hlo)&&decide (f.hlo<=f.hhi)&&decide (f.hhi<=10000))&&(sj a&&sj b)))))
def Md(f:D6)(l:cQ):Bool:=Z9 (okB l) l.length 0&&((decide (0<=f.mday)&&decide (f.mday<=19999))&&(decide (2<=l.length)&&decide (l.length<=5)))
def Vu(f:D6):Bool:=(decide (1<=f.tr)&&decide (f.tr<=6))&&((decide (1<=f.tn)&&decide (f.tn<=60)) && !(decide (f.tr=f.room)&&decide (f.tn=f.no)))
def aeo(n c:Nat)(f:D6)(m:cD)(a:m.Ok)(d:m.lim<=m.nx):∃m',l9 KW c (n+3) (.func 213) [.agg f.cells] m=some [⟨.bool (tL f),m'⟩]∧cE m m':=by
 rw[en f213];have b:=PN (n+1) c f.ll f.lh 0 20000 (ext m [j6 f.cells]) (I7 a _);cases h0:(decide (1<=f.lg)&&decide (f.lg<=1099511627776))with
 |true=>
  cases h1:(decide (0<=f.ll)&&decide (f.ll<=f.lh)&&decide (f.lh<=20000))with
  |true=>
   cases h2:(decide (0<=f.lw)&&decide (f.lw<=1048576))with
   |true=>exact⟨ext m [j6 f.cells,j6 [iV f.ll,iV f.lh]],by simp[f213,o9,A8,l8 a,pF,eB,b,tL,h0,h1,h2],o8 a _⟩
   |false=>exact⟨ext m [j6 f.cells,j6 [iV f.ll,iV f.lh]],by simp[f213,o9,A8,l8 a,pF,eB,b,tL,h0,h1,h2],o8 a _⟩
  |false=>exact⟨ext m [j6 f.cells,j6 [iV f.ll,iV f.lh]],by simp[f213,o9,A8,l8 a,pF,eB,b,tL,h0,h1],o8 a _⟩
 |false=>exact⟨ext m [j6 f.cells],by simp[f213,o9,l8 a,pF,eB,tL,h0],o8 a _⟩
def aep(c:m.Ok)(r:m.lim<=m.nx)(hf:aR m f a b l)(n h:Nat)(i:20000<=h):
   ∃m',l9 KW h (n+9) (.func 216) [.agg f.cmp] m=some [⟨.bool (eZ f a b),m'⟩]∧cE m m':=by
 rw[en f216];have j:=PN (n+7) h f.hlo f.hhi (-10000) 10000 (ext m [j6 f.cmp]) (I7 c _);have E2:=o8 c [j6 f.cmp,j6 [iV f.hlo,iV f.hhi]];obtain⟨o,g,E3⟩:=Xm (I7 c _) ZD (hf.a.ext E2) hf.la n h i;have q:o.get m.nx=some (j6 f.cmp):=by rw[E3.old _ ZZ,l8 c];rfl
 have E23:=E2.trans E3;obtain⟨p,k,E4⟩:=Xm (m:=o) E3.ok (by have d:=E23.lim;have e:=E23.nx;omega) (hf.b.ext E23) hf.lb n h i;cases h0:decide (f.cid=0)with
 |true=>
  cases d:(decide (0<=f.cday)&&decide (f.cday<=20000))with
  |true=>
   cases e:(decide (-1125899906842624<=f.diff)&&decide (f.diff<=1125899906842624))with
   |true=>
    cases h3:(decide (0<=f.err)&&decide (f.err<=1073741824))with
    |true=>
     cases h4:(decide (-10000<=f.hlo)&&decide (f.hlo<=f.hhi)&&decide (f.hhi<=10000))with
     |true=>
      cases h5:Z9 (okB a) a.length 0&&decide (a.length<=6)with
      |true=>
       cases h6:Z9 (okB b) b.length 0&&decide (b.length<=6)with
       |true=>exact⟨p,by rw[h5]at g;rw[h6]at k;simp[f216,o9,A8,l8 c,eB,j,g,q,k,eZ,sj,h0,d,e,h3,h4,h5,h6],E23.trans E4⟩
       |false=>exact⟨p,by rw[h5]at g;rw[h6]at k;simp[f216,o9,A8,l8 c,eB,j,g,q,k,eZ,sj,h0,d,e,h3,h4,h5,h6],E23.trans E4⟩
      |false=>exact⟨o,by rw[h5]at g;simp[f216,o9,A8,l8 c,eB,j,g,eZ,sj,h0,d,e,h3,h4,h5],E23⟩
     |false=>exact⟨ext m [j6 f.cmp,j6 [iV f.hlo,iV f.hhi]],by simp[f216,o9,A8,l8 c,eB,j,eZ,sj,h0,d,e,h3,h4],o8 c _⟩
    |false=>exact⟨ext m [j6 f.cmp],by simp[f216,o9,l8 c,eB,eZ,sj,h0,d,e,h3],o8 c _⟩
   |false=>exact⟨ext m [j6 f.cmp],by simp[f216,o9,l8 c,eB,eZ,sj,h0,d,e],o8 c _⟩
  |false=>exact⟨ext m [j6 f.cmp],by simp[f216,o9,l8 c,eB,eZ,sj,h0,d],o8 c _⟩
 |false=>exact⟨ext m [j6 f.cmp],by simp[f216,o9,l8 c,eB,eZ,sj,h0],o8 c _⟩
def aer(c:m.Ok)(i:m.lim<=m.nx)(hf:aR m f a b l)(n d:Nat)(e:20000<=d):
   ∃m',l9 KW d (n+10) (.func 215) [.agg f.cells] m=some [⟨.bool (eZ f a b),m'⟩]∧cE m m':=by
 rw[en f215];obtain⟨h,g,E3⟩:=aep (I7 c [j6 f.cells]) ZD (hf.ext (o8 c _)) n d e;exact⟨h,by simp[f215,o9,l8 c,g],(o8 c _).trans E3⟩
def aes(c:m.Ok)(h:m.lim<=m.nx)(hf:aR m f a b l)(n d:Nat)(e:20000<=d):
   ∃m',l9 KW d (n+4) (.func 218) [.agg f.cells] m=some [⟨.bool (Md f l),m'⟩]∧cE m m':=by
 rw[en f218];have g:=aej (I7 c [j6 f.cells]) (day:=f.mday) (hf.l.ext (o8 c _)) hf.ll n d e;exact⟨ext m [j6 f.cells,j6 [iV f.mday,f.L]],by simp[f218,o9,A8,l8 c,g,Md],o8 c _⟩
def aeu(c:m.Ok)(h:m.lim<=m.nx)(hf:aR m f a b l)(n e:Nat):
   ∃m',l9 KW e (n+2) (.func 221) [.agg f.cells] m=some [⟨.bool (Vu f),m'⟩]∧cE m m':=by
 rw[en f221];have i:=hf.same;have g:bg 100 (.agg [iV f.tr,iV f.tn]) (.agg [iV f.tr,iV f.tn])=true:=by rw[vJ];simp[FB,JV,G8]
 have d:=PU n e f (ext m [j6 f.cells]) (I7 c _) ZD;cases h0:(decide (1<=f.tr)&&decide (f.tr<=6))with
 |true=>
  cases h1:(decide (1<=f.tn)&&decide (f.tn<=60))with
  |true=>
   cases h2:(decide (f.tr=f.room)&&decide (f.tn=f.no))with
   |true=>exact⟨ext m [j6 f.cells,j6 f.cells,j6 [iV f.room,iV f.no]],by simp[f221,o9,A8,l8 c,eB,d,g,Vu,h0,h1,h2],o8 c _⟩
   |false=>exact⟨ext m [j6 f.cells,j6 f.cells,j6 [iV f.room,iV f.no]],by simp[f221,o9,A8,l8 c,eB,d,g,Vu,h0,h1,h2],o8 c _⟩
  |false=>exact⟨ext m [j6 f.cells],by simp[f221,o9,l8 c,eB,Vu,h0,h1],o8 c _⟩
 |false=>exact⟨ext m [j6 f.cells],by simp[f221,o9,l8 c,eB,Vu,h0],o8 c _⟩
def aev(d:m.Ok)(q:m.lim<=p)(hp:p<m.nx)(hf:aR m f a b l)(o:m.get p=some (j6 g.cells))(n k:Nat):
   ∃m',l9 KW k (n+1) (.func 207) [.ptr p 0,.agg f.cells] m=some [⟨.tuple [],m'⟩]∧m'.Ok∧m'.lim=m.lim∧m.nx<=m'.nx∧(∀i,i<m.nx->i≠p->m'.get i=m.get i)∧m'.get p=some (j6 ({g with flo:=f.flo,fhi:=f.fhi}:D6).cells):=by
 rw[en f207];have r:=hf.a.D8;have s:=hf.b.D8;have t:=hf.l.D8;have h:∀i,D8 (iV i)=true:=λ_=>rfl;have e:(ext m [j6 f.cells]).get p=some (j6 g.cells):=by rw[H6 d _ hp];exact o
 have c:p<(ext m [j6 f.cells]).nx:=ZD
 refine⟨(ext m [j6 f.cells]).set p (j6 ({g with flo:=f.flo,fhi:=f.fhi}:D6).cells),?_,(I7 d _).set c _,ZZ,ZZ,λi h j=>?_,fJ (I7 d _) _ c rfl⟩;simp only[D6.cells]at e ⊢;simp[-D6.bD,f207,o9,l8 d,bI,q,e,h];rw[jr (I7 d _) _ c j,H6 d _ h]
def aew(d:m.Ok)(q:m.lim<=p)(hp:p<m.nx)(hf:aR m f a b l)(o:m.get p=some (j6 g.cells))(n k:Nat):
   ∃m',l9 KW k (n+1) (.func 209) [.ptr p 0,.agg f.cells] m=some [⟨.tuple [],m'⟩]∧m'.Ok∧m'.lim=m.lim∧m.nx<=m'.nx∧(∀i,i<m.nx->i≠p->m'.get i=m.get i)∧m'.get p=some (j6 ({g with gid:=f.gid,made:=f.made,nom:=f.nom,tlo:=f.tlo,thi:=f.thi,gn:=f.gn,gd:=f.gd,wear:=f.wear}:D6).cells):=by
 rw[en f209];have r:=hf.a.D8;have s:=hf.b.D8;have t:=hf.l.D8;have h:∀i,D8 (iV i)=true:=λ_=>rfl;have e:(ext m [j6 f.cells]).get p=some (j6 g.cells):=by rw[H6 d _ hp];exact o
 have c:p<(ext m [j6 f.cells]).nx:=ZD
 refine⟨(ext m [j6 f.cells]).set p (j6 ({g with gid:=f.gid,made:=f.made,nom:=f.nom,tlo:=f.tlo,thi:=f.thi,gn:=f.gn,gd:=f.gd,wear:=f.wear}:D6).cells),?_,(I7 d _).set c _,ZZ,ZZ,λi h j=>?_,fJ (I7 d _) _ c rfl⟩;simp only[D6.cells]at e ⊢;simp[-D6.bD,f209,o9,l8 d,bI,q,e,h];rw[jr (I7 d _) _ c j,H6 d _ h]
def aex(d:m.Ok)(q:m.lim<=p)(hp:p<m.nx)(hf:aR m f a b l)(o:m.get p=some (j6 g.cells))(n k:Nat):
   ∃m',l9 KW k (n+1) (.func 212) [.ptr p 0,.agg f.cells] m=some [⟨.tuple [],m'⟩]∧m'.Ok∧m'.lim=m.lim∧m.nx<=m'.nx∧(∀i,i<m.nx->i≠p->m'.get i=m.get i)∧m'.get p=some (j6 ({g with ug:=f.ug,ud:=f.ud}:D6).cells):=by
 rw[en f212];have r:=hf.a.D8;have s:=hf.b.D8;have t:=hf.l.D8;have h:∀i,D8 (iV i)=true:=λ_=>rfl;have e:(ext m [j6 f.cells]).get p=some (j6 g.cells):=by rw[H6 d _ hp];exact o
 have c:p<(ext m [j6 f.cells]).nx:=ZD
 refine⟨(ext m [j6 f.cells]).set p (j6 ({g with ug:=f.ug,ud:=f.ud}:D6).cells),?_,(I7 d _).set c _,ZZ,ZZ,λi h j=>?_,fJ (I7 d _) _ c rfl⟩;simp only[D6.cells]at e ⊢;simp[-D6.bD,f212,o9,l8 d,bI,q,e,h];rw[jr (I7 d _) _ c j,H6 d _ h]
def aey(d:m.Ok)(q:m.lim<=p)(hp:p<m.nx)(hf:aR m f a b l)(o:m.get p=some (j6 g.cells))(n k:Nat):
   ∃m',l9 KW k (n+1) (.func 214) [.ptr p 0,.agg f.cells] m=some [⟨.tuple [],m'⟩]∧m'.Ok∧m'.lim=m.lim∧m.nx<=m'.nx∧(∀i,i<m.nx->i≠p->m'.get i=m.get i)∧m'.get p=some (j6 ({g with lg:=f.lg,ll:=f.ll,lh:=f.lh,lw:=f.lw}:D6).cells):=by
 rw[en f214];have r:=hf.a.D8;have s:=hf.b.D8;have t:=hf.l.D8;have h:∀i,D8 (iV i)=true:=λ_=>rfl;have e:(ext m [j6 f.cells]).get p=some (j6 g.cells):=by rw[H6 d _ hp];exact o
 have c:p<(ext m [j6 f.cells]).nx:=ZD
 refine⟨(ext m [j6 f.cells]).set p (j6 ({g with lg:=f.lg,ll:=f.ll,lh:=f.lh,lw:=f.lw}:D6).cells),?_,(I7 d _).set c _,ZZ,ZZ,λi h j=>?_,fJ (I7 d _) _ c rfl⟩;simp only[D6.cells]at e ⊢;simp[-D6.bD,f214,o9,l8 d,bI,q,e,h];rw[jr (I7 d _) _ c j,H6 d _ h]
def aez(d:m.Ok)(q:m.lim<=p)(hp:p<m.nx)(hf:aR m f a b l)(o:m.get p=some (j6 g.cells))(n k:Nat):
   ∃m',l9 KW k (n+1) (.func 217) [.ptr p 0,.agg f.cells] m=some [⟨.tuple [],m'⟩]∧m'.Ok∧m'.lim=m.lim∧m.nx<=m'.nx∧(∀i,i<m.nx->i≠p->m'.get i=m.get i)∧m'.get p=some (j6 ({g with cid:=f.cid,cday:=f.cday,A:=f.A,B:=f.B,diff:=f.diff,err:=f.err,hlo:=f.hlo,hhi:=f.hhi}:D6).cells):=by
 rw[en f217];have r:=hf.a.D8;have s:=hf.b.D8;have t:=hf.l.D8;have h:∀i,D8 (iV i)=true:=λ_=>rfl;have e:(ext m [j6 f.cells]).get p=some (j6 g.cells):=by rw[H6 d _ hp];exact o
 have c:p<(ext m [j6 f.cells]).nx:=ZD
 refine⟨(ext m [j6 f.cells]).set p (j6 ({g with cid:=f.cid,cday:=f.cday,A:=f.A,B:=f.B,diff:=f.diff,err:=f.err,hlo:=f.hlo,hhi:=f.hhi}:D6).cells),?_,(I7 d _).set c _,ZZ,ZZ,λi h j=>?_,fJ (I7 d _) _ c rfl⟩;simp only[D6.cells]at e ⊢;simp[-D6.bD,f217,o9,l8 d,bI,q,e,r,s,h];rw[jr (I7 d _) _ c j,H6 d _ h]
def aeA(d:m.Ok)(q:m.lim<=p)(hp:p<m.nx)(hf:aR m f a b l)(o:m.get p=some (j6 g.cells))(n k:Nat):
   ∃m',l9 KW k (n+1) (.func 220) [.ptr p 0,.agg f.cells] m=some [⟨.tuple [],m'⟩]∧m'.Ok∧m'.lim=m.lim∧m.nx<=m'.nx∧(∀i,i<m.nx->i≠p->m'.get i=m.get i)∧m'.get p=some (j6 ({g with mday:=f.mday,L:=f.L}:D6).cells):=by
 rw[en f220];have s:=hf.a.D8;have t:=hf.b.D8;have r:=hf.l.D8;have h:∀i,D8 (iV i)=true:=λ_=>rfl;have e:(ext m [j6 f.cells]).get p=some (j6 g.cells):=by rw[H6 d _ hp];exact o
 have c:p<(ext m [j6 f.cells]).nx:=ZD
 refine⟨(ext m [j6 f.cells]).set p (j6 ({g with mday:=f.mday,L:=f.L}:D6).cells),?_,(I7 d _).set c _,ZZ,ZZ,λi h j=>?_,fJ (I7 d _) _ c rfl⟩;simp only[D6.cells]at e ⊢;simp[-D6.bD,f220,o9,l8 d,bI,q,e,r,h];rw[jr (I7 d _) _ c j,H6 d _ h]
def aeB(d:m.Ok)(q:m.lim<=p)(hp:p<m.nx)(hf:aR m f a b l)(o:m.get p=some (j6 g.cells))(n k:Nat):
   ∃m',l9 KW k (n+1) (.func 222) [.ptr p 0,.agg f.cells] m=some [⟨.tuple [],m'⟩]∧m'.Ok∧m'.lim=m.lim∧m.nx<=m'.nx∧(∀i,i<m.nx->i≠p->m'.get i=m.get i)∧m'.get p=some (j6 ({g with tr:=f.tr,tn:=f.tn}:D6).cells):=by
 rw[en f222];have r:=hf.a.D8;have s:=hf.b.D8;have t:=hf.l.D8;have h:∀i,D8 (iV i)=true:=λ_=>rfl;have e:(ext m [j6 f.cells]).get p=some (j6 g.cells):=by rw[H6 d _ hp];exact o
 have c:p<(ext m [j6 f.cells]).nx:=ZD
 refine⟨(ext m [j6 f.cells]).set p (j6 ({g with tr:=f.tr,tn:=f.tn}:D6).cells),?_,(I7 d _).set c _,ZZ,ZZ,λi h j=>?_,fJ (I7 d _) _ c rfl⟩;simp only[D6.cells]at e ⊢;simp[-D6.bD,f222,o9,l8 d,bI,q,e,h];rw[jr (I7 d _) _ c j,H6 d _ h]
def abB(cf:G6)(h:Nat)(m:cD):∀(k a b:Nat),b<2^k->∀(N:Nat),2*k+1<=N->∀(a1:j5),
   ∃ba1,I9 (λenv m k=>zT cf h none env m k) N (nV4 (.int .u64 ((b:Nat):Int)) a1 (.int .u64 ((a:Nat):Int)) (.int .u64 0)) m []=some [⟨.exit 0,(nV4 (.int .u64 ((0:Nat):Int)) ba1 (.int .u64 (((Nat.gcd a b):Nat):Int)) (.int .u64 0)),m,[],none⟩]:=by
 have d:∀(a N:Nat) (a1:j5),I9 (λenv m k=>zT cf h none env m k) (N+1) (nV4 (.int .u64 ((0:Nat):Int)) a1 (.int .u64 ((a:Nat):Int)) (.int .u64 0)) m []=some [⟨.exit 0,(nV4 (.int .u64 ((0:Nat):Int)) fV (.int .u64 ((a:Nat):Int)) (.int .u64 0)),m,[],none⟩]:=by intro a N a1;rw[o7];simp[zT]
 have c:∀(a b N:Nat) (a1:j5),b≠0->I9 (λenv m k=>zT cf h none env m k) (N+1) (nV4 (.int .u64 ((b:Nat):Int)) a1 (.int .u64 ((a:Nat):Int)) (.int .u64 0)) m []=I9 (λenv m k=>zT cf h none env m k) N (nV4 (.int .u64 (((a%b):Nat):Int)) tV (.int .u64 ((b:Nat):Int)) (.int .u64 0)) m []:=by
  intro a b N a1 f;rw[o7];have l:¬ ((b:Nat):Int)=0:=Zs
  simp[zT,f,zB _ a b f]
 intro k;induction k with
 |zero=>
  intro a b f N p a1;obtain⟨N,rfl⟩:=sx N;have j:b=0:=by simpa using f
  subst j;exact⟨fV,by rw[d,awE]⟩
 |succ k ih=>
  intro a b f N p a1;obtain⟨N,rfl⟩:∃M,N=M+2:=⟨N-2,Zs⟩;by_cases h0:b=0;subst h0;exact⟨fV,by rw[d,awE]⟩;by_cases hc:a%b=0;refine⟨fV,?_⟩;have e:Nat.gcd a b=b:=by rw[awD,awX,hc,Nat.gcd_zero_left]
  rw[c _ _ _ _ h0,hc,d,e];have l:a%b<b:=ajq _ Zs;have q:b%(a%b)<a%b:=ajq _ Zs;have r:b%(a%b)+a%b<=b:=by have:=awy b (a%b);have n:1<=b / (a%b):=(axn Zs).2 Zs;have s:a%b*1<=a%b*(b / (a%b)):=axh _ n;omega
  have o:b%(a%b)<2^k:=by rw[ata]at f;omega
  obtain⟨i,g⟩:=ih (a%b) (b%(a%b)) o N Zs (tV);refine⟨i,?_⟩;rw[c _ _ _ _ h0,c _ _ _ _ hc,g];have e:Nat.gcd (a%b) (b%(a%b))=Nat.gcd a b:=by rw[awD a b,awX b a,awX (a%b) b,awD]
  rw[e]
def aeC(a b:Nat)(hb:b<2^64)(n c:Nat)(d:20000<=c)(m:cD):l9 KW c (n+1) (.func 457) [.int .u64 a,.int .u64 b] m=some [⟨.int .u64 (Nat.gcd a b:Nat),m⟩]:=by rw[en ahZ];obtain⟨e,g⟩:=abB (l9 KW c n) c m 64 a b hb c Zs uV;simp[ahZ]at g ⊢;simp[g]
def abC(cf:G6)(h:Nat)(m:cD):∀(k a b:Nat),b<2^k->∀(N:Nat),2*k+1<=N->∀(a1 a3:j5),
   ∃ba1 ba3,I9 (λenv m k=>zR cf h none env m k) N (PG (iN b) a1 (iN a) a3 iZ) m []=some [⟨.exit 0,(PG (iN 0) ba1 (iN ((Nat.gcd a b))) ba3 iZ),m,[],none⟩]:=by
 have d:∀(a N:Nat) (a1 a3:j5),I9 (λenv m k=>zR cf h none env m k) (N+1) (PG (iN 0) a1 (iN a) a3 iZ) m []=some [⟨.exit 0,(PG (iN 0) fV (iN a) a3 iZ),m,[],none⟩]:=by intro a N a1 a3;rw[o7];simp[zR]
 have c:∀(a b N:Nat) (a1 a3:j5),b≠0->I9 (λenv m k=>zR cf h none env m k) (N+1) (PG (iN b) a1 (iN a) a3 iZ) m []=I9 (λenv m k=>zR cf h none env m k) N (PG (iV (((a%b):Nat):Int)) tV (iN b) (iV ((a%b:Nat):Int)) iZ) m []:=by
  intro a b N a1 a3 f;rw[o7];have n:¬ ((b:Nat):Int)=0:=Zs
  simp[zR,f,zB _ a b f]
 intro k;induction k with
 |zero=>
  intro a b f N q a1 a3;obtain⟨N,rfl⟩:=sx N;have l:b=0:=by simpa using f
  subst l;exact⟨fV,a3,by rw[d,awE]⟩
 |succ k ih=>
  intro a b f N q a1 a3;obtain⟨N,rfl⟩:∃M,N=M+2:=⟨N-2,Zs⟩;by_cases h0:b=0;subst h0;exact⟨fV,a3,by rw[d,awE]⟩;by_cases hc:a%b=0;refine⟨fV,(iV ((a%b:Nat):Int)),?_⟩;have e:Nat.gcd a b=b:=by rw[awD,awX,hc,Nat.gcd_zero_left]
  rw[c _ _ _ _ _ h0,hc,d,e];have n:a%b<b:=ajq _ Zs;have r:b%(a%b)<a%b:=ajq _ Zs;have s:b%(a%b)+a%b<=b:=by have:=awy b (a%b);have o:1<=b / (a%b):=(axn Zs).2 Zs;have t:a%b*1<=a%b*(b / (a%b)):=axh _ o;omega
  have p:b%(a%b)<2^k:=by rw[ata]at f;omega
  obtain⟨i,j,g⟩:=ih (a%b) (b%(a%b)) p N Zs (tV) ((iV ((b%(a%b):Nat):Int)));refine⟨i,j,?_⟩;rw[c _ _ _ _ _ h0,c _ _ _ _ _ hc,g];have e:Nat.gcd (a%b) (b%(a%b))=Nat.gcd a b:=by rw[awD a b,awX b a,awX (a%b) b,awD]
  rw[e]
def aeD(a b:Nat)(hb:b<2^64)(n c:Nat)(d:20000<=c)(m:cD):l9 KW c (n+1) (.func 321) [iV a,iV b] m=some [⟨iV (Nat.gcd a b:Nat),m⟩]:=by rw[en f321];obtain⟨e,f,g⟩:=abC (l9 KW c n) c m 64 a b hb c Zs uV uV;simp[f321]at g ⊢;simp[g]
def wrap_u64{n:Int}(h:0<=n)(h':n<18446744073709551616):IntKind.u64.wrap n=n:=by simp[IntKind.wrap,IntKind.bits,IntKind.signed];omega
def Xp(a:Int)(h:-9223372036854775808<=a)(h':a<9223372036854775808)(n b:Nat)(m:cD):l9 KW b (n+1) (.func 456) [iV a] m=some [⟨.int .u64 (a.natAbs:Nat),m⟩]:=by
 rw[en aea];by_cases h0:a<0;have e:iB .u64 (0-iB .u64 a)=((a.natAbs:Nat):Int):=by show IntKind.u64.wrap (0-IntKind.u64.wrap a)=_;simp[IntKind.wrap,IntKind.bits,IntKind.signed];omega
 simp only[Int.zero_sub]at e;simp[aea,h0,e];have e:iB .u64 a=((a.natAbs:Nat):Int):=by show IntKind.u64.wrap a=_;rw[wrap_u64 Zs Zs];omega
 simp[aea,h0,e]
def aeE(a:Int)(h:-9223372036854775808<a)(h':a<9223372036854775808)(n b:Nat)(m:cD):l9 KW b (n+1) (.func 322) [iV a] m=some [⟨iV (a.natAbs:Nat),m⟩]:=by
 rw[en f322];by_cases h0:a<0;have e:kY (-a)=((a.natAbs:Nat):Int):=by rw[Z7 Zs Zs];omega
 simp[f322,h0,e];have e:((a.natAbs:Nat):Int)=a:=Zs
 simp[f322,h0,e]
def Ga(a b:Int):Bool:=decide (1<=b)&&(decide (b<=2147483647)&&(decide (((a.natAbs:Nat):Int)<=2147483647)&&decide (Nat.gcd a.natAbs b.natAbs=1)))
def ah(a:Int):Prop:=-9223372036854775808<=a∧a<9223372036854775808
def aeF(a b:Int)(j:ah a)(hb:ah b)(n c:Nat)(f:20000<=c)(m:cD)(d:m.Ok):l9 KW c (n+2) (.func 387) [.agg [iV a,iV b]] m=some [⟨.bool (Ga a b),ext m [j6 [iV a,iV b]]⟩]:=by
 rw[en Vo];have e:=Xp a j.1 j.2 n c;have g:=Xp b hb.1 hb.2 n c;have h:=aeC a.natAbs b.natAbs (by have:=hb.1;have:=hb.2;omega) n c f;have k:bg 100 (iV b) (iV b)=true:=G8 _ _ _;have i:decide (((Nat.gcd a.natAbs b.natAbs:Nat):Int)=1)=decide (Nat.gcd a.natAbs b.natAbs=1):=by rw[acv];simp;omega
 cases h0:decide (1<=b)with
 |true=>
  cases h1:decide (b<=2147483647)with
  |true=>
   cases h2:decide (((a.natAbs:Nat):Int)<=2147483647)with
   |true=>
    cases h3:decide (Nat.gcd a.natAbs b.natAbs=1)with
    |true=>simp[Vo,o9,l8 d,e,g,h,k,i,Ga,h0,h1,h2,h3]
    |false=>simp[Vo,o9,l8 d,e,g,h,k,i,Ga,h0,h1,h2,h3]
   |false=>simp[Vo,o9,l8 d,e,Ga,h0,h1,h2]
  |false=>simp[Vo,o9,l8 d,Ga,h0,h1]
 |false=>simp[Vo,o9,l8 d,Ga,h0]
def KA(a b:Int):Bool:=!(decide (b<1))&&(!(decide (2147483647<b))&&(!(decide (a < -2147483647))&&(!(decide (2147483647<a))&&decide (Nat.gcd a.natAbs b.natAbs=1))))
def aeG(a b:Int):KA a b=Ga a b:=by
 unfold KA Ga;have c:(!(decide (b<1)))=decide (1<=b):=by rw[acv];simp
 have d:(!(decide (2147483647<b)))=decide (b<=2147483647):=by rw[acv];simp
 have e:(!(decide (a < -2147483647)) && !(decide (2147483647<a)))=decide (((a.natAbs:Nat):Int)<=2147483647):=by rw[acv];simp;omega
 rw[c,d,← e];simp[Bool.and_assoc]
def aeH(a b:Int)(p:ah a)(hb:ah b)(n d:Nat)(e:20000<=d)(m:cD)(c:m.Ok):l9 KW d (n+2) (.func 189) [.agg [iV a,iV b]] m=some [⟨.bool (Ga a b),ext m [j6 [iV a,iV b]]⟩]:=by
 rw[en f189,← aeG];have f:=aeD a.natAbs b.natAbs (by have:=hb.1;have:=hb.2;omega) n d e;have j:bg 100 (iV b) (iV b)=true:=G8 _ _ _;have h:decide (((Nat.gcd a.natAbs b.natAbs:Nat):Int)=1)=decide (Nat.gcd a.natAbs b.natAbs=1):=by rw[acv];simp;omega
 cases h0:decide (b<1)with
 |true=>simp[f189,o9,l8 c,KA,h0]
 |false=>
 cases h1:decide (2147483647<b)with
 |true=>simp[f189,o9,l8 c,KA,h0,h1]
 |false=>
 cases h2:decide (a < -2147483647)with
 |true=>simp[f189,o9,l8 c,KA,h0,h1,h2]
 |false=>
 cases h3:decide (2147483647<a)with
 |true=>simp[f189,o9,l8 c,KA,h0,h1,h2,h3]
 |false=>
 have k:¬ b<1:=by simpa using h0
 have l:¬ a < -2147483647:=by simpa using h2
 have o:¬ 2147483647<a:=by simpa using h3
 have i:((b.natAbs:Nat):Int)=b:=Zs
 have g:=aeE a Zs Zs n d;rw[i]at f;cases h4:decide (Nat.gcd a.natAbs b.natAbs=1)<;>simp[f189,o9,l8 c,KA,h0,h1,h2,h3,h4,g,f,j,h]
def D6.bS(f:D6):cM:=[iV f.gid,iV f.made,iV f.nom,iV f.tlo,iV f.thi,iV f.gn,iV f.gd,iV f.wear]
def Y0(f:D6):Bool:=(Ga f.gn f.gd&&((decide (-1000<=f.gn)&&decide (f.gn<=1000))&&(decide (f.gd<=100)&&((decide (1<=f.gid)&&decide (f.gid<=1099511627776))&&((decide (0<=f.made)&&decide (f.made<=20000))&&((decide (1<=f.nom)&&decide (f.nom<=1125899906842624))&&((decide (-1073741824<=f.tlo)&&decide (f.tlo<=f.thi)&&decide (f.thi<=1073741824))&&(decide (0<=f.wear)&&decide (f.wear<=1048576)))))))))
def aeI(f:D6)(g:ah f.gn)(hb:ah f.gd)(n d:Nat)(e:20000<=d)(m:cD)(a:m.Ok):∃m',l9 KW d (n+3) (.func 311) [.agg f.bS] m=some [⟨.bool (Y0 f),m'⟩]∧cE m m':=by
 rw[en f311];have b:=aeF f.gn f.gd g hb n d e (ext m [j6 f.bS]) (I7 a _);have c:=Xj (n+1) d f.tlo f.thi (-1073741824) 1073741824 (ext m [j6 f.bS,j6 [iV f.gn,iV f.gd]]) (I7 a _);have h:decide (100<f.gd)=!decide (f.gd<=100):=by rw[acv];simp
 simp only[D6.bS]at b c;cases h0:Ga f.gn f.gd with
 |true=>
  cases h1:(decide (-1000<=f.gn)&&decide (f.gn<=1000))with
  |true=>
   cases h2:decide (f.gd<=100)with
   |true=>
    cases h3:(decide (1<=f.gid)&&decide (f.gid<=1099511627776))with
    |true=>
     cases h4:(decide (0<=f.made)&&decide (f.made<=20000))with
     |true=>
      cases h5:(decide (1<=f.nom)&&decide (f.nom<=1125899906842624))with
      |true=>
       cases h6:(decide (-1073741824<=f.tlo)&&decide (f.tlo<=f.thi)&&decide (f.thi<=1073741824))with
       |true=>
        cases h7:(decide (0<=f.wear)&&decide (f.wear<=1048576))with
        |true=>exact⟨ext m [j6 f.bS,j6 [iV f.gn,iV f.gd],j6 [iV f.tlo,iV f.thi]],by simp[f311,D6.bS,o9,A8,l8 a,b,c,bP,eO,Y0,h0,h1,h2,h3,h4,h5,h6,h7],o8 a _⟩
        |false=>exact⟨ext m [j6 f.bS,j6 [iV f.gn,iV f.gd],j6 [iV f.tlo,iV f.thi]],by simp[f311,D6.bS,o9,A8,l8 a,b,c,bP,eO,Y0,h0,h1,h2,h3,h4,h5,h6,h7],o8 a _⟩
       |false=>exact⟨ext m [j6 f.bS,j6 [iV f.gn,iV f.gd],j6 [iV f.tlo,iV f.thi]],by simp[f311,D6.bS,o9,A8,l8 a,b,c,bP,eO,Y0,h0,h1,h2,h3,h4,h5,h6],o8 a _⟩
      |false=>exact⟨ext m [j6 f.bS,j6 [iV f.gn,iV f.gd]],by simp[f311,D6.bS,o9,A8,l8 a,b,bP,eO,Y0,h0,h1,h2,h3,h4,h5],o8 a _⟩
     |false=>exact⟨ext m [j6 f.bS,j6 [iV f.gn,iV f.gd]],by simp[f311,D6.bS,o9,A8,l8 a,b,bP,eO,Y0,h0,h1,h2,h3,h4],o8 a _⟩
    |false=>exact⟨ext m [j6 f.bS,j6 [iV f.gn,iV f.gd]],by simp[f311,D6.bS,o9,A8,l8 a,b,bP,eO,Y0,h0,h1,h2,h3],o8 a _⟩
   |false=>
    cases h3:(decide (1<=f.gid)&&decide (f.gid<=1099511627776))with
    |true=>
     cases h4:(decide (0<=f.made)&&decide (f.made<=20000))with
     |true=>
      cases h5:(decide (1<=f.nom)&&decide (f.nom<=1125899906842624))with
      |true=>
       cases h6:(decide (-1073741824<=f.tlo)&&decide (f.tlo<=f.thi)&&decide (f.thi<=1073741824))with
       |true=>exact⟨ext m [j6 f.bS,j6 [iV f.gn,iV f.gd],j6 [iV f.tlo,iV f.thi]],by simp[f311,D6.bS,o9,A8,l8 a,b,c,bP,eO,Y0,h0,h1,h2,h3,h4,h5,h6],o8 a _⟩
       |false=>exact⟨ext m [j6 f.bS,j6 [iV f.gn,iV f.gd],j6 [iV f.tlo,iV f.thi]],by simp[f311,D6.bS,o9,A8,l8 a,b,c,bP,eO,Y0,h0,h1,h2,h3,h4,h5,h6],o8 a _⟩
      |false=>exact⟨ext m [j6 f.bS,j6 [iV f.gn,iV f.gd]],by simp[f311,D6.bS,o9,A8,l8 a,b,bP,eO,Y0,h0,h1,h2,h3,h4,h5],o8 a _⟩
     |false=>exact⟨ext m [j6 f.bS,j6 [iV f.gn,iV f.gd]],by simp[f311,D6.bS,o9,A8,l8 a,b,bP,eO,Y0,h0,h1,h2,h3,h4],o8 a _⟩
    |false=>exact⟨ext m [j6 f.bS,j6 [iV f.gn,iV f.gd]],by simp[f311,D6.bS,o9,A8,l8 a,b,bP,eO,Y0,h0,h1,h2,h3],o8 a _⟩
  |false=>
   cases h3:(decide (1<=f.gid)&&decide (f.gid<=1099511627776))with
   |true=>
    cases h4:(decide (0<=f.made)&&decide (f.made<=20000))with
    |true=>
     cases h5:(decide (1<=f.nom)&&decide (f.nom<=1125899906842624))with
     |true=>
      cases h6:(decide (-1073741824<=f.tlo)&&decide (f.tlo<=f.thi)&&decide (f.thi<=1073741824))with
      |true=>exact⟨ext m [j6 f.bS,j6 [iV f.gn,iV f.gd],j6 [iV f.tlo,iV f.thi]],by simp[f311,D6.bS,o9,A8,l8 a,b,c,bP,eO,Y0,h0,h1,h3,h4,h5,h6],o8 a _⟩
      |false=>exact⟨ext m [j6 f.bS,j6 [iV f.gn,iV f.gd],j6 [iV f.tlo,iV f.thi]],by simp[f311,D6.bS,o9,A8,l8 a,b,c,bP,eO,Y0,h0,h1,h3,h4,h5,h6],o8 a _⟩
     |false=>exact⟨ext m [j6 f.bS,j6 [iV f.gn,iV f.gd]],by simp[f311,D6.bS,o9,A8,l8 a,b,bP,eO,Y0,h0,h1,h3,h4,h5],o8 a _⟩
    |false=>exact⟨ext m [j6 f.bS,j6 [iV f.gn,iV f.gd]],by simp[f311,D6.bS,o9,A8,l8 a,b,bP,eO,Y0,h0,h1,h3,h4],o8 a _⟩
   |false=>exact⟨ext m [j6 f.bS,j6 [iV f.gn,iV f.gd]],by simp[f311,D6.bS,o9,A8,l8 a,b,bP,eO,Y0,h0,h1,h3],o8 a _⟩
 |false=>
  cases h3:(decide (1<=f.gid)&&decide (f.gid<=1099511627776))with
  |true=>
   cases h4:(decide (0<=f.made)&&decide (f.made<=20000))with
   |true=>
    cases h5:(decide (1<=f.nom)&&decide (f.nom<=1125899906842624))with
    |true=>
     cases h6:(decide (-1073741824<=f.tlo)&&decide (f.tlo<=f.thi)&&decide (f.thi<=1073741824))with
     |true=>exact⟨ext m [j6 f.bS,j6 [iV f.gn,iV f.gd],j6 [iV f.tlo,iV f.thi]],by simp[f311,D6.bS,o9,A8,l8 a,b,c,bP,eO,Y0,h0,h3,h4,h5,h6],o8 a _⟩
     |false=>exact⟨ext m [j6 f.bS,j6 [iV f.gn,iV f.gd],j6 [iV f.tlo,iV f.thi]],by simp[f311,D6.bS,o9,A8,l8 a,b,c,bP,eO,Y0,h0,h3,h4,h5,h6],o8 a _⟩
    |false=>exact⟨ext m [j6 f.bS,j6 [iV f.gn,iV f.gd]],by simp[f311,D6.bS,o9,A8,l8 a,b,bP,eO,Y0,h0,h3,h4,h5],o8 a _⟩
   |false=>exact⟨ext m [j6 f.bS,j6 [iV f.gn,iV f.gd]],by simp[f311,D6.bS,o9,A8,l8 a,b,bP,eO,Y0,h0,h3,h4],o8 a _⟩
  |false=>exact⟨ext m [j6 f.bS,j6 [iV f.gn,iV f.gd]],by simp[f311,D6.bS,o9,A8,l8 a,b,bP,eO,Y0,h0,h3],o8 a _⟩
def aeJ(f:D6)(h:ah f.gn)(hb:ah f.gd)(n e:Nat)(g:20000<=e)(m:cD)(a:m.Ok):∃m',l9 KW e (n+3) (.func 119) [.agg f.bS] m=some [⟨.bool (Y0 f),m'⟩]∧cE m m':=by
 rw[en f119];have b:=aeH f.gn f.gd h hb n e g (ext m [j6 f.bS]) (I7 a _);have d:=Xi (n+1) e f.tlo f.thi (-1073741824) 1073741824 (ext m [j6 f.bS,j6 [iV f.gn,iV f.gd]]) (I7 a _);have c:decide (100<f.gd)=!decide (f.gd<=100):=by rw[acv];simp
 simp only[D6.bS]at b d;cases h0:Ga f.gn f.gd with
 |true=>
  cases h1:(decide (-1000<=f.gn)&&decide (f.gn<=1000))with
  |true=>
   cases h2:decide (f.gd<=100)with
   |true=>
    cases h3:(decide (1<=f.gid)&&decide (f.gid<=1099511627776))with
    |true=>
     cases h4:(decide (0<=f.made)&&decide (f.made<=20000))with
     |true=>
      cases h5:(decide (1<=f.nom)&&decide (f.nom<=1125899906842624))with
      |true=>
       cases h6:(decide (-1073741824<=f.tlo)&&decide (f.tlo<=f.thi)&&decide (f.thi<=1073741824))with
       |true=>
        cases h7:(decide (0<=f.wear)&&decide (f.wear<=1048576))with
        |true=>exact⟨ext m [j6 f.bS,j6 [iV f.gn,iV f.gd],j6 [iV f.tlo,iV f.thi]],by simp[f119,D6.bS,o9,A8,l8 a,b,d,c,jv,eX,Y0,h0,h1,h2,h3,h4,h5,h6,h7],o8 a _⟩
        |false=>exact⟨ext m [j6 f.bS,j6 [iV f.gn,iV f.gd],j6 [iV f.tlo,iV f.thi]],by simp[f119,D6.bS,o9,A8,l8 a,b,d,c,jv,eX,Y0,h0,h1,h2,h3,h4,h5,h6,h7],o8 a _⟩
       |false=>exact⟨ext m [j6 f.bS,j6 [iV f.gn,iV f.gd],j6 [iV f.tlo,iV f.thi]],by simp[f119,D6.bS,o9,A8,l8 a,b,d,c,jv,eX,Y0,h0,h1,h2,h3,h4,h5,h6],o8 a _⟩
      |false=>exact⟨ext m [j6 f.bS,j6 [iV f.gn,iV f.gd]],by simp[f119,D6.bS,o9,A8,l8 a,b,c,jv,eX,Y0,h0,h1,h2,h3,h4,h5],o8 a _⟩
     |false=>exact⟨ext m [j6 f.bS,j6 [iV f.gn,iV f.gd]],by simp[f119,D6.bS,o9,A8,l8 a,b,c,jv,eX,Y0,h0,h1,h2,h3,h4],o8 a _⟩
    |false=>exact⟨ext m [j6 f.bS,j6 [iV f.gn,iV f.gd]],by simp[f119,D6.bS,o9,A8,l8 a,b,c,jv,eX,Y0,h0,h1,h2,h3],o8 a _⟩
   |false=>exact⟨ext m [j6 f.bS,j6 [iV f.gn,iV f.gd]],by simp[f119,D6.bS,o9,A8,l8 a,b,c,jv,eX,Y0,h0,h1,h2],o8 a _⟩
  |false=>exact⟨ext m [j6 f.bS,j6 [iV f.gn,iV f.gd]],by simp[f119,D6.bS,o9,A8,l8 a,b,jv,eX,Y0,h0,h1],o8 a _⟩
 |false=>exact⟨ext m [j6 f.bS,j6 [iV f.gn,iV f.gd]],by simp[f119,D6.bS,o9,A8,l8 a,b,jv,eX,Y0,h0],o8 a _⟩
def J3(id:Nat):cM:=[iZ,iZ,.slice id 0 1 1,nS,nS,nS,nS]
@[simp] theorem at5(f:D6):f.bS.length=8:=id rfl
@[simp] theorem awq(f:D6):f.bS.take 8=f.bS:=id rfl
@[simp] theorem awr(f:D6)(h:0<f.bS.length):f.bS[0]'h=iV f.gid:=id rfl
@[simp] theorem aws(f:D6)(h:1<f.bS.length):f.bS[1]'h=iV f.made:=id rfl
@[simp] theorem at6(f:D6):H8 f.bS=true:=id rfl
@[simp] theorem NC(f:D6):[j5.int .i64 f.gid,iV f.made,iV f.nom,iV f.tlo,iV f.thi,iV f.gn,iV f.gd,iV f.wear]=f.bS:=id rfl
def aeK(f:D6)(i:ah f.gn)(hb:ah f.gd)(n c:Nat)(e:20000<=c)(m:cD)(b:m.Ok)(h:m.lim<=m.nx)(id:Nat)(g:id<m.nx)(j:m.get id=some (j6 f.bS)):
   ∃m',l9 KW c (n+4) (.func 181) [.agg (J3 id)] m=some [⟨iV (bif Y0 f then 0 else 1),m'⟩]∧cE m m':=by
 rw[en f181];obtain⟨N,rfl⟩:∃N,c=N+2:=⟨c-2,Zs⟩;have a:(ext m [j6 (J3 id)]).get id=some (j6 f.bS):=by rw[H6 b _ g];exact j
 have l:j6 [j5.int .i64 0,iZ,iZ,iZ,iZ,iZ,iZ,iZ]=j6 [j5.int .i64 0,iZ,iZ,iZ,iZ,iZ,iZ,iZ]:=rfl;obtain⟨k,d,E1⟩:=aeI f i hb n (N+2) e (ext m [j6 (J3 id),j6 f.bS]) (I7 b _);refine⟨k,?_,(o8 b _).trans E1⟩;simp only[J3]at a d ⊢;cases hgb:Y0 f<;>rw[hgb]at d
 simp[f181,Pt,o7,ay b h,a,d];simp[f181,Pt,o7,ay b h,a,d,show kY 1=1 from Z7 ZS ZS]
def aeL(f:D6)(n b:Nat)(i:20000<=b)(m:cD)(g:m.Ok)(h:m.lim<=m.nx)(id:Nat)(e:id<m.nx)(j:m.get id=some (j6 f.bS)):
   ∃p m',l9 KW b (n+1) (.func 182) [.agg (J3 id)] m=some [⟨.map p,m'⟩]∧cE m m':=by
 rw[en f182];obtain⟨N,rfl⟩:∃N,b=N+2:=⟨b-2,Zs⟩;have d:∀c,blt (m.nx+c) m.lim=false:=λc=>by have:=WZ h [] c;rwa [Ay]at this
 have a:(ext m [j6 (J3 id),.map []]).get id=some (j6 f.bS):=by rw[H6 g _ e];exact j
 refine⟨m.nx+1,ext m [j6 (J3 id),.map [(iV f.gid,.agg f.bS)],j6 f.bS],?_,o8 g _⟩;simp only[J3]at a ⊢;simp[f182,Vg,o7,ay g h,a,Cm,d,Ph,wO,show kY 1=1 from Z7 ZS ZS]
def aeM(n a:Nat)(m:cD)(c:m.Ok)(b:m.lim<=m.nx)(id p:Nat):
   l9 KW a (n+1) (.func 183) [.agg (J3 id),.map p] m=some [⟨.func (.func 315) [] [.ptr m.nx 0,.ptr (m.nx+2) 0,.ptr (m.nx+1) 0],ext m [j6 (J3 id),j6 [.map p],j6 [.func (.func 312) [] [.ptr (m.nx+1) 0]]]⟩]:=by
 rw[en f183];simp only[J3];simp[f183,ay c b,D8]
def aeN(n a:Nat)(b:20000<=a)(m:cD)(id p q r:Nat)(y:j5)(hp:m.get p=some (j6 (J3 id))):
   l9 KW a (n+1) (.func 315) [y,.ptr p 0,.ptr q 0,.ptr r 0] m=some [⟨.tuple [],m⟩]:=by
 rw[en f315];obtain⟨N,rfl⟩:∃N,a=N+2:=⟨a-2,Zs⟩;simp only[J3]at hp;simp[f315,FU,Kr,Px,Vk,o7,hp]
def aii(n c:Nat)(m:cD):l9 KW c (n+1) (.func 290) [.int .u64 1] m=some [⟨iV 1,m⟩]:=by
 rw[en f290];have d:iB .u8 1=1:=by decide +kernel
 have e:iB .i64 1=1:=by decide +kernel
 have f:kY 1=1:=Z7 ZS ZS;have g:∀(x:OF) (a:T j5) b,x b a=.int .u8 1->Dc (bO (.str [0,1,2,2,3,3,3,3,4,4,4,4,4,4,4,4,5,5,5,5,5,5,5,5,5,5,5,5,5,5,5,5,6,6,6,6,6,6,6,6,6,6,6,6,6,6,6,6,6,6,6,6,6,6,6,6,6,6,6,6,6,6,6,6,7,7,7,7,7,7,7,7,7,7,7,7,7,7,7,7,7,7,7,7,7,7,7,7,7,7,7,7,7,7,7,7,7,7,7,7,7,7,7,7,7,7,7,7,7,7,7,7,7,7,7,7,7,7,7,7,7,7,7,7,7,7,7,7,8,8,8,8,8,8,8,8,8,8,8,8,8,8,8,8,8,8,8,8,8,8,8,8,8,8,8,8,8,8,8,8,8,8,8,8,8,8,8,8,8,8,8,8,8,8,8,8,8,8,8,8,8,8,8,8,8,8,8,8,8,8,8,8,8,8,8,8,8,8,8,8,8,8,8,8,8,8,8,8,8,8,8,8,8,8,8,8,8,8,8,8,8,8,8,8,8,8,8,8,8,8,8,8,8,8,8,8,8,8,8,8,8,8,8,8,8,8,8,8,8,8,8,8,8,8,8,8])) x b a=some (.int .u8 1):=by intro x a b h;show jC (x b a) _=_;rw[h];rfl
 simp[f290,d,e,f,g]
def aij(n a:Nat)(m:cD):l9 KW a (n+2) (.func 174) [.int .u64 1] m=some [⟨iV 1,m⟩]:=by rw[en f174];simp[f174,aii]
def aik(v:j5)(n a:Nat)(b:20000<=a)(m:cD):l9 KW a (n+1) (.func 425) [v,iZ,iV 1] m=some [⟨.tuple [],m⟩]:=by rw[en ahX];obtain⟨N,rfl⟩:∃N,a=N+2:=⟨a-2,Zs⟩;simp[ahX,Vr,o7,show kY 1=1 from Z7 ZS ZS]
def ail(v:j5)(n a:Nat)(b:20000<=a)(m:cD):l9 KW a (n+2) (.func 355) [v,iZ,iV 1,iV 1] m=some [⟨.tuple [],m⟩]:=by rw[en ahS];obtain⟨N,rfl⟩:∃N,a=N+2:=⟨a-2,Zs⟩;have c:=aik v n (N+2) b m;simp[ahS,Vn,o7,show kY 1=1 from Z7 ZS ZS,c]
def aqy(id c:Nat)(n a:Nat)(b:20000<=a)(m:cD):l9 KW a (n+3) (.func 244) [.slice id 0 1 c] m=some [⟨.tuple [],m⟩]:=by
 rw[en f244];have d:=ail (.slice id 0 1 c) n a b m;have e:iB .u64 1=1:=by decide +kernel
 simp[f244,e,aij,d]
def ain(id c:Nat)(n a:Nat)(b:20000<=a)(m:cD):l9 KW a (n+1) (.func 396) [.slice id 0 1 c] m=some [⟨.slice id 0 1 c,m⟩]:=by rw[en ahW];simp[ahW]
def aeO(f:D6)(n b:Nat)(a:20000<=b)(m:cD)(d:m.Ok)(c:m.lim<=m.nx)(id:Nat):
   l9 KW b (n+4) (.func 318) [.agg (J3 id),.agg f.bS] m=some [⟨.slice (m.nx+2) 0 1 1,ext m [j6 (J3 id),j6 f.bS,j6 [iV f.made]]⟩]:=by
 rw[en f318];obtain⟨N,rfl⟩:∃N,b=N+2:=⟨b-2,Zs⟩;simp only[J3];simp[f318,Py,Vl,o7,ay d c,I5,aqy _ _ n (N+2) a,ain _ _ (n+2) (N+2) a]
def aeP(a b:j5)(m:cD)(f:m.Ok)(id:Nat)(d:m.get id=some (j6 [a,b])):Z8 m 2 1 (.slice id 0 1 1)=some [a,b]:=by show Z6 m id 0 (Nat.mul 1 2)=_;show aY (m.get id) (λe k c=>J7 e k c 2 0)=_;rw[d];kernel_rfl
def SG(a b:j5)(m:cD)(d:m.Ok)(id:Nat)(c:m.get id=some (j6 [a,b]))(s x:OF)(cf:G6)(ls:cM)(env:T j5)(hs:s ls env=nS)(e:x ls env=.slice id 0 1 1):
   lu 2 16 s x cf ls env m=some [⟨.sliceU m.nx 0 1 2,m.new (j6 [a,b])⟩]:=by
 show ob (lenOf (x ls env)) (λn=>ob (Z8 m 2 n (x ls env)) λnew=>jS m 2 16 n new (s ls env))=_;rw[e,hs];show ob (Z8 m 2 1 (.slice id 0 1 1)) _=_;rw[aeP a b m d id c];rfl
def aeQ(f:D6)(n e:Nat)(h:20000<=e)(m:cD)(b:m.Ok)(o:m.lim<=m.nx)(id:Nat)(i:id<m.nx)(l:m.get id=some (j6 f.bS)):
   ∃p m',l9 KW e (n+5) (.func 184) [.agg (J3 id)] m=some [⟨.sliceU p 0 1 2,m'⟩]∧cE m m':=by
 rw[en f184];obtain⟨N,rfl⟩:∃N,e=N+2:=⟨e-2,Zs⟩;have c:(ext m [j6 (J3 id)]).get id=some (j6 f.bS):=by rw[H6 b _ i];exact l
 have j:=aeO f n (N+2) h (ext m [j6 (J3 id),j6 f.bS]) (I7 b _) ZD id;have k:∀(s x:OF) g d a,s d a=nS->x d a=.slice (m.nx+5) 0 1 1->
   lu 2 16 s x g d a (ext m [j6 (J3 id),j6 f.bS,j6 (J3 id),j6 f.bS,j6 [iV f.made],j6 [iV f.gid,iV f.made]]) =
    some [⟨.sliceU (m.nx+6) 0 1 2,ext m [j6 (J3 id),j6 f.bS,j6 (J3 id),j6 f.bS,j6 [iV f.made],j6 [iV f.gid,iV f.made],j6 [iV f.gid,iV f.made]]⟩]:=by
  intro s x g d a q r;rw[SG (iV f.gid) (iV f.made) _ (I7 b _) (m.nx+5) (by rw[r9 b];rfl) s x g d a q r,← jF];simp
 refine⟨m.nx+6,ext m [j6 (J3 id),j6 f.bS,j6 (J3 id),j6 f.bS,j6 [iV f.made],j6 [iV f.gid,iV f.made],j6 [iV f.gid,iV f.made]],?_,o8 b _⟩;simp only[J3]at c j k ⊢;simp[f184,Pv,Vh,o7,ay b o,I5,aie,c,j,k,show kY 1=1 from Z7 ZS ZS]
def aeR(f:D6)(O:ah f.gn)(hb:ah f.gd)(n g:Nat)(h:20000<=g)(m:cD)(k:m.Ok)(B:m.lim<=m.nx)(id:Nat)(A:id<m.nx)(P:m.get id=some (j6 f.bS)):
   ∃m',l9 KW g (n+8) (.func 112) [.agg (J3 id)] m=some [⟨iV (bif Y0 f then 0 else 1),m'⟩]∧cE m m':=by
 rw[en f112];have b:=Xj (n+6) g 0 0 0 1000000 (ext m [j6 (J3 id),j6 [iZ]]) (I7 k _);have t:(ext m [j6 (J3 id),j6 [iZ],j6 [iZ,iZ]]).get id=some (j6 f.bS):=by rw[H6 k _ A];exact P
 have E2:=o8 k [j6 (J3 id),j6 [iZ],j6 [iZ,iZ]];obtain⟨c,s,E3⟩:=aeK f O hb (n+3) g h _ (I7 k [j6 (J3 id),j6 [iZ],j6 [iZ,iZ]]) ZD id ZD t;have i:c.get m.nx=some (j6 (J3 id)):=by rw[E3.old _ ZZ,l8 k];rfl
 have v:c.get (m.nx+1)=some (j6 [iZ]):=by rw[E3.old _ ZZ,r9 k];rfl
 have E23:=E2.trans E3;have R:c.lim<=m.nx:=by rw[E23.lim];exact B
 have V:m.nx+3<=c.nx:=by have:=E3.nx;simpa using this
 have N:c.Ok:=E3.ok;cases hgb:Y0 f with
 |false=>rw[hgb]at s;refine⟨c.set (m.nx+1) (j6 [iV 1]),?_,E23.set Zs Zs _⟩;have H:(c.set (m.nx+1) (j6 [iV 1])).get (m.nx+1)=some (j6 [iV 1]):=fJ N _ Zs rfl;simp only[J3]at b s i ⊢;simp[f112,ay k B,D8,b,s,v,Cn (show c.lim<=m.nx+1 by omega),H]
 |true=>
  rw[hgb]at s;have u:c.get id=some (j6 f.bS):=by rw[E3.old _ ZD];exact t
  obtain⟨p,a,J,E4⟩:=aeL f (n+6) g h c N Zs id Zs u;have l:a.Ok:=E4.ok;have S:a.lim<=m.nx:=by rw[E4.lim];exact R
  have W:c.nx<=a.nx:=E4.nx;have j:a.get m.nx=some (j6 (J3 id)):=by rw[E4.old _ Zs];exact i
  have E:a.get (m.nx+1)=some (j6 [iZ]):=by rw[E4.old _ Zs];exact v
  have K:=aeM (n+6) g a l Zs id p;have L:∀y I e r D o z,l9 KW g (n+7) (.func 315) [y,.ptr a.nx 0,.ptr (a.nx+2) 0,.ptr (a.nx+1) 0] (ext a [j6 (J3 id),j6 [.map p],j6 [.func (.func 312) [] [.ptr (a.nx+1) 0]],.deferred,.loop I e r D o z])=some [⟨.tuple [],ext a [j6 (J3 id),j6 [.map p],j6 [.func (.func 312) [] [.ptr (a.nx+1) 0]],.deferred,.loop I e r D o z]⟩]:=λy I e r D o z=>aeN (n+6) g h _ id _ _ _ y (by rw[l8 l];rfl)
  have E6:=o8 l [j6 (J3 id),j6 [.map p],j6 [.func (.func 312) [] [.ptr (a.nx+1) 0]],.deferred,.dead];have w:(ext a [j6 (J3 id),j6 [.map p],j6 [.func (.func 312) [] [.ptr (a.nx+1) 0]],.deferred,.dead]).get m.nx=some (j6 (J3 id)):=by rw[E6.old _ Zs];exact j
  obtain⟨q,d,M,E7⟩:=aeQ f (n+2) g h _ (I7 l [j6 (J3 id),j6 [.map p],j6 [.func (.func 312) [] [.ptr (a.nx+1) 0]],.deferred,.dead]) ZD id ZD
   (by rw[H6 l _ Zs,E4.old _ Zs];exact u)
  have E47:=E6.trans E7;have C:d.Ok:=E7.ok;have X:a.nx+5<=d.nx:=by have:=E7.nx;simpa using this
  have U:d.lim<=m.nx:=by rw[E47.lim];exact S
  have x:d.get m.nx=some (j6 (J3 id)):=by rw[E47.old _ Zs];exact j
  have F:d.get (m.nx+1)=some (j6 [iZ]):=by rw[E47.old _ Zs];exact E
  have G:d.get (a.nx+3)=some .deferred:=by rw[E7.old _ ZZ,r9 l];rfl
  have E07:=(E23.trans E4).trans E47;refine⟨(d.set (m.nx+1) (j6 [iZ])).set (a.nx+3) .dead,?_,(E07.set Zs Zs _).set ZD Zs _⟩;have Q:(d.set (m.nx+1) (j6 [iZ])).Ok:=C.set Zs _;have T:(d.set (m.nx+1) (j6 [iZ])).get (a.nx+3)=some .deferred:=by rw[jr C _ Zs Zs];exact G
  have H:((d.set (m.nx+1) (j6 [iZ])).set (a.nx+3) .dead).get (m.nx+1)=some (j6 [iZ]):=by rw[jr Q _ ZD Zs];exact fJ C _ Zs rfl
  simp only[J3]at b s i J j w K L M x ⊢;simp[f112,ay k B,D8,r9 l,pY l,b,s,i,J,j,w,K,L,M,x,F,Cn (show d.lim<=m.nx+1 by omega),ae3,T,H,show kY 2=2 from Z7 ZS ZS,show kY 0=0 from Z7 ZS ZS]
def aeS(e:ah f.gn)(hb:ah f.gd)(a:m.Ok)(g:m.lim<=m.nx)(n b:Nat)(d:20000<=b):
   ∃m',l9 KW b (n+9) (.func 208) [.agg f.cells] m=some [⟨.bool (Y0 f),m'⟩]∧cE m m':=by
 rw[en f208];obtain⟨h,c,E1⟩:=aeR f e hb n b d (ext m [j6 f.cells,j6 f.bS]) (I7 a _) ZD (m.nx+1) ZZ (by rw[r9 a];rfl);refine⟨h,?_,(o8 a _).trans E1⟩;simp only[J3]at c;cases hgb:Y0 f<;>rw[hgb]at c<;>simp[f208,ay a g,I5,c]
def aeT(n a:Nat)(b:20000<=a)(m:cD)(d:m.Ok)(c:m.lim<=m.nx)(id:Nat):
   l9 KW a (n+1) (.func 120) [.agg (J3 id)] m=some [⟨iZ,ext m [j6 (J3 id)]⟩]:=by
 rw[en f120];obtain⟨N,rfl⟩:∃N,a=N+2:=⟨a-2,Zs⟩;simp only[J3];simp[f120,UY,o7,ay d c]
def aeU(n a:Nat)(b:20000<=a)(m:cD)(d:m.Ok)(c:m.lim<=m.nx)(id:Nat):
   l9 KW a (n+1) (.func 121) [.agg (J3 id)] m=some [⟨iZ,ext m [j6 (J3 id)]⟩]:=by
 rw[en f121];obtain⟨N,rfl⟩:∃N,a=N+2:=⟨a-2,Zs⟩;simp only[J3];simp[f121,Va,o7,ay d c]
def aeV(f:D6)(n a:Nat)(b:20000<=a)(m:cD)(d:m.Ok)(c:m.lim<=m.nx)(id:Nat):
   l9 KW a (n+1) (.func 192) [.agg (J3 id),.agg f.bS,iV f.made] m=some [⟨tV,ext m [j6 (J3 id),j6 f.bS]⟩]:=by
 rw[en f192];obtain⟨N,rfl⟩:∃N,a=N+2:=⟨a-2,Zs⟩;simp only[J3];simp[f192,ay d c]
def aeW(a:j5)(m:cD)(e:m.Ok)(id:Nat)(c:m.get id=some (j6 [a])):Z8 m 1 1 (.slice id 0 1 1)=some [a]:=by show Z6 m id 0 (Nat.mul 1 1)=_;show aY (m.get id) (λd k b=>J7 d k b 1 0)=_;rw[c];kernel_rfl
def abD(a:j5)(m:cD)(c:m.Ok)(id:Nat)(b:m.get id=some (j6 [a]))(s x:OF)(cf:G6)(ls:cM)(env:T j5)(hs:s ls env=nS)(d:x ls env=.slice id 0 1 1):
   lu 1 8 s x cf ls env m=some [⟨.sliceU m.nx 0 1 1,m.new (j6 [a])⟩]:=by
 show ob (lenOf (x ls env)) (λn=>ob (Z8 m 1 n (x ls env)) λnew=>jS m 1 8 n new (s ls env))=_;rw[d,hs];show ob (Z8 m 1 1 (.slice id 0 1 1)) _=_;rw[aeW a m c id b];rfl
def aio(b:Int)(hb:b<20001)(x y:OF)(ls:cM)(env:T j5)(a:x ls env=iV 20001)(c:y ls env=iV b):
   pMm false x [y] ls env=some (iV b):=by
 show ob (mm2 false (x ls env) (y ls env)) _=_;rw[a,c];show some (j5.int .i64 (bi (mX b 20001) b 20001))=_;rw[show mX b 20001=true by rw[iY];simp;omega];rfl
def Xq(f:D6)(h0:0<=f.made)(C:f.made<=20000)(n k:Nat)(q:20000<=k)(m:cD)(c:m.Ok)(z:m.lim<=m.nx)(id:Nat)(d:id<m.nx)(l:m.get id=some (j6 f.bS)):
   l9 KW k (n+2) (.func 126) [.agg (J3 id)] m=some [⟨.sliceU (m.nx+6) 0 1 2,ext m [j6 (J3 id),j6 [iV f.made],j6 [iV f.made],j6 (J3 id),j6 f.bS,j6 [iV f.gid,iV f.made],j6 [iV f.gid,iV f.made]]⟩]:=by
 rw[en f126];obtain⟨N,rfl⟩:∃N,k=N+3:=⟨k-3,Zs⟩;have g:(ext m [j6 (J3 id)]).get id=some (j6 f.bS):=by rw[H6 c _ d];exact l
 have h:(ext m [j6 (J3 id),j6 [iV f.made],j6 [iV f.made]]).get id=some (j6 f.bS):=by rw[H6 c _ d];exact l
 have i:(ext m [j6 (J3 id),j6 [iV f.made],j6 [iV f.made],j6 (J3 id),j6 f.bS]).get id=some (j6 f.bS):=by rw[H6 c _ d];exact l
 have j:(ext m [j6 (J3 id),j6 [iV f.made],j6 [iV f.made],j6 (J3 id),j6 f.bS,j6 [iV f.gid,iV f.made],j6 [iV f.gid,iV f.made]]).get id=some (j6 f.bS):=by rw[H6 c _ d];exact l
 have u:∀(s x:OF) e b a,s b a=nS->x b a=.slice (m.nx+1) 0 1 1->
   lu 1 8 s x e b a (ext m [j6 (J3 id),j6 [iV f.made]])=some [⟨.sliceU (m.nx+2) 0 1 1,ext m [j6 (J3 id),j6 [iV f.made],j6 [iV f.made]]⟩]:=by
  intro s x e b a r t;rw[abD (iV f.made) _ (I7 c _) (m.nx+1) (by rw[r9 c];rfl) s x e b a r t,← jF];simp
 have v:=aeV f n (N+3) q (ext m [j6 (J3 id),j6 [iV f.made],j6 [iV f.made]]) (I7 c _) ZD id;have w:∀(s x:OF) e b a,s b a=nS->x b a=.slice (m.nx+5) 0 1 1->
   lu 2 16 s x e b a (ext m [j6 (J3 id),j6 [iV f.made],j6 [iV f.made],j6 (J3 id),j6 f.bS,j6 [iV f.gid,iV f.made]]) =
    some [⟨.sliceU (m.nx+6) 0 1 2,ext m [j6 (J3 id),j6 [iV f.made],j6 [iV f.made],j6 (J3 id),j6 f.bS,j6 [iV f.gid,iV f.made],j6 [iV f.gid,iV f.made]]⟩]:=by
  intro s x e b a r t;rw[SG (iV f.gid) (iV f.made) _ (I7 c _) (m.nx+5) (by rw[r9 c];rfl) s x e b a r t,← jF];simp
 have y:=aio f.made Zs;have A:decide (-1<f.made)=true:=ZD
 have B:decide (f.made<20001)=true:=ZD
 have o:-1<f.made:=Zs
 have p:f.made<20001:=Zs
 simp only[J3]at g h i j u v w ⊢;simp[f126,zP,Cu,FH,Kl,Pp,Vb,o7,ay c z,I5,g,h,i,j,u,v,w,y,o,p,show kY 1=1 from Z7 ZS ZS]
@[simp] theorem awt(f:D6)(h:2<f.bS.length):f.bS[2]'h=iV f.nom:=id rfl
@[simp] theorem awu(f:D6)(h:3<f.bS.length):f.bS[3]'h=iV f.tlo:=id rfl
@[simp] theorem awv(f:D6)(h:4<f.bS.length):f.bS[4]'h=iV f.thi:=id rfl
def vO(a b:cM):Y9:=.cells (len' a) 2 (T.ofList [a,b])
def SH{β:Type}{es:Nat}{a:cM}(h:a.length=es+es)(k:Y9->Option β):jR es 2 a k=k (vO (a.take es) (a.drop es)):=by
 show ob (ob (takeN es a) λr=>ob (ob (takeN es (iA es a)) λf=>ob (rowsOf es 0 (iA es (iA es a))) λb=>some (f::b)) λb=>some (r::b)) (λc=>k (.cells es 2 (T.ofList c)))=_;have g:(a.drop es).length=es:=ZD
 have d:(a.drop es).drop es=[]:=su Zs;have e:(a.drop es).take es=a.drop es:=P9 Zs;rw[iL _ _ Zs,I6,fC,iL _ _ Zs,I6,fC,d,e];show k (.cells es 2 (T.ofList [a.take es,a.drop es]))=k (.cells (len' (a.take es)) 2 (T.ofList [a.take es,a.drop es]));rw[K7,ajv,avy Zs]
def KC(es:Nat)(zero:cM)(ps:List (Nat×Nat×OF))(ls:cM)(env:T j5)(nid:Nat):J2 es 2 zero ps ls env nid=ob (lay ps ls env (zero++zero)) λcells=>if cells.length=es+es then some (.slice nid 0 2 2,some (vO (cells.take es) (cells.drop es)))else jR es 2 cells λb=>some (.slice nid 0 2 2,some b):=by show ob (lay ps ls env (dK zero (dK zero []))) (λcells=>jR es 2 cells λb=>some (j5.slice nid 0 2 2,some b))=_;rw[V9,V9,agA];congr 1;funext cells;split;rename_i h;rw[SH h];rfl
def aeX(a b c d:j5)(m:cD)(i:m.Ok)(id:Nat)(f:m.get id=some (vO [a,b] [c,d]))(s x:OF)(cf:G6)(ls:cM)(env:T j5)(hs:s ls env=nS)(g:x ls env=.slice id 0 2 2):
   lu 2 16 s x cf ls env m=some [⟨.sliceU m.nx 0 2 2,m.new (vO [a,b] [c,d])⟩]:=by
 show ob (lenOf (x ls env)) (λn=>ob (Z8 m 2 n (x ls env)) λnew=>jS m 2 16 n new (s ls env))=_;rw[g,hs];show ob (Z8 m 2 2 (.slice id 0 2 2)) _=_;rw[show Z8 m 2 2 (.slice id 0 2 2)=some [a,b,c,d] by
  show aY (m.get id) (λh k e=>J7 h k e 4 0)=_;rw[f];kernel_rfl]
 rfl
def aeY(a b c d e f:j5)(m:cD)(l:m.Ok)(id:Nat)(h:m.get id=some (vO [a,b,c] [d,e,f]))(s x:OF)(cf:G6)(ls:cM)(env:T j5)(hs:s ls env=nS)(i:x ls env=.slice id 0 2 2):
   lu 3 24 s x cf ls env m=some [⟨.sliceU m.nx 0 2 3,m.new (vO [a,b,c] [d,e,f])⟩]:=by
 show ob (lenOf (x ls env)) (λn=>ob (Z8 m 3 n (x ls env)) λnew=>jS m 3 24 n new (s ls env))=_;rw[i,hs];show ob (Z8 m 3 2 (.slice id 0 2 2)) _=_;rw[show Z8 m 3 2 (.slice id 0 2 2)=some [a,b,c,d,e,f] by
  show aY (m.get id) (λj k g=>J7 j k g 6 0)=_;rw[h];kernel_rfl]
 rfl
def aeZ(f:D6)(h0:0<=f.made)(C:f.made<=20000)(n r:Nat)(t:20000<=r)(m:cD)(j:m.Ok)(E:m.lim<=m.nx)(id:Nat)(u:id<m.nx)(D:m.get id=some (j6 f.bS)):
   ∃p q m',l9 KW r (n+3) (.func 127) [.agg (J3 id)] m=some [⟨.agg [.sliceU p 0 2 3,.sliceU q 0 2 2],m'⟩]∧cE m m':=by
 rw[en f127];obtain⟨N,rfl⟩:∃N,r=N+2:=⟨r-2,Zs⟩;have o:∀y,(ext m y).get id=some (j6 f.bS):=λy=>by rw[H6 j _ u];exact D
 have l:=o [j6 (J3 id),j6 [nS,nS],j6 [nS,nS],j6 (J3 id),j6 [iV f.made],j6 [iV f.made],j6 (J3 id),j6 f.bS,j6 [iV f.gid,iV f.made],j6 [iV f.gid,iV f.made]];have z:=Xq f h0 C n (N+2) t (ext m [j6 (J3 id),j6 [nS,nS],j6 [nS,nS]]) (I7 j _) ZD id ZD (o _);have A:∀(a b c d e g:Int) (s x:OF) k i h,s i h=nS->x i h=.slice (m.nx+11) 0 2 2->
   lu 3 24 s x k i h (ext m [j6 (J3 id),j6 [nS,nS],j6 [nS,nS],j6 (J3 id),j6 [iV f.made],j6 [iV f.made],j6 (J3 id),j6 f.bS,j6 [iV f.gid,iV f.made],j6 [iV f.gid,iV f.made],j6 f.bS,vO [iV a,iV b,iV c] [iV d,iV e,iV g]])=some [⟨.sliceU (m.nx+12) 0 2 3,ext m [j6 (J3 id),j6 [nS,nS],j6 [nS,nS],j6 (J3 id),j6 [iV f.made],j6 [iV f.made],j6 (J3 id),j6 f.bS,j6 [iV f.gid,iV f.made],j6 [iV f.gid,iV f.made],j6 f.bS,vO [iV a,iV b,iV c] [iV d,iV e,iV g],vO [iV a,iV b,iV c] [iV d,iV e,iV g]]⟩]:=by
  intro a b c d e g s x k i h v w;rw[aeY (iV a) (iV b) (iV c) (iV d) (iV e) (iV g) _ (I7 j _) (m.nx+11) (by rw[r9 j];rfl) s x k i h v w,← jF];simp
 have B:∀(a b c d e g:Int) (s x:OF) k i h,s i h=nS->x i h=.slice (m.nx+13) 0 2 2->
   lu 2 16 s x k i h (ext m [j6 (J3 id),j6 [nS,nS],j6 [.sliceU (m.nx+12) 0 2 3,nS],j6 (J3 id),j6 [iV f.made],j6 [iV f.made],j6 (J3 id),j6 f.bS,j6 [iV f.gid,iV f.made],j6 [iV f.gid,iV f.made],j6 f.bS,vO [iV a,iV b,iV c] [iV d,iV e,iV g],vO [iV a,iV b,iV c] [iV d,iV e,iV g],vO [iV 1,iZ] [iV 1,iZ]])=some [⟨.sliceU (m.nx+14) 0 2 2,ext m [j6 (J3 id),j6 [nS,nS],j6 [.sliceU (m.nx+12) 0 2 3,nS],j6 (J3 id),j6 [iV f.made],j6 [iV f.made],j6 (J3 id),j6 f.bS,j6 [iV f.gid,iV f.made],j6 [iV f.gid,iV f.made],j6 f.bS,vO [iV a,iV b,iV c] [iV d,iV e,iV g],vO [iV a,iV b,iV c] [iV d,iV e,iV g],vO [iV 1,iZ] [iV 1,iZ],vO [iV 1,iZ] [iV 1,iZ]]⟩]:=by
  intro a b c d e g s x k i h v w;rw[aeX (iV 1) iZ (iV 1) iZ _ (I7 j _) (m.nx+13) (by rw[r9 j];rfl) s x k i h v w,← jF];simp
 refine⟨m.nx+12,m.nx+14,ext m [j6 (J3 id),j6 [.sliceU (m.nx+12) 0 2 3,.sliceU (m.nx+14) 0 2 2],j6 [.sliceU (m.nx+12) 0 2 3,.sliceU (m.nx+14) 0 2 2],j6 (J3 id),j6 [iV f.made],j6 [iV f.made],j6 (J3 id),j6 f.bS,j6 [iV f.gid,iV f.made],j6 [iV f.gid,iV f.made],j6 f.bS,vO [iZ,iV 1,iV (kY (f.nom+f.thi))] [iV 1,iZ,iV (kY (kY (-f.nom)-f.tlo))],vO [iZ,iV 1,iV (kY (f.nom+f.thi))] [iV 1,iZ,iV (kY (kY (-f.nom)-f.tlo))],vO [iV 1,iZ] [iV 1,iZ],vO [iV 1,iZ] [iV 1,iZ]],?_,o8 j _⟩;simp only[J3]at l z A B ⊢;simp[f127,Km,Pq,Vd,o7,ay j E,D8,KC,aie,l,z,A,B,show kY 1=1 from Z7 ZS ZS]
def SI(f:D6)(h:Y0 f=true):0<=f.made∧f.made<=20000:=by simp only[Y0,oo,ck]at h;exact h.2.2.2.2.1
def aip(f:D6)(A:ah f.gn)(hb:ah f.gd)(n s:Nat)(c:20000<=s)(m:cD)(l:m.Ok)(w:m.lim<=m.nx)(id:Nat)(t:id<m.nx)(B:m.get id=some (j6 f.bS)):
   ∃m',l9 KW s (n+5) (.func 53) [.agg (J3 id)] m=some [⟨iV (bif Y0 f then 0 else 1),m'⟩]∧cE m m':=by
 rw[en f53];obtain⟨N,rfl⟩:∃N,s=N+2:=⟨s-2,Zs⟩;have g:=Xi (n+3) (N+2) 0 0 0 1000000 (ext m [j6 (J3 id)]) (I7 l _);have d:(ext m [j6 (J3 id),j6 [iZ,iZ]]).get id=some (j6 f.bS):=by rw[H6 l _ t];exact B
 have E2:=o8 l [j6 (J3 id),j6 [iZ,iZ]];obtain⟨a,o,E3⟩:=aeJ f A hb (n+1) (N+2) c _ (I7 l [j6 (J3 id),j6 [iZ,iZ]]);have b:a.get m.nx=some (j6 (J3 id)):=by rw[E3.old _ ZZ,l8 l];rfl
 have r:a.get id=some (j6 f.bS):=by rw[E3.old _ ZD];exact d
 have E23:=E2.trans E3;have C:a.lim<=a.nx:=by rw[E23.lim];have:=E23.nx;omega
 have E:m.nx+2<=a.nx:=by have:=E3.nx;simpa using this
 have e:a.Ok:=E3.ok;cases hgb:Y0 f with
 |false=>rw[hgb]at o;refine⟨a,?_,E23⟩;simp only[J3]at g d o b ⊢;simp[f53,Xg,o7,ay l w,g,d,o]
 |true=>
  rw[hgb]at o;obtain⟨u,v⟩:=SI f hgb;have h:=aeT (n+3) (N+2) c a e C id;have i:=aeU (n+3) (N+2) c (ext a [j6 (J3 id)]) (I7 e _) ZD id;have x:(ext a [j6 (J3 id)]).get m.nx=some (j6 (J3 id)):=by rw[H6 e _ Zs];exact b
  have y:(ext a [j6 (J3 id),j6 (J3 id)]).get m.nx=some (j6 (J3 id)):=by rw[H6 e _ Zs];exact b
  have j:=Xq f u v (n+2) (N+2) c (ext a [j6 (J3 id),j6 (J3 id)]) (I7 e _) ZD id ZD (by rw[H6 e _ Zs];exact r);have z:(ext a [j6 (J3 id),j6 (J3 id),j6 (J3 id),j6 [iV f.made],j6 [iV f.made],j6 (J3 id),j6 f.bS,j6 [iV f.gid,iV f.made],j6 [iV f.gid,iV f.made]]).get m.nx=some (j6 (J3 id)):=by rw[H6 e _ Zs];exact b
  obtain⟨p,q,D,k,E5⟩:=aeZ f u v (n+1) (N+2) c (ext a [j6 (J3 id),j6 (J3 id),j6 (J3 id),j6 [iV f.made],j6 [iV f.made],j6 (J3 id),j6 f.bS,j6 [iV f.gid,iV f.made],j6 [iV f.gid,iV f.made]]) (I7 e _) ZD id ZD (by rw[H6 e _ Zs];exact r);refine⟨D,?_,E23.trans ((o8 e _).trans E5)⟩;simp only[J3]at g d o b h i x y z j k ⊢;simp[f53,Np,Xf,Xg,o7,ay l w,aie,g,d,o,b,h,i,j,x,y,z,k,show kY 1=1 from Z7 ZS ZS]
end
end Go.Proofs.YtpmfjipaheolgaaGreatDoor.TT
