/- Functions of the program and of the specification, walked; conditions: the memory holds what the arguments say. -/
import Derived.Test.YtfnlnpllpfhhnaaGreatDoorQB0
import Derived.Lib.ItoaMem
import Derived.Lib.AtoiAll
import Derived.Lib.SpaceU
set_option linter.all false
namespace Go.Proofs.YtfnlnpllpfhhnaaGreatDoor.TT
open Go Go.AM
noncomputable section
def Wt (f:Nat):Bool:=Nat.beq f 8||(Nat.beq f 83||(Nat.beq f 93||(Nat.beq f 147||(Nat.beq f 256||(Nat.beq f 257||Nat.beq f 94)))))
def aDB (f:FuncId):Option L6:=(fns f).map λsf=>{sf with pure:=Wt f}
def Et (s:List UInt8):EK:=match Lib.atoiAll s with
 | .ok v=>⟨.tuple [.int .i64 v,.nilIface],[]⟩
 | .range=>⟨.tuple [.int .i64 (Lib.atoiSat s),.iface 330 (.ptr base.nx 0)],[.dead]⟩
 | _=>⟨.tuple [.int .i64 0,.iface 330 (.ptr base.nx 0)],[.dead]⟩
def OY (s:List UInt8):EK:=⟨.slice base.nx 0 (Lib.fieldsD s).length (Lib.fieldsD s).length,[.cells 1 ((Lib.fieldsD s).map λw=>[d9.str w])]⟩
def akw (f:FuncId)(args:List d9)(bs:List NB):Option EK:=match bs with
 | []=>match args with
  | [.int .i64 n]=>if f=147∧-9223372036854775808<=n∧n<=9223372036854775807 then some ⟨.str (Lib.itoa n),[]⟩ else none
  | [.str s]=>if s.length<1000000 then (if f=93 then some (Et s) else if f=83 then some (OY s) else none) else none
  | _=>none
 | _=>none
def wG (f:FuncId)(args:List d9)(bs:List NB):Option EK:=if f=8 then sumOf [⟨8,[],[],.bool true,[]⟩] f args bs else if f=256∨f=257 then adz 257 256 94 base.nx f args bs else if f=94 then adz 257 256 94 base.nx 94 args bs else akw f args bs
def KW:Known:=⟨aDB,base,wG⟩
theorem enter {n a:Nat}{f:FuncId}{sf:L6}{vs:List d9}{m:Mem}(h:fns f=some sf)(b:Wt f=false):
  l8 KW a (n+1) (.func f) vs m=dI (l8 KW a n) (Gt KW (l8 KW a n) a) a sf vs m:=by
 rw [mJ];have h:KW.fns f=some {sf with pure:=false}:=by show (fns f).map _=_;rw [h,b];rfl
 simp only [h,I9,bA];rfl
theorem Gb {n a:Nat}{f:FuncId}{sf:L6}{vs:List d9}{m:Mem}(h:fns f=some sf)(b:Wt f=true):
  l8 KW a (n+1) (.func f) vs m=xO KW (l8 KW a n) a f {sf with pure:=true} vs m:=by
 rw [mJ];have h:KW.fns f=some {sf with pure:=true}:=by show (fns f).map _=_;rw [h,b];rfl
 simp only [h,I9];rfl
theorem ae7 (i:Int)(h0:-9223372036854775808<=i)(d:i<=9223372036854775807)(n b:Nat)(m:Mem):l8 KW b (n+1) (.func 147) [.int .i64 i] m=some [⟨.str (Lib.itoa i),m⟩]:=by
 rw [Gb (sf:=f147) rfl rfl,tH (K:=KW) (c:=⟨[],[.int .i64 i],[]⟩) (a:=⟨.str (Lib.itoa i),[]⟩) (wB m rfl λ_=>rfl)
  (by show wG 147 [.int .i64 i] []=_;rw [wG,if_neg (by decide),if_neg (by decide),if_neg (by decide)];exact if_pos ⟨rfl,h0,d⟩)]
 rfl
theorem Yd (s:List UInt8)(hs:s.length<1000000)(n f:Nat){m:Mem}(d:m.Ok):∃v m',l8 KW f (n+1) (.func 83) [.str s] m=some [⟨v,m'⟩]∧Ext m m'∧xw m' v (strs (Lib.fieldsD s)):=by
 refine⟨.slice m.nx 0 (Lib.fieldsD s).length (Lib.fieldsD s).length,m.new (eO (.cells 1 ((Lib.fieldsD s).map λw=>[d9.str w]))),?_,(Ext.refl d).new _,m.nx,0,_,by rw [G8],by rw [G8];exact aA _,by simp,.inr ⟨len' ((Lib.fieldsD s).map λw=>[d9.str w]),T.ofList ((Lib.fieldsD s).map λw=>[d9.str w]),?_,?_,λi g=>?_⟩⟩;rw [Gb (sf:=f83) rfl rfl,tH (K:=KW) (c:=⟨[],[.str s],[]⟩) (a:=OY s) (wB m rfl λ_=>rfl)
  (by show wG 83 [.str s] []=_;rw [wG,if_neg (by decide),if_neg (by decide),if_neg (by decide)];show (if s.length<1000000 then _ else _)=_;rw [if_pos hs,if_neg (by decide),if_pos rfl])]
 show ob (ob (iK base.nx [] m.nx base.nx) λj=>some (d9.slice j 0 (Lib.fieldsD s).length (Lib.fieldsD s).length)) (λv=>ob (ob (ob (nT (iK base.nx [] m.nx) ((Lib.fieldsD s).map λw=>[d9.str w])) λx=>some (NB.cells 1 x)) λx=>ob (some []) λy=>some (x::y)) λe=>one v (layAll e m))=_;rw [JZ,zM];rfl;rw [Mem.P5 d,if_pos rfl];rfl;rw [K7];simp [strs];have b:i<(Lib.fieldsD s).length:=by rwa [G8] at g
 rw [W9,T.bN,acs,cB b];simp [strs]
theorem Wu (s:List UInt8)(hs:s.length<1000000)(n l:Nat)(m:Mem)(g:m.Ok):∃v e m',l8 KW l (n+1) (.func 93) [.str s] m=some [⟨.tuple [.int .i64 v,e],m'⟩]∧Ext m m'∧
  ((Lib.atoiAll s=.ok v∧e=.nilIface)∨((∀x,Lib.atoiAll s≠.ok x)∧∃p,e=.iface 330 (.ptr p 0))):=by
 have b:l8 KW l (n+1) (.func 93) [.str s] m=ob (iJ (iK base.nx [] m.nx) (Et s).v) λv=>ob (wS (iK base.nx [] m.nx) (Et s).bs) λf=>one v (layAll f m):=by
  rw [Gb (sf:=f93) rfl rfl,tH (K:=KW) (c:=⟨[],[.str s],[]⟩) (a:=Et s) (wB m rfl λ_=>rfl)
   (by show wG 93 [.str s] []=_;rw [wG,if_neg (by decide),if_neg (by decide),if_neg (by decide)];show (if s.length<1000000 then _ else _)=_;rw [if_pos hs,if_pos rfl])]
  rfl
 have d:∀k:Int,ob (iJ (iK base.nx [] m.nx) (.tuple [.int .i64 k,.iface 330 (.ptr base.nx 0)])) (λv=>ob (wS (iK base.nx [] m.nx) [.dead]) λf=>one v (layAll f m))=some [⟨.tuple [.int .i64 k,.iface 330 (.ptr m.nx 0)],m.new .dead⟩]:=λk=>by show ob (ob (ob (some (d9.int .i64 k)) λx=>ob (ob (ob (ob (iK base.nx [] m.nx base.nx) λj=>some (d9.ptr j 0)) λx=>some (d9.iface 330 x)) λx=>ob (some []) λy=>some (x::y)) λy=>some (x::y)) λx=>some (d9.tuple x)) (λv=>ob (some [NB.dead]) λf=>one v (layAll f m))=_;rw [JZ];rfl
 cases h:Lib.atoiAll s with
 | ok v=>refine⟨v,.nilIface,m,?_,Ext.refl g,.inl ⟨rfl,rfl⟩⟩;rw [b];simp only [Et,h];rfl
 | range=>refine⟨Lib.atoiSat s,.iface 330 (.ptr m.nx 0),m.new .dead,?_,(Ext.refl g).new _,.inr ⟨(λx (i:Lib.NumEnd.range=.ok x)=>by cases i),m.nx,rfl⟩⟩;rw [b];simp only [Et,h];exact d _
 | _=>refine⟨0,.iface 330 (.ptr m.nx 0),m.new .dead,?_,(Ext.refl g).new _,.inr ⟨(by intro x i;cases i),m.nx,rfl⟩⟩;rw [b];simp only [Et,h];exact d 0
theorem aaT (s:List UInt8)(c:UInt8)(hs:s.length<1000000)(n b:Nat)(m:Mem):l8 KW b (n+1) (.func 257) [.str s,.str [c]] m=some [⟨.int .i64 (oI c s),m⟩]:=by
 rw [Gb (sf:=f257) rfl rfl,tH (K:=KW) (c:=⟨[],[.str s,.str [c]],[]⟩) (a:=⟨.int .i64 (oI c s),[]⟩) rfl
  (by
   show wG 257 [.str s,.str [c]] []=_;rw [wG,if_neg (by decide),if_pos (by decide)];show bi (Nat.blt (len' s) 1000000) (some (⟨.int .i64 (oI c s),[]⟩:EK)) none=_;rw [K7,show Nat.blt s.length 1000000=true from O6.mpr hs];rfl)]
 rfl
theorem aaU (s:List UInt8)(c:UInt8)(hs:s.length<1000000)(n b:Nat)(m:Mem):l8 KW b (n+1) (.func 256) [.str s,.str [c]] m=some [⟨.int .i64 (nD c s:Nat),m⟩]:=by
 rw [Gb (sf:=f256) rfl rfl,tH (K:=KW) (c:=⟨[],[.str s,.str [c]],[]⟩) (a:=⟨.int .i64 (.ofNat (nD c s)),[]⟩) rfl
  (by
   show wG 256 [.str s,.str [c]] []=_;rw [wG,if_neg (by decide),if_pos (by decide)];show bi (Nat.blt (len' s) 1000000) (some (⟨.int .i64 (.ofNat (nD c s)),[]⟩:EK)) none=_;rw [K7,show Nat.blt s.length 1000000=true from O6.mpr hs];rfl)]
 rfl
def xB (m:Mem)(v:d9)(ws:List (List UInt8)):Prop:=
 (v=.nilSlice∧ws=[])∨∃id off,base.nx<=id∧((∃c,v=.slice id off ws.length c∧ws.length<=c)∨v=.sliceU id off ws.length 1)∧id<m.nx∧
  ∃(all:List (List UInt8)) (rows:T (List d9)),m.get id=some (.cells 1 all.length rows)∧(∀i (h:i<all.length),rows.get i=some [.str all[i]])∧off+ws.length<=all.length∧ws=(all.drop off).take ws.length
theorem xB.vs {m:Mem}{v:d9}{ws:List (List UInt8)}(h:xB m v ws):dB m v (strs ws):=by
 rcases h with⟨rfl,rfl⟩ | ⟨id,off,_,h1,h2,all,rows,h3,h4,h5,h6⟩;exact .inl ⟨rfl,rfl⟩;refine .inr ⟨id,off,by simpa [G8] using h1,h2,.inr ⟨_,rows,h3,by rw [G8];exact h5,λi b=>?_⟩⟩;have a:i<ws.length:=by rwa [G8] at b
 rw [h4 (off+i) (by omega)];have e:ws[i]=all[off+i]'(by omega):=by
  have e:ws[i]?=all[off+i]?:=by have:ws[i]?=((all.drop off).take ws.length)[i]?:=congrArg (·[i]?) h6;rw [this,List.getElem?_take_of_lt a,amA]
  rw [cB a,cB (by omega)] at e;exact su e
 simp [strs,e]
theorem xB.keep {m a:Mem}{v:d9}{ws:List (List UInt8)}(h:xB m v ws)(b:m.nx<=a.nx)(d:∀id,id<m.nx->(∃o l c,v=.slice id o l c)∨(∃o l e,v=.sliceU id o l e)->a.get id=m.get id):xB a v ws:=by rcases h with h | ⟨id,off,h0,h1,h2,all,rows,h3,h4⟩;exact .inl h;refine .inr ⟨id,off,h0,h1,aP h2 b,all,rows,(d id h2 ?_).trans h3,h4⟩;rcases h1 with⟨c,rfl,_⟩ | rfl;exact .inl ⟨_,_,_,rfl⟩;exact .inr ⟨_,_,_,rfl⟩
theorem xB.ext {m a:Mem}(e:Ext m a){v:d9}{ws:List (List UInt8)}(h:xB m v ws):xB a v ws:=h.keep e.nx λid b _=>e.old id b
theorem eT {α:Type}:∀(n:Nat) (l:List α),gQ n l=l.drop n
 | 0,l=>rfl
 | n+1,[]=>by show []=_;simp
 | n+1,x::l=>by show gQ n l=_;rw [eT n];rfl
theorem Rz {α:Type}:∀(n:Nat) (l:List α),n<=l.length->takeN n l=some (l.take n)
 | 0,l,_=>rfl
 | n+1,[],h=>by simp at h
 | n+1,x::l,h=>by show ob (takeN n l) (λr=>some (x::r))=_;rw [Rz n l (by simpa using h)];rfl
theorem ae8 {m:Mem}{v:d9}{ws:List (List UInt8)}(h:xB m v ws)(b:List UInt8)(t:ws.length<1000000)(o:(iD b ws).length<1000000)(n s:Nat):
  l8 KW s (n+1) (.func 94) [v,.str b] m=some [⟨.str (iD b ws),m⟩]:=by
 rw [Gb (sf:=f94) rfl rfl];rcases h with⟨rfl,rfl⟩ | ⟨id,off,h0,h1,h2,all,rows,h3,h4,h5,h6⟩;rw [tH (K:=KW) (c:=⟨[],[.nilSlice,.str b],[]⟩) (a:=⟨.str [],[]⟩) rfl (by show wG 94 [.nilSlice,.str b] []=_;rw [wG,if_neg (by decide),if_neg (by decide),if_pos rfl];rfl)];rfl;have u:AU (.cells 1 all.length rows)=some (.cells 1 (all.map λw=>[.str w])):=by
  show ob (rows.slice all.length 0) (λl=>some (NB.cells 1 l))=_;have:=Ee rows (all.map λw=>[d9.str w]) 0 (λj o=>by
   have f:j<all.length:=by simpa using o
   rw [W9,h4 j f,acs,cB f];rfl)
  rw [adN] at this;rw [this];rfl
 have q:=FM (lo:=base.nx) h3 u (JY base.nx all) 99998;have d:Nat.ble base.nx id=true:=qb h0;have r:uh base.nx [id] id=some base.nx:=by show bi (Nat.ble base.nx id) (bi (Nat.beq id id) (some base.nx) none) _=_;rw [d,show Nat.beq id id=true from acK id];rfl
 have g:ob (takeN ws.length (gQ off (all.map λw=>[d9.str w]))) (λl=>ob (wC l) λe=>bi (Nat.blt (len' (iD b e)) 1000000) (some (⟨.str (iD b e),[]⟩:EK)) none)=some ⟨.str (iD b ws),[]⟩:=by rw [eT,Rz _ _ (by simp;omega),I9,← aCt,← aAA,← h6,Ka,I9,K7,show Nat.blt (iD b ws).length 1000000=true from O6.mpr o];rfl
 have p:Nat.blt ws.length 1000000=true:=O6.mpr t;rcases h1 with⟨c,rfl,hc⟩ | rfl;have k:sD base.nx [d9.slice id off ws.length c,.str b]=[id]:=by show bi (Nat.ble base.nx id) [id] [] ++ _=_;rw [d];rfl
 rw [tH (K:=KW) (c:=⟨[id],[.slice base.nx off ws.length c,.str b],[.cells 1 (all.map λw=>[.str w])]⟩) (a:=⟨.str (iD b ws),[]⟩)
  (by
   show ob (reach m base.nx (99998+2) (sD base.nx _) []) _=_;rw [k,q];show ob (ob (ob (uh base.nx [id] id) λj=>some (d9.slice j off ws.length c)) λx=>ob (some [d9.str b]) λy=>some (x::y)) (λe=>ob (ob (ob (nT (uh base.nx [id]) (all.map λw=>[d9.str w])) λx=>some (NB.cells 1 x)) λx=>ob (some []) λy=>some (x::y)) λi=>some (⟨[id],e,i⟩:CO))=_;rw [r,zM];rfl)
  (by
   show wG 94 [.slice base.nx off ws.length c,.str b] [.cells 1 (all.map λw=>[d9.str w])]=_;rw [wG,if_neg (by decide),if_neg (by decide),if_pos rfl];show bi (Nat.beq base.nx base.nx) (bi (Nat.ble ws.length c) (bi (Nat.blt ws.length 1000000) _ none) none) none=_;rw [acK,show Nat.ble ws.length c=true from qb hc,p];exact g)]
 rfl;have k:sD base.nx [d9.sliceU id off ws.length 1,.str b]=[id]:=by show bi (Nat.ble base.nx id) [id] [] ++ _=_;rw [d];rfl
 rw [tH (K:=KW) (c:=⟨[id],[.sliceU base.nx off ws.length 1,.str b],[.cells 1 (all.map λw=>[.str w])]⟩) (a:=⟨.str (iD b ws),[]⟩)
  (by
   show ob (reach m base.nx (99998+2) (sD base.nx _) []) _=_;rw [k,q];show ob (ob (ob (uh base.nx [id] id) λj=>some (d9.sliceU j off ws.length 1)) λx=>ob (some [d9.str b]) λy=>some (x::y)) (λe=>ob (ob (ob (nT (uh base.nx [id]) (all.map λw=>[d9.str w])) λx=>some (NB.cells 1 x)) λx=>ob (some []) λy=>some (x::y)) λi=>some (⟨[id],e,i⟩:CO))=_;rw [r,zM];rfl)
  (by
   show wG 94 [.sliceU base.nx off ws.length 1,.str b] [.cells 1 (all.map λw=>[d9.str w])]=_;rw [wG,if_neg (by decide),if_neg (by decide),if_pos rfl];show bi (Nat.beq base.nx base.nx) (bi (Nat.blt ws.length 1000000) _ none) none=_;rw [acK,p];exact g)]
 rfl
attribute [simp] I J S U Z A V tt ff
abbrev nS:d9:=.nilSlice
abbrev iV (a:Int):d9:=.int .i64 a
abbrev iN (a:Nat):d9:=.int .i64 (a:Int)
abbrev iZ:d9:=.int .i64 0
abbrev uV:d9:=.undef
abbrev fV:d9:=.bool false
abbrev tV:d9:=.bool true
abbrev nV2 (a0 a1:d9):T d9:=(.nd (.nd .e a1 .e) a0 .e)
abbrev nV4 (a0 a1 a2 a3:d9):T d9:=(.nd (.nd (.nd .e a3 .e) a1 .e) a0 (.nd .e a2 .e))
abbrev OZ (a0 a1 a2 a3 a4:d9):T d9:=(.nd (.nd (.nd .e a3 .e) a1 .e) a0 (.nd (.nd .e a4 .e) a2 .e))
abbrev SQ (a0 a1 a2 a3 a4 a5:d9):T d9:=(.nd (.nd (.nd .e a3 .e) a1 (.nd .e a5 .e)) a0 (.nd (.nd .e a4 .e) a2 .e))
abbrev CX (a0 a1 a2 a3 a4 a5 a6:d9):T d9:=(.nd (.nd (.nd .e a3 .e) a1 (.nd .e a5 .e)) a0 (.nd (.nd .e a4 .e) a2 (.nd .e a6 .e)))
abbrev Ni (a0 a1 a2 a3 a4 a5 a6 a7:d9):T d9:=(.nd (.nd (.nd (.nd .e a7 .e) a3 .e) a1 (.nd .e a5 .e)) a0 (.nd (.nd .e a4 .e) a2 (.nd .e a6 .e)))
abbrev RA (a0 a1 a2 a3 a4 a5 a6 a7 a8:d9):T d9:=(.nd (.nd (.nd (.nd .e a7 .e) a3 .e) a1 (.nd .e a5 .e)) a0 (.nd (.nd (.nd .e a8 .e) a4 .e) a2 (.nd .e a6 .e)))
abbrev Gc (a0 a1 a2 a3 a4 a5 a6 a7 a8 a9:d9):T d9:=(.nd (.nd (.nd (.nd .e a7 .e) a3 .e) a1 (.nd (.nd .e a9 .e) a5 .e)) a0 (.nd (.nd (.nd .e a8 .e) a4 .e) a2 (.nd .e a6 .e)))
abbrev xC (a0 a1 a2 a3 a4 a5 a6 a7 a8 a9 a10:d9):T d9:=(.nd (.nd (.nd (.nd .e a7 .e) a3 .e) a1 (.nd (.nd .e a9 .e) a5 .e)) a0 (.nd (.nd (.nd .e a8 .e) a4 .e) a2 (.nd (.nd .e a10 .e) a6 .e)))
abbrev ae9 (a0 a1 a2 a3 a4 a5 a6 a7 a8 a9 a10 a11:d9):T d9:=(.nd (.nd (.nd (.nd .e a7 .e) a3 (.nd .e a11 .e)) a1 (.nd (.nd .e a9 .e) a5 .e)) a0 (.nd (.nd (.nd .e a8 .e) a4 .e) a2 (.nd (.nd .e a10 .e) a6 .e)))
abbrev aky (a0 a1 a2 a3 a4 a5 a6 a7 a8 a9 a10 a11 a12:d9):T d9:=(.nd (.nd (.nd (.nd .e a7 .e) a3 (.nd .e a11 .e)) a1 (.nd (.nd .e a9 .e) a5 .e)) a0 (.nd (.nd (.nd .e a8 .e) a4 (.nd .e a12 .e)) a2 (.nd (.nd .e a10 .e) a6 .e)))
abbrev aaV (a0 a1 a2 a3 a4 a5 a6 a7 a8 a9 a10 a11 a12 a13 a14 a15 a16 a17:d9):T d9:=(.nd (.nd (.nd (.nd (.nd .e a15 .e) a7 .e) a3 (.nd .e a11 .e)) a1 (.nd (.nd (.nd .e a17 .e) a9 .e) a5 (.nd .e a13 .e))) a0 (.nd (.nd (.nd (.nd .e a16 .e) a8 .e) a4 (.nd .e a12 .e)) a2 (.nd (.nd .e a10 .e) a6 (.nd .e a14 .e))))
abbrev Pb (a0 a1 a2 a3 a4 a5 a6 a7 a8 a9 a10 a11 a12 a13 a14 a15 a16 a17 a18 a19:d9):T d9:=(.nd (.nd (.nd (.nd (.nd .e a15 .e) a7 .e) a3 (.nd (.nd .e a19 .e) a11 .e)) a1 (.nd (.nd (.nd .e a17 .e) a9 .e) a5 (.nd .e a13 .e))) a0 (.nd (.nd (.nd (.nd .e a16 .e) a8 .e) a4 (.nd .e a12 .e)) a2 (.nd (.nd (.nd .e a18 .e) a10 .e) a6 (.nd .e a14 .e))))
abbrev aDD (a0 a1 a2 a3 a4 a5 a6 a7 a8 a9 a10 a11 a12 a13 a14 a15 a16 a17 a18 a19 a20 a21 a22 a23 a24 a25 a26 a27 a28 a29 a30 a31 a32:d9):T d9:=(.nd (.nd (.nd (.nd (.nd (.nd .e a31 .e) a15 .e) a7 (.nd .e a23 .e)) a3 (.nd (.nd .e a19 .e) a11 (.nd .e a27 .e))) a1 (.nd (.nd (.nd .e a17 .e) a9 (.nd .e a25 .e)) a5 (.nd (.nd .e a21 .e) a13 (.nd .e a29 .e)))) a0 (.nd (.nd (.nd (.nd (.nd .e a32 .e) a16 .e) a8 (.nd .e a24 .e)) a4 (.nd (.nd .e a20 .e) a12 (.nd .e a28 .e))) a2 (.nd (.nd (.nd .e a18 .e) a10 (.nd .e a26 .e)) a6 (.nd (.nd .e a22 .e) a14 (.nd .e a30 .e)))))
abbrev Gd (a0 a1 a2 a3 a4 a5 a6 a7 a8 a9 a10 a11 a12 a13 a14 a15 a16 a17 a18 a19 a20 a21 a22 a23 a24 a25 a26 a27 a28 a29 a30 a31 a32 a33:d9):T d9:=(.nd (.nd (.nd (.nd (.nd (.nd .e a31 .e) a15 .e) a7 (.nd .e a23 .e)) a3 (.nd (.nd .e a19 .e) a11 (.nd .e a27 .e))) a1 (.nd (.nd (.nd (.nd .e a33 .e) a17 .e) a9 (.nd .e a25 .e)) a5 (.nd (.nd .e a21 .e) a13 (.nd .e a29 .e)))) a0 (.nd (.nd (.nd (.nd (.nd .e a32 .e) a16 .e) a8 (.nd .e a24 .e)) a4 (.nd (.nd .e a20 .e) a12 (.nd .e a28 .e))) a2 (.nd (.nd (.nd .e a18 .e) a10 (.nd .e a26 .e)) a6 (.nd (.nd .e a22 .e) a14 (.nd .e a30 .e)))))
attribute [simp] nS iV iN iZ uV fV tV dI fB gD bR cu aX fJ aC aB bC nV2 nV4 OZ SQ CX Ni RA Gc xC ae9 aky aaV Pb aDD Gd
theorem bD {m:Mem}(a:m.Ok)(d:m.lim<=m.nx):(∀(m:Mem) b,m.new b=ext m [b])∧(∀(m:Mem) l l',ext (ext m l) l'=ext m (l++l'))∧(∀l,(ext m l).get m.nx=l[0]?)∧(∀l c,(ext m l).get (m.nx+c)=l[c]?)∧
  (∀(β:Type) l c off vs (k:Mem->Option β),storeAt (ext m l) (m.nx+c) off vs k=bi (I7 vs) (ob (Go.AM.stB l[c]? off vs) λb=>k (ext m (l.set c b))) none)∧
  (∀(β:Type) l off vs (k:Mem->Option β),storeAt (ext m l) m.nx off vs k=bi (I7 vs) (ob (Go.AM.stB l[0]? off vs) λb=>k (ext m (l.set 0 b))) none)∧
  (∀(l:List Z6) c b,c<l.length->(ext m l).set (m.nx+c) b=ext m (l.set c b))∧∀(l:List Z6) b,0<l.length->(ext m l).set m.nx b=ext m (l.set 0 b):=
 ⟨o9,w9,j6 a,l5 a,λβ l c off vs k=>FH a d l c off vs k,λβ l off vs k=>zC a d l off vs k,o8 a,o7 a⟩
theorem ku {m:Mem}(a:m.Ok)(d:m.lim<=m.nx):(∀l:List Z6,(ext m l).get m.nx=l[0]?)∧(∀(l:List Z6) (c:Nat),(ext m l).get (m.nx+c)=l[c]?)∧
  (∀(β:Type) (l:List Z6) (c off:Nat) (vs:List d9) (k:Mem->Option β),storeAt (ext m l) (m.nx+c) off vs k=bi (I7 vs) (ob (stB l[c]? off vs) λb=>k (ext m (l.set c b))) none)∧
  (∀(β:Type) (l:List Z6) (off:Nat) (vs:List d9) (k:Mem->Option β),storeAt (ext m l) m.nx off vs k=bi (I7 vs) (ob (stB l[0]? off vs) λb=>k (ext m (l.set 0 b))) none)∧
  (∀(l:List Z6) (c:Nat) (b:Z6),c<l.length->(ext m l).set (m.nx+c) b=ext m (l.set c b))∧∀(l:List Z6) (b:Z6),0<l.length->(ext m l).set m.nx b=ext m (l.set 0 b):=
 ⟨j6 a,l5 a,λ_=>FH a d,λ_=>zC a d,o8 a,o7 a⟩
@[simp] abbrev zr:List d9:=[iZ,iZ,iZ,iZ,iZ,iZ,iZ,iZ,iZ,iZ,iZ,iZ,iZ,iZ,iZ,iZ,iZ,iZ,iZ,iZ,iZ,iZ,nS,nS,iZ,iZ,iZ,iZ,iZ,nS,iZ,iZ]
@[simp] abbrev zK (a b c d:Int):List d9:=[iV a,iV b,iV c,iV d,iZ,iZ,iZ,iZ,iZ,iZ,iZ,iZ,iZ,iZ,iZ,iZ,iZ,iZ,iZ,iZ,iZ,iZ,nS,nS,iZ,iZ,iZ,iZ,iZ,nS,iZ,iZ]
structure G6 where
 room:Int
 no:Int
 known:Int
 kind:Int
 flo:Int
 fhi:Int
 gid:Int
 made:Int
 nom:Int
 tlo:Int
 thi:Int
 gn:Int
 gd:Int
 wear:Int
 ug:Int
 ud:Int
 lg:Int
 ll:Int
 lh:Int
 lw:Int
 cid:Int
 cday:Int
 A:d9
 B:d9
 diff:Int
 err:Int
 hlo:Int
 hhi:Int
 mday:Int
 L:d9
 tr:Int
 tn:Int
def G6.cells (f:G6):List d9:=[d9.int .i64 f.room,d9.int .i64 f.no,d9.int .i64 f.known,d9.int .i64 f.kind,d9.int .i64 f.flo,d9.int .i64 f.fhi,d9.int .i64 f.gid,d9.int .i64 f.made,d9.int .i64 f.nom,d9.int .i64 f.tlo,d9.int .i64 f.thi,d9.int .i64 f.gn,d9.int .i64 f.gd,d9.int .i64 f.wear,d9.int .i64 f.ug,d9.int .i64 f.ud,d9.int .i64 f.lg,d9.int .i64 f.ll,d9.int .i64 f.lh,d9.int .i64 f.lw,d9.int .i64 f.cid,d9.int .i64 f.cday,f.A,f.B,d9.int .i64 f.diff,d9.int .i64 f.err,d9.int .i64 f.hlo,d9.int .i64 f.hhi,d9.int .i64 f.mday,f.L,d9.int .i64 f.tr,d9.int .i64 f.tn]
@[simp] theorem G6.len (f:G6):f.cells.length=32:=id rfl
@[simp] theorem G6.c0 (f:G6):f.cells[0]?=some (d9.int .i64 f.room):=id rfl
@[simp] theorem G6.c1 (f:G6):f.cells[1]?=some (d9.int .i64 f.no):=id rfl
@[simp] theorem G6.c2 (f:G6):f.cells[2]?=some (d9.int .i64 f.known):=id rfl
@[simp] theorem G6.c3 (f:G6):f.cells[3]?=some (d9.int .i64 f.kind):=id rfl
@[simp] theorem G6.c4 (f:G6):f.cells[4]?=some (d9.int .i64 f.flo):=id rfl
@[simp] theorem G6.c5 (f:G6):f.cells[5]?=some (d9.int .i64 f.fhi):=id rfl
@[simp] theorem G6.c6 (f:G6):f.cells[6]?=some (d9.int .i64 f.gid):=id rfl
@[simp] theorem G6.c7 (f:G6):f.cells[7]?=some (d9.int .i64 f.made):=id rfl
@[simp] theorem G6.c8 (f:G6):f.cells[8]?=some (d9.int .i64 f.nom):=id rfl
@[simp] theorem G6.c9 (f:G6):f.cells[9]?=some (d9.int .i64 f.tlo):=id rfl
@[simp] theorem G6.c10 (f:G6):f.cells[10]?=some (d9.int .i64 f.thi):=id rfl
@[simp] theorem G6.c11 (f:G6):f.cells[11]?=some (d9.int .i64 f.gn):=id rfl
@[simp] theorem G6.c12 (f:G6):f.cells[12]?=some (d9.int .i64 f.gd):=id rfl
@[simp] theorem G6.c16 (f:G6):f.cells[16]?=some (d9.int .i64 f.lg):=id rfl
@[simp] theorem G6.c17 (f:G6):f.cells[17]?=some (d9.int .i64 f.ll):=id rfl
@[simp] theorem G6.c18 (f:G6):f.cells[18]?=some (d9.int .i64 f.lh):=id rfl
@[simp] theorem G6.c22 (f:G6):f.cells[22]?=some (f.A):=id rfl
@[simp] theorem G6.c23 (f:G6):f.cells[23]?=some (f.B):=id rfl
@[simp] theorem G6.g0 (f:G6)(h:0<f.cells.length):f.cells[0]'h=d9.int .i64 f.room:=id rfl
@[simp] theorem G6.g1 (f:G6)(h:1<f.cells.length):f.cells[1]'h=d9.int .i64 f.no:=id rfl
@[simp] theorem G6.g2 (f:G6)(h:2<f.cells.length):f.cells[2]'h=d9.int .i64 f.known:=id rfl
@[simp] theorem G6.g3 (f:G6)(h:3<f.cells.length):f.cells[3]'h=d9.int .i64 f.kind:=id rfl
@[simp] theorem G6.g4 (f:G6)(h:4<f.cells.length):f.cells[4]'h=d9.int .i64 f.flo:=id rfl
@[simp] theorem G6.g5 (f:G6)(h:5<f.cells.length):f.cells[5]'h=d9.int .i64 f.fhi:=id rfl
@[simp] theorem G6.g6 (f:G6)(h:6<f.cells.length):f.cells[6]'h=d9.int .i64 f.gid:=id rfl
@[simp] theorem G6.g7 (f:G6)(h:7<f.cells.length):f.cells[7]'h=d9.int .i64 f.made:=id rfl
@[simp] theorem G6.g8 (f:G6)(h:8<f.cells.length):f.cells[8]'h=d9.int .i64 f.nom:=id rfl
@[simp] theorem G6.g9 (f:G6)(h:9<f.cells.length):f.cells[9]'h=d9.int .i64 f.tlo:=id rfl
@[simp] theorem G6.g10 (f:G6)(h:10<f.cells.length):f.cells[10]'h=d9.int .i64 f.thi:=id rfl
@[simp] theorem G6.g11 (f:G6)(h:11<f.cells.length):f.cells[11]'h=d9.int .i64 f.gn:=id rfl
@[simp] theorem G6.g12 (f:G6)(h:12<f.cells.length):f.cells[12]'h=d9.int .i64 f.gd:=id rfl
@[simp] theorem G6.g13 (f:G6)(h:13<f.cells.length):f.cells[13]'h=d9.int .i64 f.wear:=id rfl
@[simp] theorem G6.g14 (f:G6)(h:14<f.cells.length):f.cells[14]'h=d9.int .i64 f.ug:=id rfl
@[simp] theorem G6.g15 (f:G6)(h:15<f.cells.length):f.cells[15]'h=d9.int .i64 f.ud:=id rfl
@[simp] theorem G6.g16 (f:G6)(h:16<f.cells.length):f.cells[16]'h=d9.int .i64 f.lg:=id rfl
@[simp] theorem G6.g17 (f:G6)(h:17<f.cells.length):f.cells[17]'h=d9.int .i64 f.ll:=id rfl
@[simp] theorem G6.g18 (f:G6)(h:18<f.cells.length):f.cells[18]'h=d9.int .i64 f.lh:=id rfl
@[simp] theorem G6.g19 (f:G6)(h:19<f.cells.length):f.cells[19]'h=d9.int .i64 f.lw:=id rfl
@[simp] theorem G6.g20 (f:G6)(h:20<f.cells.length):f.cells[20]'h=d9.int .i64 f.cid:=id rfl
@[simp] theorem G6.g21 (f:G6)(h:21<f.cells.length):f.cells[21]'h=d9.int .i64 f.cday:=id rfl
@[simp] theorem G6.g22 (f:G6)(h:22<f.cells.length):f.cells[22]'h=f.A:=id rfl
@[simp] theorem G6.g23 (f:G6)(h:23<f.cells.length):f.cells[23]'h=f.B:=id rfl
@[simp] theorem G6.g24 (f:G6)(h:24<f.cells.length):f.cells[24]'h=d9.int .i64 f.diff:=id rfl
@[simp] theorem G6.g25 (f:G6)(h:25<f.cells.length):f.cells[25]'h=d9.int .i64 f.err:=id rfl
@[simp] theorem G6.g26 (f:G6)(h:26<f.cells.length):f.cells[26]'h=d9.int .i64 f.hlo:=id rfl
@[simp] theorem G6.g27 (f:G6)(h:27<f.cells.length):f.cells[27]'h=d9.int .i64 f.hhi:=id rfl
@[simp] theorem G6.g28 (f:G6)(h:28<f.cells.length):f.cells[28]'h=d9.int .i64 f.mday:=id rfl
@[simp] theorem G6.g29 (f:G6)(h:29<f.cells.length):f.cells[29]'h=f.L:=id rfl
@[simp] theorem G6.g30 (f:G6)(h:30<f.cells.length):f.cells[30]'h=d9.int .i64 f.tr:=id rfl
@[simp] theorem G6.g31 (f:G6)(h:31<f.cells.length):f.cells[31]'h=d9.int .i64 f.tn:=id rfl
@[simp] theorem G6.aHZ (f:G6):(f.cells.drop 4).take 2=[d9.int .i64 f.flo,d9.int .i64 f.fhi]:=id rfl
@[simp] theorem G6.aI0 (f:G6):(f.cells.drop 6).take 8=[d9.int .i64 f.gid,d9.int .i64 f.made,d9.int .i64 f.nom,d9.int .i64 f.tlo,d9.int .i64 f.thi,d9.int .i64 f.gn,d9.int .i64 f.gd,d9.int .i64 f.wear]:=id rfl
@[simp] theorem G6.aGf (f:G6):(f.cells.drop 14).take 2=[d9.int .i64 f.ug,d9.int .i64 f.ud]:=id rfl
@[simp] theorem G6.aGg (f:G6):(f.cells.drop 16).take 4=[d9.int .i64 f.lg,d9.int .i64 f.ll,d9.int .i64 f.lh,d9.int .i64 f.lw]:=id rfl
@[simp] theorem G6.aGh (f:G6):(f.cells.drop 20).take 8=[d9.int .i64 f.cid,d9.int .i64 f.cday,f.A,f.B,d9.int .i64 f.diff,d9.int .i64 f.err,d9.int .i64 f.hlo,d9.int .i64 f.hhi]:=id rfl
@[simp] theorem G6.aGi (f:G6):(f.cells.drop 28).take 2=[d9.int .i64 f.mday,f.L]:=id rfl
@[simp] theorem G6.aGj (f:G6):(f.cells.drop 30).take 2=[d9.int .i64 f.tr,d9.int .i64 f.tn]:=id rfl
@[simp] theorem G6.aGk (f:G6):(f.cells.drop 17).take 2=[d9.int .i64 f.ll,d9.int .i64 f.lh]:=id rfl
@[simp] theorem G6.aGl (f:G6):f.cells.take 32=f.cells:=id rfl
theorem dU (n b:Nat)(a lo hi:Int)(m:Mem):l8 KW b (n+1) (.func 38) [iV a,iV lo,iV hi] m=some [⟨.bool (decide (lo<=a)&&decide (a<=hi)),m⟩]:=by rw [enter (sf:=f38) rfl rfl];simp +contextual [dI,f38,fB,gD,bR]
theorem bH (n b:Nat)(a lo hi:Int)(m:Mem):l8 KW b (n+1) (.func 16) [iV a,iV lo,iV hi] m=some [⟨.bool (decide (lo<=a)&&decide (a<=hi)),m⟩]:=by rw [enter (sf:=f16) rfl rfl];simp +contextual [dI,f16,fB,gD,bR]
theorem jm (n b:Nat)(a lo hi:Int)(m:Mem):l8 KW b (n+1) (.func 176) [iV a,iV lo,iV hi] m=some [⟨.bool (decide (lo<=a)&&decide (a<=hi)),m⟩]:=by rw [enter (sf:=f176) rfl rfl];simp +contextual [dI,f176,fB,gD,bR]
theorem bI (n b:Nat)(a lo hi:Int)(m:Mem):l8 KW b (n+1) (.func 389) [iV a,iV lo,iV hi] m=some [⟨.bool (decide (lo<=a)&&decide (a<=hi)),m⟩]:=by rw [enter (sf:=ajB) rfl rfl];simp +contextual [dI,ajB,fB,gD,bR]
theorem oW (n b:Nat)(a:Int)(m:Mem):l8 KW b (n+2) (.func 135) [iV a] m=some [⟨.bool (decide (1<=a)&&decide (a<=1099511627776)),m⟩]:=by rw [enter (sf:=f135) rfl rfl];simp [f135,dU]
theorem Ku (n b:Nat)(a:Int)(m:Mem):l8 KW b (n+2) (.func 79) [iV a] m=some [⟨.bool (decide (0<=a)&&decide (a<=1099511627776)),m⟩]:=by rw [enter (sf:=f79) rfl rfl];simp [f79,dU]
theorem Kv (n b:Nat)(a:Int)(m:Mem):l8 KW b (n+2) (.func 46) [iV a] m=some [⟨.bool (decide (0<=a)&&decide (a<=1099511627776)),m⟩]:=by rw [enter (sf:=f46) rfl rfl];simp [f46,bH]
theorem iR (n b:Nat)(a:Int)(m:Mem):l8 KW b (n+2) (.func 89) [iV a] m=some [⟨.bool (decide (0<=a)&&decide (a<=20000)),m⟩]:=by rw [enter (sf:=f89) rfl rfl];simp [f89,jm]
theorem dR (n b:Nat)(a:Int)(m:Mem):l8 KW b (n+2) (.func 296) [iV a] m=some [⟨.bool (decide (0<=a)&&decide (a<=20000)),m⟩]:=by rw [enter (sf:=f296) rfl rfl];simp [f296,bI]
theorem Pd (n d:Nat)(l h a b:Int)(m:Mem)(c:m.Ok):l8 KW d (n+1) (.func 130) [.agg [iV l,iV h],iV a,iV b] m =
  some [⟨.bool (decide (a<=l)&&decide (l<=h)&&decide (h<=b)),ext m [j5 [iV l,iV h]]⟩]:=by
 rw [enter (sf:=f130) rfl rfl];simp +contextual [dI,f130,fB,gD,bR,o9,w9,j6 c,l5 c]
theorem Ux (n d:Nat)(l h a b:Int)(m:Mem)(c:m.Ok):l8 KW d (n+1) (.func 87) [.agg [iV l,iV h],iV a,iV b] m =
  some [⟨.bool (decide (a<=l)&&decide (l<=h)&&decide (h<=b)),ext m [j5 [iV l,iV h]]⟩]:=by
 rw [enter (sf:=f87) rfl rfl];simp +contextual [dI,f87,fB,gD,bR,o9,w9,j6 c,l5 c]
theorem Wv (n d:Nat)(l h a b:Int)(m:Mem)(c:m.Ok):l8 KW d (n+1) (.func 167) [.agg [iV l,iV h],iV a,iV b] m =
  some [⟨.bool (decide (a<=l)&&decide (l<=h)&&decide (h<=b)),ext m [j5 [iV l,iV h]]⟩]:=by
 rw [enter (sf:=f167) rfl rfl];simp +contextual [dI,f167,fB,gD,bR,o9,w9,j6 c,l5 c]
theorem Ww (n d:Nat)(l h a b:Int)(m:Mem)(c:m.Ok):l8 KW d (n+1) (.func 228) [.agg [iV l,iV h],iV a,iV b] m =
  some [⟨.bool (decide (a<=l)&&decide (l<=h)&&decide (h<=b)),ext m [j5 [iV l,iV h]]⟩]:=by
 rw [enter (sf:=f228) rfl rfl];simp +contextual [dI,f228,fB,gD,bR,o9,w9,j6 c,l5 c]
theorem Pe (n a:Nat)(f:G6)(m:Mem)(c:m.Ok)(b:m.lim<=m.nx):l8 KW a (n+1) (.func 51) [.agg f.cells] m =
  some [⟨.agg [iV f.room,iV f.no],ext m [j5 f.cells,j5 [iV f.room,iV f.no]]⟩]:=by
 rw [enter (sf:=f51) rfl rfl];simp [f51,aa9,bD c b,A8]
theorem aea (n b:Nat)(f:G6)(m:Mem)(a:m.Ok)(c:m.lim<=m.nx):∃m',l8 KW b (n+2) (.func 129) [.agg f.cells] m=some [⟨.bool (decide (0<=f.flo)&&decide (f.flo<=f.fhi)&&decide (f.fhi<=1000000)),m'⟩]∧Ext m m':=by rw [enter (sf:=f129) rfl rfl];refine⟨ext m [j5 f.cells,j5 [iV f.flo,iV f.fhi]],?_,r9 a _⟩;simp +contextual [f129,dI,fB,gD,bR,cu,aX,aa9,bD a c,fJ,aC,bC,aB,A8,Pd _ _ _ _ _ _ _ (I5 a _)]
theorem aeb (n b:Nat)(f:G6)(m:Mem)(a:m.Ok)(c:m.lim<=m.nx):∃m',l8 KW b (n+3) (.func 134) [.agg f.cells] m=some [⟨.bool ((decide (1<=f.ug)&&decide (f.ug<=1099511627776))&&(decide (0<=f.ud)&&decide (f.ud<=20000))),m'⟩]∧Ext m m':=by rw [enter (sf:=f134) rfl rfl];refine⟨ext m [j5 f.cells],?_,r9 a _⟩;simp +contextual [f134,dI,fB,gD,bR,cu,aX,aa9,bD a c,fJ,aC,bC,aB,A8,oW,dU]
theorem aec {m:Mem}{v w:d9}{xs a:List Int}(y:Y9 m v xs)(z:Y9 m w a)(A:a.length=xs.length)(hb:xs.length<1000000)(cf:H7)(n:Nat)(d:d9):
  ∀(j i:Nat),i+j=xs.length->∀(N:Nat),j<N->∀(a5 a6 a7:d9),
   ∃x k b5 b6 b7,J5 (λenv m k=>MW cf n none env m k) N (RA v w d (iN i) (iN (xs.length)) a5 a6 a7 fV) m []=some [⟨x,(RA v w d (iN k) (iN (xs.length)) b5 b6 b7 fV),m,[],none⟩]∧
    x=(if xs.drop i=a.drop i then bP.exit 0 else .ret):=by
 intro j;induction j with
 | zero=>
  intro i u N s a5 a6 a7;obtain⟨N,rfl⟩:∃M,N=M+1:=⟨N-1,by omega⟩;refine⟨.exit 0,i,fV,a6,a7,?_,?_⟩;rw [l9];have h:¬ i<xs.length:=by omega
  simp [MW,o9,w9,A8,h];rw [zu (by omega),zu (by omega)];rfl
 | succ j ih=>
  intro i u N s a5 a6 a7;obtain⟨N,rfl⟩:∃M,N=M+1:=⟨N-1,by omega⟩;have h:i<xs.length:=by omega
  have c:i<a.length:=by omega
  obtain⟨p,e,_,f⟩:=y.at h;obtain⟨q,g,_,l⟩:=z.at c;by_cases he:xs[i]=a[i];obtain⟨x,k,b5,b6,b7,o,r⟩:=ih (i+1) (by omega) N (by omega) tV (iV i) fV;refine⟨x,k,b5,b6,b7,?_,?_⟩;rw [l9,← o];simp [MW,h,e,f,g,l,he,Z7 (i:=i) (by omega)];rw [r];have t:(xs.drop i=a.drop i)↔(xs.drop (i+1)=a.drop (i+1)):=by rw [M0 h,M0 c,he];exact⟨λb=>(al5 b).2,λb=>by rw [b]⟩
  simp only [t];refine⟨.ret,i,tV,iV i,tV,?_,?_⟩;rw [l9];simp [MW,h,e,f,g,l,he];rw [if_neg];intro b;rw [M0 h,M0 c] at b;exact he (al5 b).1
theorem Uy {m:Mem}{v w:d9}{xs ys:List Int}(f:Y9 m v xs)(g:Y9 m w ys)(hb:xs.length<20000)(n b:Nat)(o:20000<=b):
  l8 KW b (n+1) (.func 53) [v,w] m=some [⟨.bool (decide (xs=ys)),m⟩]:=by
 rw [enter (sf:=f53) rfl rfl];have d:=f.len;have e:=g.len;by_cases hxy:ys.length=xs.length;obtain⟨x,k,p,q,r,c,a⟩:=aec f g hxy (by omega) (l8 KW b n) b fV xs.length 0 (by omega) b (by omega) uV uV uV;have a:x=if xs=ys then bP.exit 0 else .ret:=a
 by_cases he:xs=ys;rw [if_pos he] at a;subst a;simp [f53,d,e,hxy,he] at c ⊢;simp [c];rw [if_neg he] at a;subst a;simp [f53,d,e,hxy,he] at c ⊢;simp [c];have i:¬ xs.length=ys.length:=λh=>hxy h.symm;have j:¬ xs=ys:=λh=>i (by rw [h]);have l:¬ ((xs.length:Nat):Int)=((ys.length:Nat):Int):=by omega
 simp [f53,d,e,l,j]
theorem aaW {m:Mem}{v:d9}{xs:List Int}(o:Y9 m v xs)(hb:xs.length<1000000)(n r:Nat):
  ∀(j i:Nat),i+j=xs.length->∀(N:Nat),j<N->∀(a0 a1 a2 a3:d9),
   ∃x k b0 b1 b2 b3,J5 (λenv m k=>uF (l8 KW r (n+1)) r none env m k) N (RA v (iN i) (iN (xs.length)) a0 v a1 a2 a3 fV) m []=some [⟨x,(RA v (iN k) (iN (xs.length)) b0 v b1 b2 b3 fV),m,[],none⟩]∧x=(bif Z0 (okB xs) j i then bP.exit 0 else .ret):=by
 intro j;induction j with
 | zero=>
  intro i E N D a0 a1 a2 a3;obtain⟨N,rfl⟩:∃M,N=M+1:=⟨N-1,by omega⟩;refine⟨.exit 0,i,fV,a1,a2,a3,?_,rfl⟩;rw [l9];have h:¬ i<xs.length:=by omega
  have c:=o.len;simp [uF,h,c]
 | succ j ih=>
  intro i E N D a0 a1 a2 a3;obtain⟨N,rfl⟩:∃M,N=M+1:=⟨N-1,by omega⟩;have h:i<xs.length:=by omega
  have c:=o.len;obtain⟨p,d,_,e⟩:=o.at h;have A:=kP h;have f:okB xs i=true->∃x k b0 b1 b2 b3,J5 (λenv m k=>uF (l8 KW r (n+1)) r none env m k) (N+1) (RA v (iN i) (iN (xs.length)) a0 v a1 a2 a3 fV) m []=some [⟨x,(RA v (iN k) (iN (xs.length)) b0 v b1 b2 b3 fV),m,[],none⟩]∧x=(bif Z0 (okB xs) (j+1) i then bP.exit 0 else .ret):=by
   intro a;obtain⟨x,k,b0,b1,b2,b3,B,C⟩:=ih (i+1) (by omega) N (by omega) tV ((iV xs[i])) ((iV (i:Nat))) fV;refine⟨x,k,b0,b1,b2,b3,?_,by rw [C];simp [Z0,a]⟩;rw [l9,← B];simp only [okB,A,rW,aiL,decide_eq_true_eq] at a;obtain⟨⟨y,z⟩,u⟩:=a;by_cases h0:i=0;have b:¬ 0<i:=by omega
   simp [uF,h,c,d,e,y,z,b,bI,Z7 (i:=i) (by omega)];have g:i-1<xs.length:=by omega
   obtain⟨q,s,_,t⟩:=o.at g;have u:=u.resolve_left h0;rw [kP g] at u;have b:0<i:=by omega
   have w:¬ xs[i]<=xs[i-1]:=by omega
   simp [uF,h,c,d,e,s,t,y,z,b,w,bI,Z7 (i:=i) (by omega),pR (i:=i) b (by omega)]
  cases a:okB xs i with
  | true=>exact f a
  | false=>
   refine⟨.ret,i,tV,iV xs[i],iV (i:Nat),tV,?_,by simp [Z0,a]⟩;rw [l9];simp only [okB,A] at a;by_cases h0:i=0;have l:(decide (1<=xs[i])&&decide (xs[i]<=1099511627776))=false:=by simpa [h0] using a
   simp [uF,h,c,d,e,l,bI];have g:i-1<xs.length:=by omega
   obtain⟨q,s,_,t⟩:=o.at g;have b:0<i:=by omega
   rw [kP g,show decide (i=0)=false from decide_eq_false h0,arP] at a;cases l:(decide (1<=xs[i])&&decide (xs[i]<=1099511627776)) with
   | false=>simp [uF,h,c,d,e,l,bI]
   | true=>rw [l,adW] at a;have w:xs[i]<=xs[i-1]:=(by simpa using a);simp [uF,h,c,d,e,s,t,l,b,w,bI,pR (i:=i) b (by omega)]
theorem Wx {m:Mem}{v:d9}{xs:List Int}(d:Y9 m v xs)(hb:xs.length<20000)(n a:Nat)(f:20000<=a):
  l8 KW a (n+2) (.func 394) [v] m=some [⟨.bool (Z0 (okB xs) xs.length 0&&decide (xs.length<=6)),m⟩]:=by
 rw [enter (sf:=ajC) rfl rfl];have e:=d.len;obtain⟨x,k,g,h,i,j,c,b⟩:=aaW d (by omega) n a xs.length 0 (by omega) a (by omega) uV uV uV uV;cases ha:Z0 (okB xs) xs.length 0<;>rw [ha] at b<;>simp only [cond_true,cond_false] at b<;>subst b<;>simp [ajC,e] at c ⊢ <;> simp [c,e]
 omega
theorem aed {m:Mem}{v:d9}{xs:List Int}(o:Y9 m v xs)(hb:xs.length<1000000)(n r:Nat):
  ∀(j i:Nat),i+j=xs.length->∀(N:Nat),j<N->∀(a0 a1:d9),
   ∃x k b0 b1,J5 (λenv m k=>BH (l8 KW r (n+1)) r none env m k) N (OZ (iN i) v a0 a1 fV) m []=some [⟨x,(OZ (iN k) v b0 b1 fV),m,[],none⟩]∧x=(bif Z0 (okB xs) j i then bP.exit 0 else .ret):=by
 intro j;induction j with
 | zero=>
  intro i E N D a0 a1;obtain⟨N,rfl⟩:∃M,N=M+1:=⟨N-1,by omega⟩;refine⟨.exit 0,i,fV,a1,?_,rfl⟩;rw [l9];have h:¬ i<xs.length:=by omega
  have c:=o.len;simp [BH,h,c]
 | succ j ih=>
  intro i E N D a0 a1;obtain⟨N,rfl⟩:∃M,N=M+1:=⟨N-1,by omega⟩;have h:i<xs.length:=by omega
  have c:=o.len;obtain⟨p,d,_,e⟩:=o.at h;have A:=kP h;have f:okB xs i=true->∃x k b0 b1,J5 (λenv m k=>BH (l8 KW r (n+1)) r none env m k) (N+1) (OZ (iN i) v a0 a1 fV) m []=some [⟨x,(OZ (iN k) v b0 b1 fV),m,[],none⟩]∧x=(bif Z0 (okB xs) (j+1) i then bP.exit 0 else .ret):=by
   intro a;obtain⟨x,k,b0,b1,B,C⟩:=ih (i+1) (by omega) N (by omega) tV fV;refine⟨x,k,b0,b1,?_,by rw [C];simp [Z0,a]⟩;rw [l9,← B];simp only [okB,A,rW,aiL,decide_eq_true_eq] at a;obtain⟨⟨y,z⟩,u⟩:=a;by_cases h0:i=0;have b:¬ 0<i:=by omega
   simp [BH,h,c,d,e,y,z,b,jm,Z7 (i:=i) (by omega)];have g:i-1<xs.length:=by omega
   obtain⟨q,s,_,t⟩:=o.at g;have u:=u.resolve_left h0;rw [kP g] at u;have b:0<i:=by omega
   have w:¬ xs[i]<=xs[i-1]:=by omega
   simp [BH,h,c,d,e,s,t,y,z,b,w,jm,Z7 (i:=i) (by omega),pR (i:=i) b (by omega)]
  cases a:okB xs i with
  | true=>exact f a
  | false=>
   refine⟨.ret,i,tV,tV,?_,by simp [Z0,a]⟩;rw [l9];simp only [okB,A] at a;by_cases h0:i=0;have l:(decide (1<=xs[i])&&decide (xs[i]<=1099511627776))=false:=by simpa [h0] using a
   simp [BH,h,c,d,e,l,jm];have g:i-1<xs.length:=by omega
   obtain⟨q,s,_,t⟩:=o.at g;have b:0<i:=by omega
   rw [kP g,show decide (i=0)=false from decide_eq_false h0,arP] at a;cases l:(decide (1<=xs[i])&&decide (xs[i]<=1099511627776)) with
   | false=>simp [BH,h,c,d,e,l,jm]
   | true=>rw [l,adW] at a;have w:xs[i]<=xs[i-1]:=(by simpa using a);simp [BH,h,c,d,e,s,t,l,b,w,jm,pR (i:=i) b (by omega)]
theorem aaX {m:Mem}{v:d9}{xs:List Int}(d:Y9 m v xs)(hb:xs.length<20000)(n a:Nat)(f:20000<=a):
  l8 KW a (n+2) (.func 90) [v] m=some [⟨.bool (Z0 (okB xs) xs.length 0&&decide (xs.length<=6)),m⟩]:=by
 rw [enter (sf:=f90) rfl rfl];have e:=d.len;obtain⟨x,k,g,h,c,b⟩:=aed d (by omega) n a xs.length 0 (by omega) a (by omega) uV uV;cases ha:Z0 (okB xs) xs.length 0<;>rw [ha] at b<;>simp only [cond_true,cond_false] at b<;>subst b<;>simp [f90,e] at c ⊢ <;> simp [c,e]
 omega
theorem aaY {m:Mem}(d:m.Ok){v:d9}{day:Int}{xs:List Int}(r:Y9 (ext m [j5 [iV day,v]]) v xs)(hb:xs.length<1000000)(n s:Nat):
  ∀(j i:Nat),i+j=xs.length->∀(N:Nat),j<N->∀(a0 a1 a2 a3:d9),
   ∃x k b0 b1 b2 b3,J5 (λenv m k=>uE (l8 KW s (n+2)) s none env m k) N (Gc (.agg [iV day,v]) (.ptr m.nx 0) (iN i) (iN (xs.length)) a0 v a1 a2 a3 fV) (ext m [j5 [iV day,v]]) []=some [⟨x,(Gc (.agg [iV day,v]) (.ptr m.nx 0) (iN k) (iN (xs.length)) b0 v b1 b2 b3 fV),(ext m [j5 [iV day,v]]),[],none⟩]∧x=(bif Z0 (okB xs) j i then bP.exit 0 else .ret):=by
 intro j;induction j with
 | zero=>
  intro i F N E a0 a1 a2 a3;obtain⟨N,rfl⟩:∃M,N=M+1:=⟨N-1,by omega⟩;refine⟨.exit 0,i,fV,a1,a2,a3,?_,rfl⟩;rw [l9];have h:¬ i<xs.length:=by omega
  have c:=r.len;simp [uE,h,c,j6 d]
 | succ j ih=>
  intro i F N E a0 a1 a2 a3;obtain⟨N,rfl⟩:∃M,N=M+1:=⟨N-1,by omega⟩;have h:i<xs.length:=by omega
  have c:=r.len;obtain⟨p,e,_,f⟩:=r.at h;have B:=kP h;have g:okB xs i=true->∃x k b0 b1 b2 b3,J5 (λenv m k=>uE (l8 KW s (n+2)) s none env m k) (N+1) (Gc (.agg [iV day,v]) (.ptr m.nx 0) (iN i) (iN (xs.length)) a0 v a1 a2 a3 fV) (ext m [j5 [iV day,v]]) []=some [⟨x,(Gc (.agg [iV day,v]) (.ptr m.nx 0) (iN k) (iN (xs.length)) b0 v b1 b2 b3 fV),(ext m [j5 [iV day,v]]),[],none⟩]∧x=(bif Z0 (okB xs) (j+1) i then bP.exit 0 else .ret):=by
   intro a;obtain⟨x,k,b0,b1,b2,b3,C,D⟩:=ih (i+1) (by omega) N (by omega) tV ((iV xs[i])) ((iV (i:Nat))) fV;refine⟨x,k,b0,b1,b2,b3,?_,by rw [D];simp [Z0,a]⟩;rw [l9,← C];simp only [okB,B,rW,aiL,decide_eq_true_eq] at a;obtain⟨⟨z,A⟩,w⟩:=a;by_cases h0:i=0;have b:¬ 0<i:=by omega
   simp [uE,h,c,e,f,z,A,b,oW,Z7 (i:=i) (by omega),j6 d];have l:i-1<xs.length:=by omega
   obtain⟨q,t,_,u⟩:=r.at l;have w:=w.resolve_left h0;rw [kP l] at w;have b:0<i:=by omega
   have y:¬ xs[i]<=xs[i-1]:=by omega
   simp [uE,h,c,e,f,t,u,z,A,b,y,oW,Z7 (i:=i) (by omega),pR (i:=i) b (by omega),j6 d]
  cases a:okB xs i with
  | true=>exact g a
  | false=>
   refine⟨.ret,i,tV,iV xs[i],iV (i:Nat),tV,?_,by simp [Z0,a]⟩;rw [l9];simp only [okB,B] at a;by_cases h0:i=0;have o:(decide (1<=xs[i])&&decide (xs[i]<=1099511627776))=false:=by simpa [h0] using a
   simp [uE,h,c,e,f,o,oW,j6 d];have l:i-1<xs.length:=by omega
   obtain⟨q,t,_,u⟩:=r.at l;have b:0<i:=by omega
   rw [kP l,show decide (i=0)=false from decide_eq_false h0,arP] at a;cases o:(decide (1<=xs[i])&&decide (xs[i]<=1099511627776)) with
   | false=>simp [uE,h,c,e,f,o,oW,j6 d]
   | true=>rw [o,adW] at a;have y:xs[i]<=xs[i-1]:=(by simpa using a);simp [uE,h,c,e,f,t,u,o,b,y,oW,pR (i:=i) b (by omega),j6 d]
theorem aee {m:Mem}(c:m.Ok){v:d9}{day:Int}{xs:List Int}(a:Y9 m v xs)(hb:xs.length<20000)(n b:Nat)(i:20000<=b):
  l8 KW b (n+3) (.func 143) [.agg [iV day,v]] m=some [⟨.bool (Z0 (okB xs) xs.length 0&&((decide (0<=day)&&decide (day<=19999))&&(decide (2<=xs.length)&&decide (xs.length<=5)))),ext m [j5 [iV day,v]]⟩]:=by
 rw [enter (sf:=f143) rfl rfl];have a:=a.ext (r9 c [j5 [iV day,v]]);have f:=a.len;have j:v.cells=[v]:=a.cells;obtain⟨x,k,l,o,p,q,d,e⟩:=aaY c a (by omega) n b xs.length 0 (by omega) b (by omega) uV uV uV uV;have g:decide (2<=((xs.length:Nat):Int))=decide (2<=xs.length):=by rw [acB];simp;omega
 have h:decide (((xs.length:Nat):Int)<=5)=decide (xs.length<=5):=by rw [acB];simp;omega
 cases ha:Z0 (okB xs) xs.length 0<;>rw [ha] at e<;>simp only [cond_true,cond_false] at e<;>subst e<;>simp [f143,f,o9,j6 c,j] at d ⊢
 simp [d];simp +contextual [d,f,j6 c,dI,fB,gD,bR,cu,aX,dU,g,h]
@[simp] theorem aiK:dY nS nS=some true:=id rfl
theorem aaZ (x:Int)(n a:Nat)(b:20000<=a)(m:Mem):l8 KW a (n+1) (.func 210) [nS,iV x] m=some [⟨iV (.negSucc 0),m⟩]:=by rw [enter (sf:=f210) rfl rfl];obtain⟨N,rfl⟩:∃M,a=M+1:=⟨a-1,by omega⟩;simp [f210,l9,Ui]
theorem ab0 (x:Int)(n a:Nat)(b:20000<=a)(m:Mem):l8 KW a (n+2) (.func 223) [nS,iV x] m=some [⟨fV,m⟩]:=by rw [enter (sf:=f223) rfl rfl];simp [f223,aaZ x n a b]
theorem ab1 (x:Int)(n a:Nat)(b:20000<=a){m:Mem}{p:Nat}(hp:m.get p=some (j5 [nS])):l8 KW a (n+3) (.func 307) [iV x,.ptr p 0] m=some [⟨fV,m⟩]:=by rw [enter (sf:=f307) rfl rfl];simp [f307,hp,ab0 x n a b]
theorem ab2 {m:Mem}{v:d9}{xs:List Int}{p:Nat}(l:Y9 m v xs)(hp:m.get p=some (j5 [nS]))(hb:xs.length<1000000)(n a:Nat)(b:20000<=a):
  ∀(j i:Nat),i+j=xs.length->∀(N:Nat),j<N->∀(a0 a1 a2:d9),
   ∃k b0 b1 b2,J5 (λenv m k=>FV (l8 KW a (n+3)) a none env m k) N (Ni v (iN i) (iN (xs.length)) a0 (.func (.func 307) [] [.ptr p 0]) a1 a2 iZ) m []=some [⟨.exit 0,(Ni v (iN k) (iN (xs.length)) b0 (.func (.func 307) [] [.ptr p 0]) b1 b2 iZ),m,[],none⟩]:=by
 intro j;induction j with
 | zero=>
  intro i g N f a0 a1 a2;obtain⟨N,rfl⟩:∃M,N=M+1:=⟨N-1,by omega⟩;refine⟨i,fV,a1,a2,?_⟩;rw [l9];have h:¬ i<xs.length:=by omega
  simp [FV,h]
 | succ j ih=>
  intro i g N f a0 a1 a2;obtain⟨N,rfl⟩:∃M,N=M+1:=⟨N-1,by omega⟩;have h:i<xs.length:=by omega
  obtain⟨q,c,_,d⟩:=l.at h;obtain⟨k,b0,b1,b2,e⟩:=ih (i+1) (by omega) N (by omega) tV (iV i) fV;refine⟨k,b0,b1,b2,?_⟩;rw [l9,← e];simp [FV,h,c,d,ab1 _ n a b hp,Z7 (i:=i) (by omega)]
theorem ab3 {m:Mem}{v:d9}{xs:List Int}{p:Nat}(d:Y9 m v xs)(hp:m.get p=some (j5 [nS]))(hb:xs.length<20000)(n a:Nat)(b:20000<=a):
  l8 KW a (n+4) (.func 127) [v,.func (.func 307) [] [.ptr p 0]] m=some [⟨iV (.negSucc 0),m⟩]:=by
 rw [enter (sf:=f127) rfl rfl];have e:=d.len;obtain⟨k,f,g,h,c⟩:=ab2 d hp (by omega) n a b xs.length 0 (by omega) a (by omega) uV uV uV;simp [f127,e] at c ⊢;simp [c]
theorem ab4 {m:Mem}{v:d9}{xs:List Int}{p:Nat}(c:Y9 m v xs)(hp:m.get p=some (j5 [nS]))(hb:xs.length<20000)(n a:Nat)(b:20000<=a):
  l8 KW a (n+5) (.func 306) [v,.func (.func 307) [] [.ptr p 0]] m=some [⟨v,m⟩]:=by
 rw [enter (sf:=f306) rfl rfl];simp [f306,ab3 c hp hb n a b]
theorem Ip {m:Mem}{v:d9}{xs:List Int}(j:m.Ok)(C:m.lim<=m.nx)(p:Y9 m v xs)(hb:xs.length<20000)(n u:Nat):
  ∃v' m',l8 KW u (n+1) (.func 183) [v] m=some [⟨v',m'⟩]∧Ext m m'∧Y9 m' v' xs:=by
 rw [enter (sf:=f183) rfl rfl];rcases p with⟨rfl,rfl⟩ | p;refine⟨nS,m,?_,Ext.refl j,.inl ⟨rfl,rfl⟩⟩;simp [f183];have d:Y9 m v xs:=.inr p;have k:dY v nS=some false:=by obtain⟨id,⟨c,rfl⟩ | ⟨c,rfl⟩,_⟩:=p<;>rfl
 have E:jR 1 0 [] (λb=>some (d9.slice m.nx 0 0 0,some b))=some (.slice m.nx 0 0 0,some (.cells 1 0 (T.ofList []))):=rfl;have q:∀z h,I8 1 0 z [] [] h m.nx=some (.slice m.nx 0 0 0,some (.cells 1 0 (T.ofList []))):=λz h=>rfl;have o:Y9 (m.new (.cells 1 0 (T.ofList []))) v xs:=d.ext ((Ext.refl j).new _);cases hx:xs with
 | nil=>
  subst hx;refine⟨.slice m.nx 0 0 0,m.new (.cells 1 0 (T.ofList [])),?_,(Ext.refl j).new _,.inr ⟨(m.nx,0),.inl ⟨0,rfl⟩,by simp,.inl rfl⟩⟩;have a:∀(l r:T d9) g,lu 1 8 L8 (G7 gH) g [.slice m.nx 0 0 0] (.nd l v r) (m.new (.cells 1 0 (T.ofList [])))=some [⟨.slice m.nx 0 0 0,m.new (.cells 1 0 (T.ofList []))⟩]:=by intro l r g;show ob (Go.AM.lenOf v) (λn=>ob (aj _ 1 n v) λf=>kT _ 1 8 n f (.slice m.nx 0 0 0))=_;rw [d.lenOf];simp only [I9,at1];have:=o.read;rw [at1] at this;rw [this];rfl
  simp [f183,k,q,a]
 | cons x xs'=>
  obtain⟨m',w,y,A⟩:=TS (m:=m.new (.cells 1 0 (T.ofList []))) (Mem.Ok.new j _) xs;refine⟨_,m',?_,((Ext.refl j).new _).trans y,by rw [← hx];exact A⟩;have a:∀(l r:T d9) g,lu 1 8 L8 (G7 gH) g [.slice m.nx 0 0 0] (.nd l v r) (m.new (.cells 1 0 (T.ofList [])))=some [⟨.sliceU (m.new (.cells 1 0 (T.ofList []))).nx 0 xs.length 1,m'⟩]:=by
   intro l r g;show ob (Go.AM.lenOf v) (λn=>ob (aj _ 1 n v) λf=>kT _ 1 8 n f (.slice m.nx 0 0 0))=_;rw [d.lenOf];simp only [I9];rw [o.read];simp only [I9];show iI _ 1 8 xs.length (ints xs) m.nx 0 0 0=_;unfold iI;have D:0<xs.length:=by rw [hx];simp
   rw [show Nat.ble (Nat.add 0 xs.length) 0=false from by
    cases hb':Nat.ble (Nat.add 0 xs.length) 0 with
    | false=>rfl
    | true=>
     have B:=LA hb';have s:Nat.add 0 xs.length=xs.length:=W9 _;rw [s] at B;omega]
   rw [bA];have i:big (Nat.add 0 xs.length) 8 1=true:=by have e:Nat.add 0 xs.length=xs.length:=W9 _;unfold big;rw [e,show Nat.ble (Nat.mul (Nat.add (Nat.mul 2 xs.length) 2048) 8) 281474976710656=true from qb (by show (2*xs.length+2048)*8<=281474976710656;omega)];rfl
   rw [i,aH];show ob (Y0 _ m.nx 0 (Nat.mul 0 1)) _=_;have e:Nat.mul 0 1=0:=rfl;rw [e];show grown (m.new (.cells 1 0 (T.ofList []))) 1 (Nat.add 0 xs.length) (cZ [] (ints xs))=_;have t:Nat.add 0 xs.length=xs.length:=W9 _;rw [t,V8,aaE,w]
  simp [f183,k,q,a]
theorem Ye {m:Mem}{v:d9}{xs:List Int}(b:m.Ok)(j:m.lim<=m.nx)(i:Y9 m v xs)(hb:xs.length<20000)(n a:Nat)(d:20000<=a):
  ∃v' m',l8 KW a (n+6) (.func 240) [v,nS] m=some [⟨v',m'⟩]∧Ext m m'∧Y9 m' v' xs:=by
 rw [enter (sf:=f240) rfl rfl];have e:=i.ext (r9 b [j5 [nS]]);obtain⟨v',m',g,f,c⟩:=Ip (m:=ext m [j5 [nS]]) (I5 b _) (by simp;omega) e hb (n+4) a;have h:m'.get m.nx=some (j5 [nS]):=by rw [f.old _ (by simp)];rw [j6 b];rfl
 refine⟨v',m',?_,(r9 b _).trans f,c⟩;simp [f240,o9,g,c.aY,ab4 c h hb n a d]
theorem Uz {m:Mem}{v:d9}{xs:List Int}(i:m.Ok)(h:m.lim<=m.nx)(f:Y9 m v xs)(n d:Nat)(e:20000<=d):
  l8 KW d (n+6) (.func 240) [nS,v] m=some [⟨nS,ext m [j5 [v]]⟩]:=by
 rw [enter (sf:=f240) rfl rfl];obtain⟨N,rfl⟩:∃M,d=M+1:=⟨d-1,by omega⟩;have g:=f.cells;have b:l8 KW (N+1) (n+5) (.func 183) [nS] (ext m [j5 [v]])=some [⟨nS,ext m [j5 [v]]⟩]:=by rw [enter (sf:=f183) rfl rfl];simp [f183]
 have a:l8 KW (N+1) (n+4) (.func 127) [nS,.func (.func 307) [] [.ptr m.nx 0]] (ext m [j5 [v]])=some [⟨iV (.negSucc 0),ext m [j5 [v]]⟩]:=by rw [enter (sf:=f127) rfl rfl];simp [f127,l9,FV]
 have c:l8 KW (N+1) (n+5) (.func 306) [nS,.func (.func 307) [] [.ptr m.nx 0]] (ext m [j5 [v]])=some [⟨nS,ext m [j5 [v]]⟩]:=by rw [enter (sf:=f306) rfl rfl];simp [f306,a]
 simp [f240,o9,g,b,c]
theorem aef {m:Mem}{v:d9}{xs:List Int}(g:m.Ok)(l:m.lim<=m.nx)(e:Y9 m v xs)(hb:xs.length<20000)(n b:Nat)(a:20000<=b):
  ∃v1 v2 m',l8 KW b (n+7) (.func 313) [v,nS] m=some [⟨.tuple [v1,v2,iV (bif (Z0 (okB xs) xs.length 0&&decide (xs.length<=6)) then 0 else 1)],m'⟩]∧Ext m m':=by
 rw [enter (sf:=f313) rfl rfl];have d:=Wx e hb (n+4) b a;have h:l8 KW b (n+6) (.func 394) [nS] m=some [⟨tV,m⟩]:=Wx (m:=m) (v:=nS) (xs:=[]) (.inl ⟨rfl,rfl⟩) (by simp) (n+4) b a;cases ha:(Z0 (okB xs) xs.length 0&&decide (xs.length<=6)) with
 | false=>rw [ha] at d;refine⟨nS,nS,m,?_,Ext.refl g⟩;simp [f313,d]
 | true=>rw [ha] at d;obtain⟨o,m',j,c,k⟩:=Ye g l e hb n b a;have f:=e.ext c;have i:=Uz (m:=m') c.ok (by have p:=c.lim;have q:=c.nx;omega) f n b a;refine⟨o,nS,ext m' [j5 [v]],?_,c.trans (r9 c.ok _)⟩;simp [f313,d,h,j,k.aY,i]
theorem Wy {m:Mem}{v:d9}{xs:List Int}(f:m.Ok)(e:m.lim<=m.nx)(g:Y9 m v xs)(hb:xs.length<20000)(n a:Nat)(b:20000<=a):
  ∃m',l8 KW a (n+8) (.func 243) [v] m=some [⟨.bool (Z0 (okB xs) xs.length 0&&decide (xs.length<=6)),m'⟩]∧Ext m m':=by
 rw [enter (sf:=f243) rfl rfl];obtain⟨h,i,m',c,d⟩:=aef f e g hb n a b;refine⟨m',?_,d⟩;cases ha:(Z0 (okB xs) xs.length 0&&decide (xs.length<=6))<;>rw [ha] at c<;>simp [f243,c]
theorem aeg {m:Mem}{v w:d9}{xs a:List Int}(o:Y9 m v xs)(A:Y9 m w a)(B:a.length=xs.length)(hb:xs.length<1000000)(cf:H7)(r:Nat)(e:d9):
  ∀(j i:Nat),i+j=xs.length->∀(N:Nat),j<N->∀(a4 a5:d9),
   ∃x k b4 b5,J5 (λenv m k=>MP cf r none env m k) N (CX v w e (iN i) a4 a5 fV) m []=some [⟨x,(CX v w e (iN k) b4 b5 fV),m,[],none⟩]∧
    x=(if xs.drop i=a.drop i then bP.exit 0 else .ret):=by
 have d:=o.len;intro j;induction j with
 | zero=>
  intro i z N u a4 a5;obtain⟨N,rfl⟩:∃M,N=M+1:=⟨N-1,by omega⟩;refine⟨.exit 0,i,fV,a5,?_,?_⟩;rw [l9];have h:¬ i<xs.length:=by omega
  simp [MP,h,d];rw [zu (by omega),zu (by omega)];rfl
 | succ j ih=>
  intro i z N u a4 a5;obtain⟨N,rfl⟩:∃M,N=M+1:=⟨N-1,by omega⟩;have h:i<xs.length:=by omega
  have c:i<a.length:=by omega
  obtain⟨p,f,_,g⟩:=o.at h;obtain⟨q,l,_,n⟩:=A.at c;by_cases he:xs[i]=a[i];obtain⟨x,k,b4,b5,s,t⟩:=ih (i+1) (by omega) N (by omega) tV fV;refine⟨x,k,b4,b5,?_,?_⟩;rw [l9,← s];simp [MP,h,d,f,g,l,n,he,Z7 (i:=i) (by omega)];rw [t];have y:(xs.drop i=a.drop i)↔(xs.drop (i+1)=a.drop (i+1)):=by rw [M0 h,M0 c,he];exact⟨λb=>(al5 b).2,λb=>by rw [b]⟩
  simp only [y];refine⟨.ret,i,tV,tV,?_,?_⟩;rw [l9];simp [MP,h,d,f,g,l,n,he];rw [if_neg];intro b;rw [M0 h,M0 c] at b;exact he (al5 b).1
theorem Pf {m:Mem}{v w:d9}{xs ys:List Int}(f:Y9 m v xs)(g:Y9 m w ys)(hb:xs.length<20000)(n b:Nat)(o:20000<=b):
  l8 KW b (n+1) (.func 34) [v,w] m=some [⟨.bool (decide (xs=ys)),m⟩]:=by
 rw [enter (sf:=f34) rfl rfl];have d:=f.len;have e:=g.len;by_cases hxy:ys.length=xs.length;obtain⟨x,k,p,q,c,a⟩:=aeg f g hxy (by omega) (l8 KW b n) b fV xs.length 0 (by omega) b (by omega) uV uV;have a:x=if xs=ys then bP.exit 0 else .ret:=a
 by_cases he:xs=ys;rw [if_pos he] at a;subst a;simp [f34,d,e,hxy,he] at c ⊢;simp [c];rw [if_neg he] at a;subst a;simp [f34,d,e,hxy,he] at c ⊢;simp [c];have i:¬ xs.length=ys.length:=λh=>hxy h.symm;have j:¬ xs=ys:=λh=>i (by rw [h]);have l:¬ ((xs.length:Nat):Int)=((ys.length:Nat):Int):=by omega
 simp [f34,d,e,l,j]
structure aN (m:Mem)(f:G6)(xa xb xl:List Int):Prop where
 a:Y9 m f.A xa
 b:Y9 m f.B xb
 l:Y9 m f.L xl
 la:xa.length<20000
 lb:xb.length<20000
 ll:xl.length<20000
theorem aN.ext {m c:Mem}(h:Ext m c){f:G6}{a b l:List Int}(k:aN m f a b l):aN c f a b l:=⟨k.a.ext h,k.b.ext h,k.l.ext h,k.la,k.lb,k.ll⟩
theorem aN.same {m:Mem}{f:G6}{a b l:List Int}(k:aN m f a b l):bS 100 (.agg f.cells) (.agg f.cells)=true:=by rw [FJ];simp [G6.cells,FI,JV,J2,fK k.a,fK k.b,fK k.l]
def nQ (f g:G6)(a b a' b':List Int):Bool:=
 decide (f.cid=g.cid)&&(decide (f.cday=g.cday)&&(decide (f.diff=g.diff)&&(decide (f.err=g.err)&&(decide (f.hlo=g.hlo)&&(decide (f.hhi=g.hhi)&&(decide (a=a')&&decide (b=b')))))))
def G6.cmp (f:G6):List d9:=[iV f.cid,iV f.cday,f.A,f.B,iV f.diff,iV f.err,iV f.hlo,iV f.hhi]
@[simp] theorem G6.azO (f:G6):f.cmp.length=8:=id rfl
@[simp] theorem G6.azP (f:G6):(f.cmp.drop 6).take 2=[iV f.hlo,iV f.hhi]:=id rfl
@[simp] theorem G6.aZ (f:G6):[iV f.cid,iV f.cday,f.A,f.B,iV f.diff,iV f.err,iV f.hlo,iV f.hhi]=f.cmp:=id rfl
@[simp] theorem G6.k0 (f:G6)(h:0<f.cmp.length):f.cmp[0]'h=d9.int .i64 f.cid:=id rfl
@[simp] theorem G6.k1 (f:G6)(h:1<f.cmp.length):f.cmp[1]'h=d9.int .i64 f.cday:=id rfl
@[simp] theorem G6.k2 (f:G6)(h:2<f.cmp.length):f.cmp[2]'h=f.A:=id rfl
@[simp] theorem G6.k3 (f:G6)(h:3<f.cmp.length):f.cmp[3]'h=f.B:=id rfl
@[simp] theorem G6.k4 (f:G6)(h:4<f.cmp.length):f.cmp[4]'h=d9.int .i64 f.diff:=id rfl
@[simp] theorem G6.k5 (f:G6)(h:5<f.cmp.length):f.cmp[5]'h=d9.int .i64 f.err:=id rfl
@[simp] theorem G6.k6 (f:G6)(h:6<f.cmp.length):f.cmp[6]'h=d9.int .i64 f.hlo:=id rfl
@[simp] theorem G6.k7 (f:G6)(h:7<f.cmp.length):f.cmp[7]'h=d9.int .i64 f.hhi:=id rfl
theorem akz {m:Mem}{f g:G6}{a b l o b' p:List Int}(c:m.Ok)(h:aN m f a b l)(k:aN m g o b' p)(n j:Nat)(i:20000<=j):
  l8 KW j (n+2) (.func 52) [.agg f.cmp,.agg g.cmp] m=some [⟨.bool (nQ f g a b o b'),ext m [j5 f.cmp,j5 g.cmp]⟩]:=by
 rw [enter (sf:=f52) rfl rfl];have h:=h.ext (r9 c [j5 f.cmp,j5 g.cmp]);have k:=k.ext (r9 c [j5 f.cmp,j5 g.cmp]);have d:=Uy h.a k.a h.la n j i;have e:=Uy h.b k.b h.lb n j i;by_cases h0:f.cid=g.cid;by_cases h1:f.cday=g.cday;by_cases h2:f.diff=g.diff;by_cases h3:f.err=g.err;by_cases h4:f.hlo=g.hlo;by_cases h5:f.hhi=g.hhi;by_cases h6:a=o;by_cases h7:b=b';simp [f52,o9,w9,j6 c,l5 c,o8 c,o7 c,A8,d,e,nQ,h0,h1,h2,h3,h4,h5,h6,h7];simp [f52,o9,w9,j6 c,l5 c,o8 c,o7 c,A8,d,e,nQ,h0,h1,h2,h3,h4,h5,h6,h7];simp [f52,o9,w9,j6 c,l5 c,o8 c,o7 c,A8,d,e,nQ,h0,h1,h2,h3,h4,h5,h6];simp [f52,o9,w9,j6 c,l5 c,o8 c,o7 c,A8,d,e,nQ,h0,h1,h2,h3,h4,h5];simp [f52,o9,w9,j6 c,l5 c,o8 c,o7 c,A8,d,e,nQ,h0,h1,h2,h3,h4];simp [f52,o9,w9,j6 c,l5 c,o8 c,o7 c,A8,d,e,nQ,h0,h1,h2,h3];simp [f52,o9,w9,j6 c,l5 c,o8 c,o7 c,A8,d,e,nQ,h0,h1,h2];simp [f52,o9,w9,j6 c,l5 c,o8 c,o7 c,A8,d,e,nQ,h0,h1];simp [f52,o9,w9,j6 c,l5 c,o8 c,o7 c,A8,d,e,nQ,h0]
theorem akA {m:Mem}{f g:G6}{a b l o b' p:List Int}(c:m.Ok)(h:aN m f a b l)(k:aN m g o b' p)(n j:Nat)(i:20000<=j):
  l8 KW j (n+2) (.func 45) [.agg f.cmp,.agg g.cmp] m=some [⟨.bool (nQ f g a b o b'),ext m [j5 f.cmp,j5 g.cmp]⟩]:=by
 rw [enter (sf:=f45) rfl rfl];have h:=h.ext (r9 c [j5 f.cmp,j5 g.cmp]);have k:=k.ext (r9 c [j5 f.cmp,j5 g.cmp]);have d:=Pf h.a k.a h.la n j i;have e:=Pf h.b k.b h.lb n j i;by_cases h0:a=o;by_cases h1:b=b';by_cases h2:f.cid=g.cid;by_cases h3:f.cday=g.cday;by_cases h4:f.diff=g.diff;by_cases h5:f.err=g.err;by_cases h6:f.hlo=g.hlo;by_cases h7:f.hhi=g.hhi;simp [f45,o9,w9,j6 c,l5 c,o8 c,o7 c,A8,d,e,nQ,h0,h1,h2,h3,h4,h5,h6,h7];simp [f45,o9,w9,j6 c,l5 c,o8 c,o7 c,A8,d,e,nQ,h0,h1,h2,h3,h4,h5,h6,h7];simp [f45,o9,w9,j6 c,l5 c,o8 c,o7 c,A8,d,e,nQ,h0,h1,h2,h3,h4,h5,h6];simp [f45,o9,w9,j6 c,l5 c,o8 c,o7 c,A8,d,e,nQ,h0,h1,h2,h3,h4,h5];simp [f45,o9,w9,j6 c,l5 c,o8 c,o7 c,A8,d,e,nQ,h0,h1,h2,h3,h4];simp [f45,o9,w9,j6 c,l5 c,o8 c,o7 c,A8,d,e,nQ,h0,h1,h2,h3];simp [f45,o9,w9,j6 c,l5 c,o8 c,o7 c,A8,d,e,nQ,h0,h1,h2];simp [f45,o9,w9,j6 c,l5 c,o8 c,o7 c,A8,d,e,nQ,h0,h1];simp [f45,o9,w9,j6 c,l5 c,o8 c,o7 c,A8,d,e,nQ,h0]
set_option maxRecDepth 100000
set_option maxHeartbeats 2000000
def dQ (f g:G6):Bool:=(decide (f.room=g.room)&&decide (f.no=g.no))&&(decide (f.known=g.known)&&(decide (f.kind=g.kind)&&((decide (f.flo=g.flo)&&decide (f.fhi=g.fhi))&&((decide (f.gid=g.gid)&&(decide (f.made=g.made)&&(decide (f.nom=g.nom)&&(decide (f.tlo=g.tlo)&&(decide (f.thi=g.thi)&&(decide (f.gn=g.gn)&&(decide (f.gd=g.gd)&&decide (f.wear=g.wear))))))))&&((decide (f.ug=g.ug)&&decide (f.ud=g.ud))&&((decide (f.lg=g.lg)&&(decide (f.ll=g.ll)&&(decide (f.lh=g.lh)&&decide (f.lw=g.lw))))&&((decide (f.tr=g.tr)&&decide (f.tn=g.tn)))))))))
def bO (f g:G6)(a b l a' b' l':List Int):Bool:=dQ f g&&(nQ f g a b a' b'&&(decide (f.mday=g.mday)&&decide (l=l')))
def G6.nm (f:G6):Z6:=j5 [iV f.room,iV f.no]
theorem akB {m:Mem}{f g:G6}{a b l r b' x:List Int}(c:m.Ok)(y:m.lim<=m.nx)(q:aN m f a b l)(u:aN m g r b' x)(n o:Nat)(p:20000<=o):
  l8 KW o (n+3) (.func 19) [.agg f.cells,.agg g.cells] m=some [⟨.bool (bO f g a b l r b' x),ext m ([j5 f.cells,j5 g.cells,j5 f.cells,f.nm,j5 g.cells,g.nm]++(bif dQ f g then [j5 f.cmp,j5 g.cmp] else []))⟩]:=by
 rw [enter (sf:=f19) rfl rfl];have j:=q.same;have k:=u.same;have d:=Pe (n+1) o f (ext m [j5 f.cells,j5 g.cells]) (I5 c _) (by simp;omega);have e:=Pe (n+1) o g (ext m [j5 f.cells,j5 g.cells,j5 f.cells,f.nm]) (I5 c _) (by simp;omega);have s:=q.ext (r9 c [j5 f.cells,j5 g.cells,j5 f.cells,f.nm,j5 g.cells,g.nm]);have v:=u.ext (r9 c [j5 f.cells,j5 g.cells,j5 f.cells,f.nm,j5 g.cells,g.nm]);have h:=akz (I5 c _) s v n o p;have t:=q.ext (r9 c [j5 f.cells,j5 g.cells,j5 f.cells,f.nm,j5 g.cells,g.nm,j5 f.cmp,j5 g.cmp]);have w:=u.ext (r9 c [j5 f.cells,j5 g.cells,j5 f.cells,f.nm,j5 g.cells,g.nm,j5 f.cmp,j5 g.cmp]);have i:=Uy t.l w.l q.ll (n+1) o p;simp only [G6.nm] at d e h i ⊢;cases h0:(decide (f.room=g.room)&&decide (f.no=g.no)) with
 | true=>
  cases h1:decide (f.known=g.known) with
  | true=>
   cases h2:decide (f.kind=g.kind) with
   | true=>
    cases h3:(decide (f.flo=g.flo)&&decide (f.fhi=g.fhi)) with
    | true=>
     cases h4:(decide (f.gid=g.gid)&&(decide (f.made=g.made)&&(decide (f.nom=g.nom)&&(decide (f.tlo=g.tlo)&&(decide (f.thi=g.thi)&&(decide (f.gn=g.gn)&&(decide (f.gd=g.gd)&&decide (f.wear=g.wear)))))))) with
     | true=>
      cases h5:(decide (f.ug=g.ug)&&decide (f.ud=g.ud)) with
      | true=>
       cases h6:(decide (f.lg=g.lg)&&(decide (f.ll=g.ll)&&(decide (f.lh=g.lh)&&decide (f.lw=g.lw)))) with
       | true=>
        cases h7:(decide (f.tr=g.tr)&&decide (f.tn=g.tn)) with
        | true=>
         cases h8:nQ f g a b r b' with
         | true=>
          cases h9:decide (f.mday=g.mday) with
          | true=>
           cases h10:decide (l=x) with
           | true=>simp [f19,o9,w9,j6 c,l5 c,o8 c,o7 c,A8,d,e,h,i,j,k,bO,dQ,h0,h1,h2,h3,h4,h5,h6,h7,h8,h9,h10]
           | false=>simp [f19,o9,w9,j6 c,l5 c,o8 c,o7 c,A8,d,e,h,i,j,k,bO,dQ,h0,h1,h2,h3,h4,h5,h6,h7,h8,h9,h10]
          | false=>simp [f19,o9,w9,j6 c,l5 c,o8 c,o7 c,A8,d,e,h,i,j,k,bO,dQ,h0,h1,h2,h3,h4,h5,h6,h7,h8,h9]
         | false=>simp [f19,o9,w9,j6 c,l5 c,o8 c,o7 c,A8,d,e,h,i,j,k,bO,dQ,h0,h1,h2,h3,h4,h5,h6,h7,h8]
        | false=>simp [f19,o9,w9,j6 c,l5 c,o8 c,o7 c,A8,d,e,h,i,j,k,bO,dQ,h0,h1,h2,h3,h4,h5,h6,h7]
       | false=>simp [f19,o9,w9,j6 c,l5 c,o8 c,o7 c,A8,d,e,h,i,j,k,bO,dQ,h0,h1,h2,h3,h4,h5,h6]
      | false=>simp [f19,o9,w9,j6 c,l5 c,o8 c,o7 c,A8,d,e,h,i,j,k,bO,dQ,h0,h1,h2,h3,h4,h5]
     | false=>simp [f19,o9,w9,j6 c,l5 c,o8 c,o7 c,A8,d,e,h,i,j,k,bO,dQ,h0,h1,h2,h3,h4]
    | false=>simp [f19,o9,w9,j6 c,l5 c,o8 c,o7 c,A8,d,e,h,i,j,k,bO,dQ,h0,h1,h2,h3]
   | false=>simp [f19,o9,w9,j6 c,l5 c,o8 c,o7 c,A8,d,e,h,i,j,k,bO,dQ,h0,h1,h2]
  | false=>simp [f19,o9,w9,j6 c,l5 c,o8 c,o7 c,A8,d,e,h,i,j,k,bO,dQ,h0,h1]
 | false=>simp [f19,o9,w9,j6 c,l5 c,o8 c,o7 c,A8,d,e,h,i,j,k,bO,dQ,h0]
theorem ab5 {m:Mem}{f g:G6}{a b l j b' s:List Int}(c:m.Ok)(k:aN m f a b l)(t:aN m g j b' s)(n i:Nat)(h:20000<=i):
  l8 KW i (n+3) (.func 13) [.agg f.cells,.agg g.cells] m=some [⟨.bool (bO f g a b l j b' s),ext m [j5 f.cells,j5 g.cells,j5 f.cmp,j5 g.cmp]⟩]:=by
 rw [enter (sf:=f13) rfl rfl];have o:=k.ext (r9 c [j5 f.cells,j5 g.cells]);have q:=t.ext (r9 c [j5 f.cells,j5 g.cells]);have d:=akA (I5 c _) o q n i h;have p:=k.ext (r9 c [j5 f.cells,j5 g.cells,j5 f.cmp,j5 g.cmp]);have r:=t.ext (r9 c [j5 f.cells,j5 g.cells,j5 f.cmp,j5 g.cmp]);have e:=Pf p.l r.l k.ll (n+1) i h;cases h0:decide (f.room=g.room) with
 | true=>
  cases h1:decide (f.no=g.no) with
  | true=>
   cases h2:decide (f.known=g.known) with
   | true=>
    cases h3:decide (f.kind=g.kind) with
    | true=>
     cases h4:(decide (f.flo=g.flo)&&decide (f.fhi=g.fhi)) with
     | true=>
      cases h5:(decide (f.gid=g.gid)&&(decide (f.made=g.made)&&(decide (f.nom=g.nom)&&(decide (f.tlo=g.tlo)&&(decide (f.thi=g.thi)&&(decide (f.gn=g.gn)&&(decide (f.gd=g.gd)&&decide (f.wear=g.wear)))))))) with
      | true=>
       cases h6:(decide (f.ug=g.ug)&&decide (f.ud=g.ud)) with
       | true=>
        cases h7:(decide (f.lg=g.lg)&&(decide (f.ll=g.ll)&&(decide (f.lh=g.lh)&&decide (f.lw=g.lw)))) with
        | true=>
         cases h8:nQ f g a b j b' with
         | true=>
          cases h9:decide (f.mday=g.mday) with
          | true=>
           cases h10:decide (l=s) with
           | true=>
            cases h11:(decide (f.tr=g.tr)&&decide (f.tn=g.tn)) with
            | true=>simp [f13,o9,w9,j6 c,l5 c,o8 c,o7 c,A8,d,e,bO,dQ,h0,h1,h2,h3,h4,h5,h6,h7,h8,h9,h10,h11]
            | false=>simp [f13,o9,w9,j6 c,l5 c,o8 c,o7 c,A8,d,e,bO,dQ,h0,h1,h2,h3,h4,h5,h6,h7,h8,h9,h10,h11]
           | false=>simp [f13,o9,w9,j6 c,l5 c,o8 c,o7 c,A8,d,e,bO,dQ,h0,h1,h2,h3,h4,h5,h6,h7,h8,h9,h10]
          | false=>simp [f13,o9,w9,j6 c,l5 c,o8 c,o7 c,A8,d,e,bO,dQ,h0,h1,h2,h3,h4,h5,h6,h7,h8,h9]
         | false=>simp [f13,o9,w9,j6 c,l5 c,o8 c,o7 c,A8,d,e,bO,dQ,h0,h1,h2,h3,h4,h5,h6,h7,h8]
        | false=>simp [f13,o9,w9,j6 c,l5 c,o8 c,o7 c,A8,d,e,bO,dQ,h0,h1,h2,h3,h4,h5,h6,h7]
       | false=>simp [f13,o9,w9,j6 c,l5 c,o8 c,o7 c,A8,d,e,bO,dQ,h0,h1,h2,h3,h4,h5,h6]
      | false=>simp [f13,o9,w9,j6 c,l5 c,o8 c,o7 c,A8,d,e,bO,dQ,h0,h1,h2,h3,h4,h5]
     | false=>simp [f13,o9,w9,j6 c,l5 c,o8 c,o7 c,A8,d,e,bO,dQ,h0,h1,h2,h3,h4]
    | false=>simp [f13,o9,w9,j6 c,l5 c,o8 c,o7 c,A8,d,e,bO,dQ,h0,h1,h2,h3]
   | false=>simp [f13,o9,w9,j6 c,l5 c,o8 c,o7 c,A8,d,e,bO,dQ,h0,h1,h2]
  | false=>simp [f13,o9,w9,j6 c,l5 c,o8 c,o7 c,A8,d,e,bO,dQ,h0,h1]
 | false=>simp [f13,o9,w9,j6 c,l5 c,o8 c,o7 c,A8,d,e,bO,dQ,h0]
def aD (f:G6):G6:={room:=f.room,no:=f.no,known:=f.known,kind:=f.kind,flo:=0,fhi:=0,gid:=0,made:=0,nom:=0,tlo:=0,thi:=0,gn:=0,gd:=0,wear:=0,ug:=0,ud:=0,lg:=0,ll:=0,lh:=0,lw:=0,cid:=0,cday:=0,A:=nS,B:=nS,diff:=0,err:=0,hlo:=0,hhi:=0,mday:=0,L:=nS,tr:=0,tn:=0}
def Q7 (f:G6):G6:=if f.kind=1 then {aD f with flo:=f.flo,fhi:=f.fhi} else if f.kind=2 then {aD f with gid:=f.gid,made:=f.made,nom:=f.nom,tlo:=f.tlo,thi:=f.thi,gn:=f.gn,gd:=f.gd,wear:=f.wear} else if f.kind=3 then {aD f with ug:=f.ug,ud:=f.ud} else if f.kind=4 then {aD f with lg:=f.lg,ll:=f.ll,lh:=f.lh,lw:=f.lw} else if f.kind=5 then {aD f with cid:=f.cid,cday:=f.cday,A:=f.A,B:=f.B,diff:=f.diff,err:=f.err,hlo:=f.hlo,hhi:=f.hhi} else if f.kind=6 then {aD f with mday:=f.mday,L:=f.L} else if f.kind=7 then {aD f with tr:=f.tr,tn:=f.tn} else aD f
theorem Wz {m:Mem}{f:G6}{a b l:List Int}(c:aN m f a b l):aN m (Q7 f) (if f.kind=5 then a else []) (if f.kind=5 then b else []) (if f.kind=6 then l else []):=by
 have d:Y9 m nS []:=.inl ⟨rfl,rfl⟩;by_cases h5:f.kind=5;refine⟨?_,?_,?_,?_,?_,?_⟩<;>simp [Q7,h5,aD,c.a,c.b,c.la,c.lb,d]
 ·by_cases h6:f.kind=6;refine⟨?_,?_,?_,?_,?_,?_⟩<;>simp [Q7,h6,aD,c.l,c.ll,d]
  ·have e:(Q7 f).A=nS∧(Q7 f).B=nS∧(Q7 f).L=nS:=by
    unfold Q7;simp only [h5,h6,if_false];repeat' split
    all_goals exact⟨rfl,rfl,rfl⟩
   simp only [h5,h6,if_false];exact⟨by rw [e.1];exact d,by rw [e.2.1];exact d,by rw [e.2.2];exact d,by simp,by simp,by simp⟩
theorem akC {m:Mem}{f:G6}(e:m.Ok)(d:m.lim<=m.nx){a b l:List Int}(o:aN m f a b l)(n p:Nat):
  l8 KW p (n+1) (.func 48) [.agg f.cells] m=some [⟨.agg (Q7 f).cells,ext m [j5 f.cells,j5 (Q7 f).cells,j5 (Q7 f).cells]⟩]:=by
 rw [enter (sf:=f48) rfl rfl];have h:=o.a.A8;have j:=o.b.A8;have k:=o.l.A8;have g:A8 nS=true:=rfl;have c:∀i,A8 (iV i)=true:=λ_=>rfl;by_cases k1:f.kind=1;simp [-G6.aZ,f48,bD e d,h,j,k,g,c,Q7,aD,G6.cells,k1];by_cases k2:f.kind=2;simp [-G6.aZ,f48,bD e d,h,j,k,g,c,Q7,aD,G6.cells,k2];by_cases k3:f.kind=3;simp [-G6.aZ,f48,bD e d,h,j,k,g,c,Q7,aD,G6.cells,k3];by_cases k4:f.kind=4;simp [-G6.aZ,f48,bD e d,h,j,k,g,c,Q7,aD,G6.cells,k4];by_cases k5:f.kind=5;simp [-G6.aZ,f48,bD e d,h,j,k,g,c,Q7,aD,G6.cells,k5];by_cases k6:f.kind=6;simp [-G6.aZ,f48,bD e d,h,j,k,g,c,Q7,aD,G6.cells,k6];by_cases k7:f.kind=7;simp [-G6.aZ,f48,bD e d,h,j,k,g,c,Q7,aD,G6.cells,k7];simp [-G6.aZ,f48,bD e d,h,j,k,g,c,Q7,aD,G6.cells,k1,k2,k3,k4,k5,k6,k7]
def rQ (xs:List Int):Bool:=Z0 (okB xs) xs.length 0&&decide (xs.length<=6)
def Nj (f:G6):Bool:=(decide (0<=f.flo)&&decide (f.flo<=f.fhi)&&decide (f.fhi<=1000000))
def RB (f:G6):Bool:=(decide (1<=f.ug)&&decide (f.ug<=1099511627776))&&(decide (0<=f.ud)&&decide (f.ud<=20000))
def tJ (f:G6):Bool:=(decide (1<=f.lg)&&decide (f.lg<=1099511627776))&&((decide (0<=f.ll)&&decide (f.ll<=f.lh)&&decide (f.lh<=20000))&&(decide (0<=f.lw)&&decide (f.lw<=1048576)))
def eG (f:G6)(a b:List Int):Bool:=decide (f.cid=0)&&((decide (0<=f.cday)&&decide (f.cday<=20000))&&((decide (-1125899906842624<=f.diff)&&decide (f.diff<=1125899906842624))&&((decide (0<=f.err)&&decide (f.err<=1073741824))&&((decide (-10000<=f.hlo)&&decide (f.hlo<=f.hhi)&&decide (f.hhi<=10000))&&(rQ a&&rQ b)))))
def LM (f:G6)(l:List Int):Bool:=Z0 (okB l) l.length 0&&((decide (0<=f.mday)&&decide (f.mday<=19999))&&(decide (2<=l.length)&&decide (l.length<=5)))
def UA (f:G6):Bool:=(decide (1<=f.tr)&&decide (f.tr<=6))&&((decide (1<=f.tn)&&decide (f.tn<=60)) && !(decide (f.tr=f.room)&&decide (f.tn=f.no)))
theorem aeh (n c:Nat)(f:G6)(m:Mem)(a:m.Ok)(d:m.lim<=m.nx):∃m',l8 KW c (n+3) (.func 137) [.agg f.cells] m=some [⟨.bool (tJ f),m'⟩]∧Ext m m':=by
 rw [enter (sf:=f137) rfl rfl];have b:=Pd (n+1) c f.ll f.lh 0 20000 (ext m [j5 f.cells]) (I5 a _);cases h0:(decide (1<=f.lg)&&decide (f.lg<=1099511627776)) with
 | true=>
  cases h1:(decide (0<=f.ll)&&decide (f.ll<=f.lh)&&decide (f.lh<=20000)) with
  | true=>
   cases h2:(decide (0<=f.lw)&&decide (f.lw<=1048576)) with
   | true=>exact⟨ext m [j5 f.cells,j5 [iV f.ll,iV f.lh]],by simp [f137,o9,w9,j6 a,l5 a,o8 a,o7 a,A8,oW,dU,b,tJ,h0,h1,h2],r9 a _⟩
   | false=>exact⟨ext m [j5 f.cells,j5 [iV f.ll,iV f.lh]],by simp [f137,o9,w9,j6 a,l5 a,o8 a,o7 a,A8,oW,dU,b,tJ,h0,h1,h2],r9 a _⟩
  | false=>exact⟨ext m [j5 f.cells,j5 [iV f.ll,iV f.lh]],by simp [f137,o9,w9,j6 a,l5 a,o8 a,o7 a,A8,oW,dU,b,tJ,h0,h1],r9 a _⟩
 | false=>exact⟨ext m [j5 f.cells],by simp [f137,o9,w9,j6 a,l5 a,o8 a,o7 a,A8,oW,dU,b,tJ,h0],r9 a _⟩
theorem aei {m:Mem}{f:G6}{a b l:List Int}(c:m.Ok)(s:m.lim<=m.nx)(o:aN m f a b l)(n i:Nat)(j:20000<=i):
  ∃m',l8 KW i (n+9) (.func 140) [.agg f.cmp] m=some [⟨.bool (eG f a b),m'⟩]∧Ext m m':=by
 rw [enter (sf:=f140) rfl rfl];have d:=Pd (n+7) i f.hlo f.hhi (-10000) 10000 (ext m [j5 f.cmp]) (I5 c _);have E2:=r9 c [j5 f.cmp,j5 [iV f.hlo,iV f.hhi]];obtain⟨p,h,E3⟩:=Wy (I5 c _) (by simp;omega) (o.a.ext E2) o.la n i j;have q:p.get m.nx=some (j5 f.cmp):=by rw [E3.old _ (by simp),j6 c];rfl
 have E23:=E2.trans E3;obtain⟨r,k,E4⟩:=Wy (m:=p) E3.ok (by have e:=E23.lim;have g:=E23.nx;omega) (o.b.ext E23) o.lb n i j;cases h0:decide (f.cid=0) with
 | true=>
  cases e:(decide (0<=f.cday)&&decide (f.cday<=20000)) with
  | true=>
   cases g:(decide (-1125899906842624<=f.diff)&&decide (f.diff<=1125899906842624)) with
   | true=>
    cases h3:(decide (0<=f.err)&&decide (f.err<=1073741824)) with
    | true=>
     cases h4:(decide (-10000<=f.hlo)&&decide (f.hlo<=f.hhi)&&decide (f.hhi<=10000)) with
     | true=>
      cases h5:Z0 (okB a) a.length 0&&decide (a.length<=6) with
      | true=>
       cases h6:Z0 (okB b) b.length 0&&decide (b.length<=6) with
       | true=>exact⟨r,by rw [h5] at h;rw [h6] at k;simp [f140,o9,w9,j6 c,l5 c,o8 c,o7 c,A8,dU,d,h,q,k,eG,rQ,h0,e,g,h3,h4,h5,h6],E23.trans E4⟩
       | false=>exact⟨r,by rw [h5] at h;rw [h6] at k;simp [f140,o9,w9,j6 c,l5 c,o8 c,o7 c,A8,dU,d,h,q,k,eG,rQ,h0,e,g,h3,h4,h5,h6],E23.trans E4⟩
      | false=>exact⟨p,by rw [h5] at h;simp [f140,o9,w9,j6 c,l5 c,o8 c,o7 c,A8,dU,d,h,q,eG,rQ,h0,e,g,h3,h4,h5],E23⟩
     | false=>exact⟨ext m [j5 f.cmp,j5 [iV f.hlo,iV f.hhi]],by simp [f140,o9,w9,j6 c,l5 c,o8 c,o7 c,A8,dU,d,eG,rQ,h0,e,g,h3,h4],r9 c _⟩
    | false=>exact⟨ext m [j5 f.cmp],by simp [f140,o9,w9,j6 c,l5 c,o8 c,o7 c,A8,dU,d,eG,rQ,h0,e,g,h3],r9 c _⟩
   | false=>exact⟨ext m [j5 f.cmp],by simp [f140,o9,w9,j6 c,l5 c,o8 c,o7 c,A8,dU,d,eG,rQ,h0,e,g],r9 c _⟩
  | false=>exact⟨ext m [j5 f.cmp],by simp [f140,o9,w9,j6 c,l5 c,o8 c,o7 c,A8,dU,d,eG,rQ,h0,e],r9 c _⟩
 | false=>exact⟨ext m [j5 f.cmp],by simp [f140,o9,w9,j6 c,l5 c,o8 c,o7 c,A8,dU,d,eG,rQ,h0],r9 c _⟩
theorem aej {m:Mem}{f:G6}{a b l:List Int}(c:m.Ok)(j:m.lim<=m.nx)(h:aN m f a b l)(n d:Nat)(e:20000<=d):
  ∃m',l8 KW d (n+10) (.func 139) [.agg f.cells] m=some [⟨.bool (eG f a b),m'⟩]∧Ext m m':=by
 rw [enter (sf:=f139) rfl rfl];obtain⟨i,g,E3⟩:=aei (I5 c [j5 f.cells]) (by simp;omega) (h.ext (r9 c _)) n d e;exact⟨i,by simp [f139,o9,w9,j6 c,l5 c,o8 c,o7 c,A8,g],(r9 c _).trans E3⟩
theorem aek {m:Mem}{f:G6}{a b l:List Int}(c:m.Ok)(i:m.lim<=m.nx)(g:aN m f a b l)(n d:Nat)(e:20000<=d):
  ∃m',l8 KW d (n+4) (.func 142) [.agg f.cells] m=some [⟨.bool (LM f l),m'⟩]∧Ext m m':=by
 rw [enter (sf:=f142) rfl rfl];have h:=aee (I5 c [j5 f.cells]) (day:=f.mday) (g.l.ext (r9 c _)) g.ll n d e;exact⟨ext m [j5 f.cells,j5 [iV f.mday,f.L]],by simp [f142,o9,w9,j6 c,l5 c,o8 c,o7 c,A8,h,LM],r9 c _⟩
theorem ael {m:Mem}{f:G6}{a b l:List Int}(c:m.Ok)(j:m.lim<=m.nx)(i:aN m f a b l)(n h:Nat):
  ∃m',l8 KW h (n+2) (.func 145) [.agg f.cells] m=some [⟨.bool (UA f),m'⟩]∧Ext m m':=by
 rw [enter (sf:=f145) rfl rfl];have e:=i.same;have g:bS 100 (.agg [iV f.tr,iV f.tn]) (.agg [iV f.tr,iV f.tn])=true:=by rw [FJ];simp [FI,JV,J2]
 have d:=Pe n h f (ext m [j5 f.cells]) (I5 c _) (by simp;omega);cases h0:(decide (1<=f.tr)&&decide (f.tr<=6)) with
 | true=>
  cases h1:(decide (1<=f.tn)&&decide (f.tn<=60)) with
  | true=>
   cases h2:(decide (f.tr=f.room)&&decide (f.tn=f.no)) with
   | true=>exact⟨ext m [j5 f.cells,j5 f.cells,j5 [iV f.room,iV f.no]],by simp [f145,o9,w9,j6 c,l5 c,o8 c,o7 c,A8,dU,d,e,g,UA,eq_comm (a:=f.room),eq_comm (a:=f.no),h0,h1,h2],r9 c _⟩
   | false=>exact⟨ext m [j5 f.cells,j5 f.cells,j5 [iV f.room,iV f.no]],by simp [f145,o9,w9,j6 c,l5 c,o8 c,o7 c,A8,dU,d,e,g,UA,eq_comm (a:=f.room),eq_comm (a:=f.no),h0,h1,h2],r9 c _⟩
  | false=>exact⟨ext m [j5 f.cells],by simp [f145,o9,w9,j6 c,l5 c,o8 c,o7 c,A8,dU,d,e,g,UA,eq_comm (a:=f.room),eq_comm (a:=f.no),h0,h1],r9 c _⟩
 | false=>exact⟨ext m [j5 f.cells],by simp [f145,o9,w9,j6 c,l5 c,o8 c,o7 c,A8,dU,d,e,g,UA,eq_comm (a:=f.room),eq_comm (a:=f.no),h0],r9 c _⟩
theorem aem {m:Mem}{f g:G6}{a b l:List Int}{p:Nat}(c:m.Ok)(r:m.lim<=p)(hp:p<m.nx)(h:aN m f a b l)(q:m.get p=some (j5 g.cells))(n o:Nat):
  ∃m',l8 KW o (n+1) (.func 131) [.ptr p 0,.agg f.cells] m=some [⟨.tuple [],m'⟩]∧m'.Ok∧m'.lim=m.lim∧m.nx<=m'.nx∧(∀i,i<m.nx->i≠p->m'.get i=m.get i)∧m'.get p=some (j5 ({g with flo:=f.flo,fhi:=f.fhi}:G6).cells):=by
 rw [enter (sf:=f131) rfl rfl];have s:=h.a.A8;have t:=h.b.A8;have u:=h.l.A8;have j:∀i,A8 (iV i)=true:=λ_=>rfl;have e:(ext m [j5 f.cells]).get p=some (j5 g.cells):=by rw [H6 c _ hp];exact q
 have d:p<(ext m [j5 f.cells]).nx:=by simp;omega
 refine⟨(ext m [j5 f.cells]).set p (j5 ({g with flo:=f.flo,fhi:=f.fhi}:G6).cells),?_,(I5 c _).set d _,by simp,by simp,λi j k=>?_,fq (I5 c _) _ d rfl⟩;simp only [G6.cells] at e ⊢;simp [-G6.aZ,f131,o9,w9,j6 c,l5 c,o8 c,o7 c,bW,r,e,s,t,u,j];rw [jl (I5 c _) _ d k,H6 c _ j]
theorem aen {m:Mem}{f g:G6}{a b l:List Int}{p:Nat}(c:m.Ok)(r:m.lim<=p)(hp:p<m.nx)(h:aN m f a b l)(q:m.get p=some (j5 g.cells))(n o:Nat):
  ∃m',l8 KW o (n+1) (.func 133) [.ptr p 0,.agg f.cells] m=some [⟨.tuple [],m'⟩]∧m'.Ok∧m'.lim=m.lim∧m.nx<=m'.nx∧(∀i,i<m.nx->i≠p->m'.get i=m.get i)∧m'.get p=some (j5 ({g with gid:=f.gid,made:=f.made,nom:=f.nom,tlo:=f.tlo,thi:=f.thi,gn:=f.gn,gd:=f.gd,wear:=f.wear}:G6).cells):=by
 rw [enter (sf:=f133) rfl rfl];have s:=h.a.A8;have t:=h.b.A8;have u:=h.l.A8;have j:∀i,A8 (iV i)=true:=λ_=>rfl;have e:(ext m [j5 f.cells]).get p=some (j5 g.cells):=by rw [H6 c _ hp];exact q
 have d:p<(ext m [j5 f.cells]).nx:=by simp;omega
 refine⟨(ext m [j5 f.cells]).set p (j5 ({g with gid:=f.gid,made:=f.made,nom:=f.nom,tlo:=f.tlo,thi:=f.thi,gn:=f.gn,gd:=f.gd,wear:=f.wear}:G6).cells),?_,(I5 c _).set d _,by simp,by simp,λi j k=>?_,fq (I5 c _) _ d rfl⟩;simp only [G6.cells] at e ⊢;simp [-G6.aZ,f133,o9,w9,j6 c,l5 c,o8 c,o7 c,bW,r,e,s,t,u,j];rw [jl (I5 c _) _ d k,H6 c _ j]
theorem aeo {m:Mem}{f g:G6}{a b l:List Int}{p:Nat}(c:m.Ok)(r:m.lim<=p)(hp:p<m.nx)(h:aN m f a b l)(q:m.get p=some (j5 g.cells))(n o:Nat):
  ∃m',l8 KW o (n+1) (.func 136) [.ptr p 0,.agg f.cells] m=some [⟨.tuple [],m'⟩]∧m'.Ok∧m'.lim=m.lim∧m.nx<=m'.nx∧(∀i,i<m.nx->i≠p->m'.get i=m.get i)∧m'.get p=some (j5 ({g with ug:=f.ug,ud:=f.ud}:G6).cells):=by
 rw [enter (sf:=f136) rfl rfl];have s:=h.a.A8;have t:=h.b.A8;have u:=h.l.A8;have j:∀i,A8 (iV i)=true:=λ_=>rfl;have e:(ext m [j5 f.cells]).get p=some (j5 g.cells):=by rw [H6 c _ hp];exact q
 have d:p<(ext m [j5 f.cells]).nx:=by simp;omega
 refine⟨(ext m [j5 f.cells]).set p (j5 ({g with ug:=f.ug,ud:=f.ud}:G6).cells),?_,(I5 c _).set d _,by simp,by simp,λi j k=>?_,fq (I5 c _) _ d rfl⟩;simp only [G6.cells] at e ⊢;simp [-G6.aZ,f136,o9,w9,j6 c,l5 c,o8 c,o7 c,bW,r,e,s,t,u,j];rw [jl (I5 c _) _ d k,H6 c _ j]
theorem aep {m:Mem}{f g:G6}{a b l:List Int}{p:Nat}(c:m.Ok)(r:m.lim<=p)(hp:p<m.nx)(h:aN m f a b l)(q:m.get p=some (j5 g.cells))(n o:Nat):
  ∃m',l8 KW o (n+1) (.func 138) [.ptr p 0,.agg f.cells] m=some [⟨.tuple [],m'⟩]∧m'.Ok∧m'.lim=m.lim∧m.nx<=m'.nx∧(∀i,i<m.nx->i≠p->m'.get i=m.get i)∧m'.get p=some (j5 ({g with lg:=f.lg,ll:=f.ll,lh:=f.lh,lw:=f.lw}:G6).cells):=by
 rw [enter (sf:=f138) rfl rfl];have s:=h.a.A8;have t:=h.b.A8;have u:=h.l.A8;have j:∀i,A8 (iV i)=true:=λ_=>rfl;have e:(ext m [j5 f.cells]).get p=some (j5 g.cells):=by rw [H6 c _ hp];exact q
 have d:p<(ext m [j5 f.cells]).nx:=by simp;omega
 refine⟨(ext m [j5 f.cells]).set p (j5 ({g with lg:=f.lg,ll:=f.ll,lh:=f.lh,lw:=f.lw}:G6).cells),?_,(I5 c _).set d _,by simp,by simp,λi j k=>?_,fq (I5 c _) _ d rfl⟩;simp only [G6.cells] at e ⊢;simp [-G6.aZ,f138,o9,w9,j6 c,l5 c,o8 c,o7 c,bW,r,e,s,t,u,j];rw [jl (I5 c _) _ d k,H6 c _ j]
theorem aer {m:Mem}{f g:G6}{a b l:List Int}{p:Nat}(c:m.Ok)(r:m.lim<=p)(hp:p<m.nx)(h:aN m f a b l)(q:m.get p=some (j5 g.cells))(n o:Nat):
  ∃m',l8 KW o (n+1) (.func 141) [.ptr p 0,.agg f.cells] m=some [⟨.tuple [],m'⟩]∧m'.Ok∧m'.lim=m.lim∧m.nx<=m'.nx∧(∀i,i<m.nx->i≠p->m'.get i=m.get i)∧m'.get p=some (j5 ({g with cid:=f.cid,cday:=f.cday,A:=f.A,B:=f.B,diff:=f.diff,err:=f.err,hlo:=f.hlo,hhi:=f.hhi}:G6).cells):=by
 rw [enter (sf:=f141) rfl rfl];have s:=h.a.A8;have t:=h.b.A8;have u:=h.l.A8;have j:∀i,A8 (iV i)=true:=λ_=>rfl;have e:(ext m [j5 f.cells]).get p=some (j5 g.cells):=by rw [H6 c _ hp];exact q
 have d:p<(ext m [j5 f.cells]).nx:=by simp;omega
 refine⟨(ext m [j5 f.cells]).set p (j5 ({g with cid:=f.cid,cday:=f.cday,A:=f.A,B:=f.B,diff:=f.diff,err:=f.err,hlo:=f.hlo,hhi:=f.hhi}:G6).cells),?_,(I5 c _).set d _,by simp,by simp,λi j k=>?_,fq (I5 c _) _ d rfl⟩;simp only [G6.cells] at e ⊢;simp [-G6.aZ,f141,o9,w9,j6 c,l5 c,o8 c,o7 c,bW,r,e,s,t,u,j];rw [jl (I5 c _) _ d k,H6 c _ j]
theorem aes {m:Mem}{f g:G6}{a b l:List Int}{p:Nat}(c:m.Ok)(r:m.lim<=p)(hp:p<m.nx)(h:aN m f a b l)(q:m.get p=some (j5 g.cells))(n o:Nat):
  ∃m',l8 KW o (n+1) (.func 144) [.ptr p 0,.agg f.cells] m=some [⟨.tuple [],m'⟩]∧m'.Ok∧m'.lim=m.lim∧m.nx<=m'.nx∧(∀i,i<m.nx->i≠p->m'.get i=m.get i)∧m'.get p=some (j5 ({g with mday:=f.mday,L:=f.L}:G6).cells):=by
 rw [enter (sf:=f144) rfl rfl];have s:=h.a.A8;have t:=h.b.A8;have u:=h.l.A8;have j:∀i,A8 (iV i)=true:=λ_=>rfl;have e:(ext m [j5 f.cells]).get p=some (j5 g.cells):=by rw [H6 c _ hp];exact q
 have d:p<(ext m [j5 f.cells]).nx:=by simp;omega
 refine⟨(ext m [j5 f.cells]).set p (j5 ({g with mday:=f.mday,L:=f.L}:G6).cells),?_,(I5 c _).set d _,by simp,by simp,λi j k=>?_,fq (I5 c _) _ d rfl⟩;simp only [G6.cells] at e ⊢;simp [-G6.aZ,f144,o9,w9,j6 c,l5 c,o8 c,o7 c,bW,r,e,s,t,u,j];rw [jl (I5 c _) _ d k,H6 c _ j]
theorem aeu {m:Mem}{f g:G6}{a b l:List Int}{p:Nat}(c:m.Ok)(r:m.lim<=p)(hp:p<m.nx)(h:aN m f a b l)(q:m.get p=some (j5 g.cells))(n o:Nat):
  ∃m',l8 KW o (n+1) (.func 146) [.ptr p 0,.agg f.cells] m=some [⟨.tuple [],m'⟩]∧m'.Ok∧m'.lim=m.lim∧m.nx<=m'.nx∧(∀i,i<m.nx->i≠p->m'.get i=m.get i)∧m'.get p=some (j5 ({g with tr:=f.tr,tn:=f.tn}:G6).cells):=by
 rw [enter (sf:=f146) rfl rfl];have s:=h.a.A8;have t:=h.b.A8;have u:=h.l.A8;have j:∀i,A8 (iV i)=true:=λ_=>rfl;have e:(ext m [j5 f.cells]).get p=some (j5 g.cells):=by rw [H6 c _ hp];exact q
 have d:p<(ext m [j5 f.cells]).nx:=by simp;omega
 refine⟨(ext m [j5 f.cells]).set p (j5 ({g with tr:=f.tr,tn:=f.tn}:G6).cells),?_,(I5 c _).set d _,by simp,by simp,λi j k=>?_,fq (I5 c _) _ d rfl⟩;simp only [G6.cells] at e ⊢;simp [-G6.aZ,f146,o9,w9,j6 c,l5 c,o8 c,o7 c,bW,r,e,s,t,u,j];rw [jl (I5 c _) _ d k,H6 c _ j]
theorem ab6 (cf:H7)(h:Nat)(m:Mem):∀(k a b:Nat),b<2^k->∀(N:Nat),2*k+1<=N->∀(a1:d9),
  ∃ba1,J5 (λenv m k=>zU cf h none env m k) N (nV4 (.int .u64 ((b:Nat):Int)) a1 (.int .u64 ((a:Nat):Int)) (.int .u64 0)) m []=some [⟨.exit 0,(nV4 (.int .u64 ((0:Nat):Int)) ba1 (.int .u64 (((Nat.gcd a b):Nat):Int)) (.int .u64 0)),m,[],none⟩]:=by
 have d:∀(a N:Nat) (a1:d9),J5 (λenv m k=>zU cf h none env m k) (N+1) (nV4 (.int .u64 ((0:Nat):Int)) a1 (.int .u64 ((a:Nat):Int)) (.int .u64 0)) m []=some [⟨.exit 0,(nV4 (.int .u64 ((0:Nat):Int)) fV (.int .u64 ((a:Nat):Int)) (.int .u64 0)),m,[],none⟩]:=by intro a N a1;rw [l9];simp [zU]
 have c:∀(a b N:Nat) (a1:d9),b≠0->J5 (λenv m k=>zU cf h none env m k) (N+1) (nV4 (.int .u64 ((b:Nat):Int)) a1 (.int .u64 ((a:Nat):Int)) (.int .u64 0)) m []=J5 (λenv m k=>zU cf h none env m k) N (nV4 (.int .u64 (((a%b):Nat):Int)) tV (.int .u64 ((b:Nat):Int)) (.int .u64 0)) m []:=by
  intro a b N a1 f;rw [l9];have l:¬ ((b:Nat):Int)=0:=by omega
  simp [zU,f,zD _ a b f]
 intro k;induction k with
 | zero=>
  intro a b f N p a1;obtain⟨N,rfl⟩:∃M,N=M+1:=⟨N-1,by omega⟩;have j:b=0:=by simpa using f
  subst j;exact⟨fV,by rw [d,azF]⟩
 | succ k ih=>
  intro a b f N p a1;obtain⟨N,rfl⟩:∃M,N=M+2:=⟨N-2,by omega⟩;by_cases h0:b=0;subst h0;exact⟨fV,by rw [d,azF]⟩;by_cases hc:a%b=0;refine⟨fV,?_⟩;have e:Nat.gcd a b=b:=by rw [ayY,azT,hc,Nat.gcd_zero_left]
  rw [c _ _ _ _ h0,hc,d,e];have l:a%b<b:=adK _ (by omega);have q:b%(a%b)<a%b:=adK _ (by omega);have r:b%(a%b)+a%b<=b:=by have:=axu b (a%b);have n:1<=b / (a%b):=(aCo (by omega)).2 (by omega);have s:a%b*1<=a%b*(b / (a%b)):=aCk _ n;omega
  have o:b%(a%b)<2^k:=by rw [agS] at f;omega
  obtain⟨i,g⟩:=ih (a%b) (b%(a%b)) o N (by omega) (tV);refine⟨i,?_⟩;rw [c _ _ _ _ h0,c _ _ _ _ hc,g];have e:Nat.gcd (a%b) (b%(a%b))=Nat.gcd a b:=by rw [ayY a b,azT b a,azT (a%b) b,ayY]
  rw [e]
theorem aev (a b:Nat)(hb:b<2^64)(n c:Nat)(d:20000<=c)(m:Mem):l8 KW c (n+1) (.func 452) [.int .u64 a,.int .u64 b] m=some [⟨.int .u64 (Nat.gcd a b:Nat),m⟩]:=by rw [enter (sf:=ajF) rfl rfl];obtain⟨e,g⟩:=ab6 (l8 KW c n) c m 64 a b hb c (by omega) uV;simp [ajF] at g ⊢;simp [g]
theorem ab7 (cf:H7)(h:Nat)(m:Mem):∀(k a b:Nat),b<2^k->∀(N:Nat),2*k+1<=N->∀(a1 a3:d9),
  ∃ba1 ba3,J5 (λenv m k=>zT cf h none env m k) N (OZ (iN b) a1 (iN a) a3 iZ) m []=some [⟨.exit 0,(OZ (iN 0) ba1 (iN ((Nat.gcd a b))) ba3 iZ),m,[],none⟩]:=by
 have d:∀(a N:Nat) (a1 a3:d9),J5 (λenv m k=>zT cf h none env m k) (N+1) (OZ (iN 0) a1 (iN a) a3 iZ) m []=some [⟨.exit 0,(OZ (iN 0) fV (iN a) a3 iZ),m,[],none⟩]:=by intro a N a1 a3;rw [l9];simp [zT]
 have c:∀(a b N:Nat) (a1 a3:d9),b≠0->J5 (λenv m k=>zT cf h none env m k) (N+1) (OZ (iN b) a1 (iN a) a3 iZ) m []=J5 (λenv m k=>zT cf h none env m k) N (OZ (iV (((a%b):Nat):Int)) tV (iN b) (iV ((a%b:Nat):Int)) iZ) m []:=by
  intro a b N a1 a3 f;rw [l9];have n:¬ ((b:Nat):Int)=0:=by omega
  simp [zT,f,zD _ a b f]
 intro k;induction k with
 | zero=>
  intro a b f N q a1 a3;obtain⟨N,rfl⟩:∃M,N=M+1:=⟨N-1,by omega⟩;have l:b=0:=by simpa using f
  subst l;exact⟨fV,a3,by rw [d,azF]⟩
 | succ k ih=>
  intro a b f N q a1 a3;obtain⟨N,rfl⟩:∃M,N=M+2:=⟨N-2,by omega⟩;by_cases h0:b=0;subst h0;exact⟨fV,a3,by rw [d,azF]⟩;by_cases hc:a%b=0;refine⟨fV,(iV ((a%b:Nat):Int)),?_⟩;have e:Nat.gcd a b=b:=by rw [ayY,azT,hc,Nat.gcd_zero_left]
  rw [c _ _ _ _ _ h0,hc,d,e];have n:a%b<b:=adK _ (by omega);have r:b%(a%b)<a%b:=adK _ (by omega);have s:b%(a%b)+a%b<=b:=by have:=axu b (a%b);have o:1<=b / (a%b):=(aCo (by omega)).2 (by omega);have t:a%b*1<=a%b*(b / (a%b)):=aCk _ o;omega
  have p:b%(a%b)<2^k:=by rw [agS] at f;omega
  obtain⟨i,j,g⟩:=ih (a%b) (b%(a%b)) p N (by omega) (tV) ((iV ((b%(a%b):Nat):Int)));refine⟨i,j,?_⟩;rw [c _ _ _ _ _ h0,c _ _ _ _ _ hc,g];have e:Nat.gcd (a%b) (b%(a%b))=Nat.gcd a b:=by rw [ayY a b,azT b a,azT (a%b) b,ayY]
  rw [e]
theorem aew (a b:Nat)(hb:b<2^64)(n c:Nat)(d:20000<=c)(m:Mem):l8 KW c (n+1) (.func 317) [iV a,iV b] m=some [⟨iV (Nat.gcd a b:Nat),m⟩]:=by rw [enter (sf:=f317) rfl rfl];obtain⟨e,f,g⟩:=ab7 (l8 KW c n) c m 64 a b hb c (by omega) uV uV;simp [f317] at g ⊢;simp [g]
theorem wrap_u64 {n:Int}(h:0<=n)(h':n<18446744073709551616):IntKind.u64.wrap n=n:=by simp [IntKind.wrap,IntKind.bits,IntKind.signed];omega
theorem WA (a:Int)(h:-9223372036854775808<=a)(h':a<9223372036854775808)(n b:Nat)(m:Mem):l8 KW b (n+1) (.func 451) [iV a] m=some [⟨.int .u64 (a.natAbs:Nat),m⟩]:=by
 rw [enter (sf:=adD) rfl rfl];by_cases h0:a<0;have e:iW .u64 (0-iW .u64 a)=((a.natAbs:Nat):Int):=by show IntKind.u64.wrap (0-IntKind.u64.wrap a)=_;simp [IntKind.wrap,IntKind.bits,IntKind.signed];omega
 simp only [Int.zero_sub] at e;simp [adD,h0,e];have e:iW .u64 a=((a.natAbs:Nat):Int):=by show IntKind.u64.wrap a=_;rw [wrap_u64 (by omega) (by omega)];omega
 simp [adD,h0,e]
theorem aex (a:Int)(h:-9223372036854775808<a)(h':a<9223372036854775808)(n b:Nat)(m:Mem):l8 KW b (n+1) (.func 318) [iV a] m=some [⟨iV (a.natAbs:Nat),m⟩]:=by
 rw [enter (sf:=f318) rfl rfl];by_cases h0:a<0;have e:lI (-a)=((a.natAbs:Nat):Int):=by rw [Z8 (by omega) (by omega)];omega
 simp [f318,h0,e];have e:((a.natAbs:Nat):Int)=a:=by omega
 simp [f318,h0,e]
def Gf (a b:Int):Bool:=decide (1<=b)&&(decide (b<=2147483647)&&(decide (((a.natAbs:Nat):Int)<=2147483647)&&decide (Nat.gcd a.natAbs b.natAbs=1)))
def Z9 (a:Int):Prop:=-9223372036854775808<=a∧a<9223372036854775808
theorem aey (a b:Int)(k:Z9 a)(hb:Z9 b)(n h:Nat)(j:20000<=h)(m:Mem)(c:m.Ok):l8 KW h (n+2) (.func 388) [.agg [iV a,iV b]] m=some [⟨.bool (Gf a b),ext m [j5 [iV a,iV b]]⟩]:=by
 rw [enter (sf:=Us) rfl rfl];have d:=WA a k.1 k.2 n h;have e:=WA b hb.1 hb.2 n h;have f:=aev a.natAbs b.natAbs (by have:=hb.1;have:=hb.2;omega) n h j;have i:bS 100 (iV b) (iV b)=true:=J2 _ _ _;have g:decide (((Nat.gcd a.natAbs b.natAbs:Nat):Int)=1)=decide (Nat.gcd a.natAbs b.natAbs=1):=by rw [acB];simp;omega
 cases h0:decide (1<=b) with
 | true=>
  cases h1:decide (b<=2147483647) with
  | true=>
   cases h2:decide (((a.natAbs:Nat):Int)<=2147483647) with
   | true=>
    cases h3:decide (Nat.gcd a.natAbs b.natAbs=1) with
    | true=>simp [Us,o9,w9,j6 c,l5 c,o8 c,o7 c,A8,d,e,f,i,g,Gf,h0,h1,h2,h3]
    | false=>simp [Us,o9,w9,j6 c,l5 c,o8 c,o7 c,A8,d,e,f,i,g,Gf,h0,h1,h2,h3]
   | false=>simp [Us,o9,w9,j6 c,l5 c,o8 c,o7 c,A8,d,e,f,i,g,Gf,h0,h1,h2]
  | false=>simp [Us,o9,w9,j6 c,l5 c,o8 c,o7 c,A8,d,e,f,i,g,Gf,h0,h1]
 | false=>simp [Us,o9,w9,j6 c,l5 c,o8 c,o7 c,A8,d,e,f,i,g,Gf,h0]
def Kw (a b:Int):Bool:=!(decide (b<1))&&(!(decide (2147483647<b))&&(!(decide (a < -2147483647))&&(!(decide (2147483647<a))&&decide (Nat.gcd a.natAbs b.natAbs=1))))
theorem aez (a b:Int):Kw a b=Gf a b:=by
 unfold Kw Gf;have c:(!(decide (b<1)))=decide (1<=b):=by rw [acB];simp
 have d:(!(decide (2147483647<b)))=decide (b<=2147483647):=by rw [acB];simp
 have e:(!(decide (a < -2147483647)) && !(decide (2147483647<a)))=decide (((a.natAbs:Nat):Int)<=2147483647):=by rw [acB];simp;omega
 rw [c,d,← e];simp [Bool.and_assoc]
theorem aeA (a b:Int)(p:Z9 a)(hb:Z9 b)(n d:Nat)(e:20000<=d)(m:Mem)(c:m.Ok):l8 KW d (n+2) (.func 246) [.agg [iV a,iV b]] m=some [⟨.bool (Gf a b),ext m [j5 [iV a,iV b]]⟩]:=by
 rw [enter (sf:=f246) rfl rfl,← aez];have f:=aew a.natAbs b.natAbs (by have:=hb.1;have:=hb.2;omega) n d e;have j:bS 100 (iV b) (iV b)=true:=J2 _ _ _;have h:decide (((Nat.gcd a.natAbs b.natAbs:Nat):Int)=1)=decide (Nat.gcd a.natAbs b.natAbs=1):=by rw [acB];simp;omega
 cases h0:decide (b<1) with
 | true=>simp [f246,o9,w9,j6 c,l5 c,o8 c,o7 c,A8,Kw,h0]
 | false=>
 cases h1:decide (2147483647<b) with
 | true=>simp [f246,o9,w9,j6 c,l5 c,o8 c,o7 c,A8,Kw,h0,h1]
 | false=>
 cases h2:decide (a < -2147483647) with
 | true=>simp [f246,o9,w9,j6 c,l5 c,o8 c,o7 c,A8,Kw,h0,h1,h2]
 | false=>
 cases h3:decide (2147483647<a) with
 | true=>simp [f246,o9,w9,j6 c,l5 c,o8 c,o7 c,A8,Kw,h0,h1,h2,h3]
 | false=>
 have k:¬ b<1:=by simpa using h0
 have l:¬ a < -2147483647:=by simpa using h2
 have o:¬ 2147483647<a:=by simpa using h3
 have i:((b.natAbs:Nat):Int)=b:=by omega
 have g:=aex a (by omega) (by omega) n d;rw [i] at f;cases h4:decide (Nat.gcd a.natAbs b.natAbs=1)<;>simp [f246,o9,w9,j6 c,l5 c,o8 c,o7 c,A8,Kw,h0,h1,h2,h3,h4,g,f,j,h]
def G6.bJ (f:G6):List d9:=[iV f.gid,iV f.made,iV f.nom,iV f.tlo,iV f.thi,iV f.gn,iV f.gd,iV f.wear]
def U9 (f:G6):Bool:=(Gf f.gn f.gd&&((decide (-1000<=f.gn)&&decide (f.gn<=1000))&&(decide (f.gd<=100)&&((decide (1<=f.gid)&&decide (f.gid<=1099511627776))&&((decide (0<=f.made)&&decide (f.made<=20000))&&((decide (1<=f.nom)&&decide (f.nom<=1125899906842624))&&((decide (-1073741824<=f.tlo)&&decide (f.tlo<=f.thi)&&decide (f.thi<=1073741824))&&(decide (0<=f.wear)&&decide (f.wear<=1048576)))))))))
theorem aeB (f:G6)(h:Z9 f.gn)(hb:Z9 f.gd)(n e:Nat)(g:20000<=e)(m:Mem)(a:m.Ok):∃m',l8 KW e (n+3) (.func 294) [.agg f.bJ] m=some [⟨.bool (U9 f),m'⟩]∧Ext m m':=by
 rw [enter (sf:=f294) rfl rfl];have b:=aey f.gn f.gd h hb n e g (ext m [j5 f.bJ]) (I5 a _);have c:=Ww (n+1) e f.tlo f.thi (-1073741824) 1073741824 (ext m [j5 f.bJ,j5 [iV f.gn,iV f.gd]]) (I5 a _);have d:decide (100<f.gd)=!decide (f.gd<=100):=by rw [acB];simp
 simp only [G6.bJ] at b c;cases h0:Gf f.gn f.gd with
 | true=>
  cases h1:(decide (-1000<=f.gn)&&decide (f.gn<=1000)) with
  | true=>
   cases h2:decide (f.gd<=100) with
   | true=>
    cases h3:(decide (1<=f.gid)&&decide (f.gid<=1099511627776)) with
    | true=>
     cases h4:(decide (0<=f.made)&&decide (f.made<=20000)) with
     | true=>
      cases h5:(decide (1<=f.nom)&&decide (f.nom<=1125899906842624)) with
      | true=>
       cases h6:(decide (-1073741824<=f.tlo)&&decide (f.tlo<=f.thi)&&decide (f.thi<=1073741824)) with
       | true=>
        cases h7:(decide (0<=f.wear)&&decide (f.wear<=1048576)) with
        | true=>exact⟨ext m [j5 f.bJ,j5 [iV f.gn,iV f.gd],j5 [iV f.tlo,iV f.thi]],by simp [f294,G6.bJ,o9,w9,j6 a,l5 a,o8 a,o7 a,A8,b,c,d,bI,dR,U9,h0,h1,h2,h3,h4,h5,h6,h7],r9 a _⟩
        | false=>exact⟨ext m [j5 f.bJ,j5 [iV f.gn,iV f.gd],j5 [iV f.tlo,iV f.thi]],by simp [f294,G6.bJ,o9,w9,j6 a,l5 a,o8 a,o7 a,A8,b,c,d,bI,dR,U9,h0,h1,h2,h3,h4,h5,h6,h7],r9 a _⟩
       | false=>exact⟨ext m [j5 f.bJ,j5 [iV f.gn,iV f.gd],j5 [iV f.tlo,iV f.thi]],by simp [f294,G6.bJ,o9,w9,j6 a,l5 a,o8 a,o7 a,A8,b,c,d,bI,dR,U9,h0,h1,h2,h3,h4,h5,h6],r9 a _⟩
      | false=>exact⟨ext m [j5 f.bJ,j5 [iV f.gn,iV f.gd]],by simp [f294,G6.bJ,o9,w9,j6 a,l5 a,o8 a,o7 a,A8,b,c,d,bI,dR,U9,h0,h1,h2,h3,h4,h5],r9 a _⟩
     | false=>exact⟨ext m [j5 f.bJ,j5 [iV f.gn,iV f.gd]],by simp [f294,G6.bJ,o9,w9,j6 a,l5 a,o8 a,o7 a,A8,b,c,d,bI,dR,U9,h0,h1,h2,h3,h4],r9 a _⟩
    | false=>exact⟨ext m [j5 f.bJ,j5 [iV f.gn,iV f.gd]],by simp [f294,G6.bJ,o9,w9,j6 a,l5 a,o8 a,o7 a,A8,b,c,d,bI,dR,U9,h0,h1,h2,h3],r9 a _⟩
   | false=>
    cases h3:(decide (1<=f.gid)&&decide (f.gid<=1099511627776)) with
    | true=>
     cases h4:(decide (0<=f.made)&&decide (f.made<=20000)) with
     | true=>
      cases h5:(decide (1<=f.nom)&&decide (f.nom<=1125899906842624)) with
      | true=>
       cases h6:(decide (-1073741824<=f.tlo)&&decide (f.tlo<=f.thi)&&decide (f.thi<=1073741824)) with
       | true=>exact⟨ext m [j5 f.bJ,j5 [iV f.gn,iV f.gd],j5 [iV f.tlo,iV f.thi]],by simp [f294,G6.bJ,o9,w9,j6 a,l5 a,o8 a,o7 a,A8,b,c,d,bI,dR,U9,h0,h1,h2,h3,h4,h5,h6],r9 a _⟩
       | false=>exact⟨ext m [j5 f.bJ,j5 [iV f.gn,iV f.gd],j5 [iV f.tlo,iV f.thi]],by simp [f294,G6.bJ,o9,w9,j6 a,l5 a,o8 a,o7 a,A8,b,c,d,bI,dR,U9,h0,h1,h2,h3,h4,h5,h6],r9 a _⟩
      | false=>exact⟨ext m [j5 f.bJ,j5 [iV f.gn,iV f.gd]],by simp [f294,G6.bJ,o9,w9,j6 a,l5 a,o8 a,o7 a,A8,b,c,d,bI,dR,U9,h0,h1,h2,h3,h4,h5],r9 a _⟩
     | false=>exact⟨ext m [j5 f.bJ,j5 [iV f.gn,iV f.gd]],by simp [f294,G6.bJ,o9,w9,j6 a,l5 a,o8 a,o7 a,A8,b,c,d,bI,dR,U9,h0,h1,h2,h3,h4],r9 a _⟩
    | false=>exact⟨ext m [j5 f.bJ,j5 [iV f.gn,iV f.gd]],by simp [f294,G6.bJ,o9,w9,j6 a,l5 a,o8 a,o7 a,A8,b,c,d,bI,dR,U9,h0,h1,h2,h3],r9 a _⟩
  | false=>
   cases h3:(decide (1<=f.gid)&&decide (f.gid<=1099511627776)) with
   | true=>
    cases h4:(decide (0<=f.made)&&decide (f.made<=20000)) with
    | true=>
     cases h5:(decide (1<=f.nom)&&decide (f.nom<=1125899906842624)) with
     | true=>
      cases h6:(decide (-1073741824<=f.tlo)&&decide (f.tlo<=f.thi)&&decide (f.thi<=1073741824)) with
      | true=>exact⟨ext m [j5 f.bJ,j5 [iV f.gn,iV f.gd],j5 [iV f.tlo,iV f.thi]],by simp [f294,G6.bJ,o9,w9,j6 a,l5 a,o8 a,o7 a,A8,b,c,d,bI,dR,U9,h0,h1,h3,h4,h5,h6],r9 a _⟩
      | false=>exact⟨ext m [j5 f.bJ,j5 [iV f.gn,iV f.gd],j5 [iV f.tlo,iV f.thi]],by simp [f294,G6.bJ,o9,w9,j6 a,l5 a,o8 a,o7 a,A8,b,c,d,bI,dR,U9,h0,h1,h3,h4,h5,h6],r9 a _⟩
     | false=>exact⟨ext m [j5 f.bJ,j5 [iV f.gn,iV f.gd]],by simp [f294,G6.bJ,o9,w9,j6 a,l5 a,o8 a,o7 a,A8,b,c,d,bI,dR,U9,h0,h1,h3,h4,h5],r9 a _⟩
    | false=>exact⟨ext m [j5 f.bJ,j5 [iV f.gn,iV f.gd]],by simp [f294,G6.bJ,o9,w9,j6 a,l5 a,o8 a,o7 a,A8,b,c,d,bI,dR,U9,h0,h1,h3,h4],r9 a _⟩
   | false=>exact⟨ext m [j5 f.bJ,j5 [iV f.gn,iV f.gd]],by simp [f294,G6.bJ,o9,w9,j6 a,l5 a,o8 a,o7 a,A8,b,c,d,bI,dR,U9,h0,h1,h3],r9 a _⟩
 | false=>
  cases h3:(decide (1<=f.gid)&&decide (f.gid<=1099511627776)) with
  | true=>
   cases h4:(decide (0<=f.made)&&decide (f.made<=20000)) with
   | true=>
    cases h5:(decide (1<=f.nom)&&decide (f.nom<=1125899906842624)) with
    | true=>
     cases h6:(decide (-1073741824<=f.tlo)&&decide (f.tlo<=f.thi)&&decide (f.thi<=1073741824)) with
     | true=>exact⟨ext m [j5 f.bJ,j5 [iV f.gn,iV f.gd],j5 [iV f.tlo,iV f.thi]],by simp [f294,G6.bJ,o9,w9,j6 a,l5 a,o8 a,o7 a,A8,b,c,d,bI,dR,U9,h0,h3,h4,h5,h6],r9 a _⟩
     | false=>exact⟨ext m [j5 f.bJ,j5 [iV f.gn,iV f.gd],j5 [iV f.tlo,iV f.thi]],by simp [f294,G6.bJ,o9,w9,j6 a,l5 a,o8 a,o7 a,A8,b,c,d,bI,dR,U9,h0,h3,h4,h5,h6],r9 a _⟩
    | false=>exact⟨ext m [j5 f.bJ,j5 [iV f.gn,iV f.gd]],by simp [f294,G6.bJ,o9,w9,j6 a,l5 a,o8 a,o7 a,A8,b,c,d,bI,dR,U9,h0,h3,h4,h5],r9 a _⟩
   | false=>exact⟨ext m [j5 f.bJ,j5 [iV f.gn,iV f.gd]],by simp [f294,G6.bJ,o9,w9,j6 a,l5 a,o8 a,o7 a,A8,b,c,d,bI,dR,U9,h0,h3,h4],r9 a _⟩
  | false=>exact⟨ext m [j5 f.bJ,j5 [iV f.gn,iV f.gd]],by simp [f294,G6.bJ,o9,w9,j6 a,l5 a,o8 a,o7 a,A8,b,c,d,bI,dR,U9,h0,h3],r9 a _⟩
theorem aeC (f:G6)(h:Z9 f.gn)(hb:Z9 f.gd)(n e:Nat)(g:20000<=e)(m:Mem)(a:m.Ok):∃m',l8 KW e (n+3) (.func 168) [.agg f.bJ] m=some [⟨.bool (U9 f),m'⟩]∧Ext m m':=by
 rw [enter (sf:=f168) rfl rfl];have b:=aeA f.gn f.gd h hb n e g (ext m [j5 f.bJ]) (I5 a _);have c:=Wv (n+1) e f.tlo f.thi (-1073741824) 1073741824 (ext m [j5 f.bJ,j5 [iV f.gn,iV f.gd]]) (I5 a _);have d:decide (100<f.gd)=!decide (f.gd<=100):=by rw [acB];simp
 simp only [G6.bJ] at b c;cases h0:Gf f.gn f.gd with
 | true=>
  cases h1:(decide (-1000<=f.gn)&&decide (f.gn<=1000)) with
  | true=>
   cases h2:decide (f.gd<=100) with
   | true=>
    cases h3:(decide (1<=f.gid)&&decide (f.gid<=1099511627776)) with
    | true=>
     cases h4:(decide (0<=f.made)&&decide (f.made<=20000)) with
     | true=>
      cases h5:(decide (1<=f.nom)&&decide (f.nom<=1125899906842624)) with
      | true=>
       cases h6:(decide (-1073741824<=f.tlo)&&decide (f.tlo<=f.thi)&&decide (f.thi<=1073741824)) with
       | true=>
        cases h7:(decide (0<=f.wear)&&decide (f.wear<=1048576)) with
        | true=>exact⟨ext m [j5 f.bJ,j5 [iV f.gn,iV f.gd],j5 [iV f.tlo,iV f.thi]],by simp [f168,G6.bJ,o9,w9,j6 a,l5 a,o8 a,o7 a,A8,b,c,d,jm,iR,U9,h0,h1,h2,h3,h4,h5,h6,h7],r9 a _⟩
        | false=>exact⟨ext m [j5 f.bJ,j5 [iV f.gn,iV f.gd],j5 [iV f.tlo,iV f.thi]],by simp [f168,G6.bJ,o9,w9,j6 a,l5 a,o8 a,o7 a,A8,b,c,d,jm,iR,U9,h0,h1,h2,h3,h4,h5,h6,h7],r9 a _⟩
       | false=>exact⟨ext m [j5 f.bJ,j5 [iV f.gn,iV f.gd],j5 [iV f.tlo,iV f.thi]],by simp [f168,G6.bJ,o9,w9,j6 a,l5 a,o8 a,o7 a,A8,b,c,d,jm,iR,U9,h0,h1,h2,h3,h4,h5,h6],r9 a _⟩
      | false=>exact⟨ext m [j5 f.bJ,j5 [iV f.gn,iV f.gd]],by simp [f168,G6.bJ,o9,w9,j6 a,l5 a,o8 a,o7 a,A8,b,c,d,jm,iR,U9,h0,h1,h2,h3,h4,h5],r9 a _⟩
     | false=>exact⟨ext m [j5 f.bJ,j5 [iV f.gn,iV f.gd]],by simp [f168,G6.bJ,o9,w9,j6 a,l5 a,o8 a,o7 a,A8,b,c,d,jm,iR,U9,h0,h1,h2,h3,h4],r9 a _⟩
    | false=>exact⟨ext m [j5 f.bJ,j5 [iV f.gn,iV f.gd]],by simp [f168,G6.bJ,o9,w9,j6 a,l5 a,o8 a,o7 a,A8,b,c,d,jm,iR,U9,h0,h1,h2,h3],r9 a _⟩
   | false=>exact⟨ext m [j5 f.bJ,j5 [iV f.gn,iV f.gd]],by simp [f168,G6.bJ,o9,w9,j6 a,l5 a,o8 a,o7 a,A8,b,c,d,jm,iR,U9,h0,h1,h2],r9 a _⟩
  | false=>exact⟨ext m [j5 f.bJ,j5 [iV f.gn,iV f.gd]],by simp [f168,G6.bJ,o9,w9,j6 a,l5 a,o8 a,o7 a,A8,b,c,d,jm,iR,U9,h0,h1],r9 a _⟩
 | false=>exact⟨ext m [j5 f.bJ,j5 [iV f.gn,iV f.gd]],by simp [f168,G6.bJ,o9,w9,j6 a,l5 a,o8 a,o7 a,A8,b,c,d,jm,iR,U9,h0],r9 a _⟩
def I6 (id:Nat):List d9:=[iZ,iZ,.slice id 0 1 1,nS,nS,nS,nS]
@[simp] theorem azQ (f:G6):f.bJ.length=8:=id rfl
@[simp] theorem aGm (f:G6):f.bJ.take 8=f.bJ:=id rfl
@[simp] theorem aGn (f:G6)(h:0<f.bJ.length):f.bJ[0]'h=iV f.gid:=id rfl
@[simp] theorem aGo (f:G6)(h:1<f.bJ.length):f.bJ[1]'h=iV f.made:=id rfl
@[simp] theorem azR (f:G6):I7 f.bJ=true:=id rfl
@[simp] theorem Nk (f:G6):[d9.int .i64 f.gid,iV f.made,iV f.nom,iV f.tlo,iV f.thi,iV f.gn,iV f.gd,iV f.wear]=f.bJ:=id rfl
theorem aeD (f:G6)(i:Z9 f.gn)(hb:Z9 f.gd)(n c:Nat)(e:20000<=c)(m:Mem)(b:m.Ok)(h:m.lim<=m.nx)(id:Nat)(g:id<m.nx)(j:m.get id=some (j5 f.bJ)):
  ∃m',l8 KW c (n+4) (.func 229) [.agg (I6 id)] m=some [⟨iV (bif U9 f then 0 else 1),m'⟩]∧Ext m m':=by
 rw [enter (sf:=f229) rfl rfl];obtain⟨N,rfl⟩:∃N,c=N+2:=⟨c-2,by omega⟩;have a:(ext m [j5 (I6 id)]).get id=some (j5 f.bJ):=by rw [H6 b _ g];exact j
 have l:j5 [d9.int .i64 0,iZ,iZ,iZ,iZ,iZ,iZ,iZ]=j5 [d9.int .i64 0,iZ,iZ,iZ,iZ,iZ,iZ,iZ]:=rfl;obtain⟨k,d,E1⟩:=aeB f i hb n (N+2) e (ext m [j5 (I6 id),j5 f.bJ]) (I5 b _);refine⟨k,?_,(r9 b _).trans E1⟩;simp only [I6] at a d ⊢;cases hgb:U9 f<;>rw [hgb] at d
 simp [f229,OP,l9,bD b h,A8,a,d];simp [f229,OP,l9,bD b h,A8,a,d,show lI 1=1 from Z8 (by decide) (by decide)]
theorem aeE (f:G6)(n b:Nat)(i:20000<=b)(m:Mem)(g:m.Ok)(h:m.lim<=m.nx)(id:Nat)(e:id<m.nx)(j:m.get id=some (j5 f.bJ)):
  ∃p m',l8 KW b (n+1) (.func 230) [.agg (I6 id)] m=some [⟨.map p,m'⟩]∧Ext m m':=by
 rw [enter (sf:=f230) rfl rfl];obtain⟨N,rfl⟩:∃N,b=N+2:=⟨b-2,by omega⟩;have d:∀c,Nat.blt (m.nx+c) m.lim=false:=λc=>by have:=VR h [] c;rwa [Ap] at this
 have a:(ext m [j5 (I6 id),.map []]).get id=some (j5 f.bJ):=by rw [H6 g _ e];exact j
 refine⟨m.nx+1,ext m [j5 (I6 id),.map [(iV f.gid,.agg f.bJ)],j5 f.bJ],?_,r9 g _⟩;simp only [I6] at a ⊢;simp [f230,Uj,l9,bD g h,A8,a,Ck,d,OC,wz,ah,show lI 1=1 from Z8 (by decide) (by decide)]
theorem aeF (n a:Nat)(m:Mem)(c:m.Ok)(b:m.lim<=m.nx)(id p:Nat):
  l8 KW a (n+1) (.func 231) [.agg (I6 id),.map p] m=some [⟨.func (.func 298) [] [.ptr m.nx 0,.ptr (m.nx+2) 0,.ptr (m.nx+1) 0],ext m [j5 (I6 id),j5 [.map p],j5 [.func (.func 295) [] [.ptr (m.nx+1) 0]]]⟩]:=by
 rw [enter (sf:=f231) rfl rfl];simp only [I6];simp [f231,bD c b,A8]
theorem aeG (n a:Nat)(b:20000<=a)(m:Mem)(id p q r:Nat)(y:d9)(hp:m.get p=some (j5 (I6 id))):
  l8 KW a (n+1) (.func 298) [y,.ptr p 0,.ptr q 0,.ptr r 0] m=some [⟨.tuple [],m⟩]:=by
 rw [enter (sf:=f298) rfl rfl];obtain⟨N,rfl⟩:∃N,a=N+2:=⟨a-2,by omega⟩;simp only [I6] at hp;simp [f298,FZ,Kq,OT,Un,l9,hp]
theorem akD (n c:Nat)(m:Mem):l8 KW c (n+1) (.func 344) [.int .u64 1] m=some [⟨iV 1,m⟩]:=by
 rw [enter (sf:=f344) rfl rfl];have d:iW .u8 1=1:=by decide +kernel
 have e:iW .i64 1=1:=by decide +kernel
 have f:lI 1=1:=Z8 (by decide) (by decide);have g:∀(x:OF) (a:T d9) b,x b a=.int .u8 1->uK (bg (.str [0,1,2,2,3,3,3,3,4,4,4,4,4,4,4,4,5,5,5,5,5,5,5,5,5,5,5,5,5,5,5,5,6,6,6,6,6,6,6,6,6,6,6,6,6,6,6,6,6,6,6,6,6,6,6,6,6,6,6,6,6,6,6,6,7,7,7,7,7,7,7,7,7,7,7,7,7,7,7,7,7,7,7,7,7,7,7,7,7,7,7,7,7,7,7,7,7,7,7,7,7,7,7,7,7,7,7,7,7,7,7,7,7,7,7,7,7,7,7,7,7,7,7,7,7,7,7,7,8,8,8,8,8,8,8,8,8,8,8,8,8,8,8,8,8,8,8,8,8,8,8,8,8,8,8,8,8,8,8,8,8,8,8,8,8,8,8,8,8,8,8,8,8,8,8,8,8,8,8,8,8,8,8,8,8,8,8,8,8,8,8,8,8,8,8,8,8,8,8,8,8,8,8,8,8,8,8,8,8,8,8,8,8,8,8,8,8,8,8,8,8,8,8,8,8,8,8,8,8,8,8,8,8,8,8,8,8,8,8,8,8,8,8,8,8,8,8,8,8,8,8,8,8,8,8,8])) x b a=some (.int .u8 1):=by intro x a b h;show jL (x b a) _=_;rw [h];rfl
 simp [f344,d,e,f,g]
theorem akE (n a:Nat)(m:Mem):l8 KW a (n+2) (.func 270) [.int .u64 1] m=some [⟨iV 1,m⟩]:=by rw [enter (sf:=f270) rfl rfl];simp [f270,akD]
theorem akF (v:d9)(n a:Nat)(b:20000<=a)(m:Mem):l8 KW a (n+1) (.func 373) [v,iZ,iV 1] m=some [⟨.tuple [],m⟩]:=by rw [enter (sf:=ajA) rfl rfl];obtain⟨N,rfl⟩:∃N,a=N+2:=⟨a-2,by omega⟩;simp [ajA,Ur,l9,show lI 1=1 from Z8 (by decide) (by decide)]
theorem akG (v:d9)(n a:Nat)(b:20000<=a)(m:Mem):l8 KW a (n+2) (.func 288) [v,iZ,iV 1,iV 1] m=some [⟨.tuple [],m⟩]:=by rw [enter (sf:=f288) rfl rfl];obtain⟨N,rfl⟩:∃N,a=N+2:=⟨a-2,by omega⟩;have c:=akF v n (N+2) b m;simp [f288,Um,l9,show lI 1=1 from Z8 (by decide) (by decide),c]
theorem akH (id c:Nat)(n a:Nat)(b:20000<=a)(m:Mem):l8 KW a (n+3) (.func 217) [.slice id 0 1 c] m=some [⟨.tuple [],m⟩]:=by
 rw [enter (sf:=f217) rfl rfl];have d:=akG (.slice id 0 1 c) n a b m;have e:iW .u64 1=1:=by decide +kernel
 simp [f217,e,akE,d]
theorem akI (id c:Nat)(n a:Nat)(b:20000<=a)(m:Mem):l8 KW a (n+1) (.func 397) [.slice id 0 1 c] m=some [⟨.slice id 0 1 c,m⟩]:=by rw [enter (sf:=ajD) rfl rfl];simp [ajD]
theorem aeH (f:G6)(n b:Nat)(a:20000<=b)(m:Mem)(d:m.Ok)(c:m.lim<=m.nx)(id:Nat):
  l8 KW b (n+4) (.func 301) [.agg (I6 id),.agg f.bJ] m=some [⟨.slice (m.nx+2) 0 1 1,ext m [j5 (I6 id),j5 f.bJ,j5 [iV f.made]]⟩]:=by
 rw [enter (sf:=f301) rfl rfl];obtain⟨N,rfl⟩:∃N,b=N+2:=⟨b-2,by omega⟩;simp only [I6];simp [f301,OU,Uo,l9,bD d c,A8,J3,akH _ _ n (N+2) a,akI _ _ (n+2) (N+2) a]
theorem aeI (a b:d9)(m:Mem)(f:m.Ok)(id:Nat)(d:m.get id=some (j5 [a,b])):aj m 2 1 (.slice id 0 1 1)=some [a,b]:=by show Y0 m id 0 (Nat.mul 1 2)=_;show aU (m.get id) (λe k c=>J7 e k c 2 0)=_;rw [d];kernel_rfl
theorem RD (a b:d9)(m:Mem)(d:m.Ok)(id:Nat)(c:m.get id=some (j5 [a,b]))(s x:OF)(cf:H7)(ls:List d9)(env:T d9)(hs:s ls env=nS)(e:x ls env=.slice id 0 1 1):
  lu 2 16 s x cf ls env m=some [⟨.sliceU m.nx 0 1 2,m.new (j5 [a,b])⟩]:=by
 show ob (lenOf (x ls env)) (λn=>ob (aj m 2 n (x ls env)) λnew=>kT m 2 16 n new (s ls env))=_;rw [e,hs];show ob (aj m 2 1 (.slice id 0 1 1)) _=_;rw [aeI a b m d id c];rfl
theorem aeJ (f:G6)(n e:Nat)(h:20000<=e)(m:Mem)(b:m.Ok)(o:m.lim<=m.nx)(id:Nat)(i:id<m.nx)(l:m.get id=some (j5 f.bJ)):
  ∃p m',l8 KW e (n+5) (.func 232) [.agg (I6 id)] m=some [⟨.sliceU p 0 1 2,m'⟩]∧Ext m m':=by
 rw [enter (sf:=f232) rfl rfl];obtain⟨N,rfl⟩:∃N,e=N+2:=⟨e-2,by omega⟩;have c:(ext m [j5 (I6 id)]).get id=some (j5 f.bJ):=by rw [H6 b _ i];exact l
 have j:=aeH f n (N+2) h (ext m [j5 (I6 id),j5 f.bJ]) (I5 b _) (by simp;omega) id;have k:∀(s x:OF) g d a,s d a=nS->x d a=.slice (m.nx+5) 0 1 1->
   lu 2 16 s x g d a (ext m [j5 (I6 id),j5 f.bJ,j5 (I6 id),j5 f.bJ,j5 [iV f.made],j5 [iV f.gid,iV f.made]]) =
    some [⟨.sliceU (m.nx+6) 0 1 2,ext m [j5 (I6 id),j5 f.bJ,j5 (I6 id),j5 f.bJ,j5 [iV f.made],j5 [iV f.gid,iV f.made],j5 [iV f.gid,iV f.made]]⟩]:=by
  intro s x g d a q r;rw [RD (iV f.gid) (iV f.made) _ (I5 b _) (m.nx+5) (by rw [l5 b];rfl) s x g d a q r,← jC];simp
 refine⟨m.nx+6,ext m [j5 (I6 id),j5 f.bJ,j5 (I6 id),j5 f.bJ,j5 [iV f.made],j5 [iV f.gid,iV f.made],j5 [iV f.gid,iV f.made]],?_,r9 b _⟩;simp only [I6] at c j k ⊢;simp [f232,OQ,Uk,l9,bD b o,A8,J3,S9,c,j,k,show lI 1=1 from Z8 (by decide) (by decide)]
theorem aeK (f:G6)(O:Z9 f.gn)(hb:Z9 f.gd)(n h:Nat)(i:20000<=h)(m:Mem)(l:m.Ok)(B:m.lim<=m.nx)(id:Nat)(A:id<m.nx)(P:m.get id=some (j5 f.bJ)):
  ∃m',l8 KW h (n+8) (.func 123) [.agg (I6 id)] m=some [⟨iV (bif U9 f then 0 else 1),m'⟩]∧Ext m m':=by
 rw [enter (sf:=f123) rfl rfl];have b:=Ww (n+6) h 0 0 0 1000000 (ext m [j5 (I6 id),j5 [iZ]]) (I5 l _);have u:(ext m [j5 (I6 id),j5 [iZ],j5 [iZ,iZ]]).get id=some (j5 f.bJ):=by rw [H6 l _ A];exact P
 have E2:=r9 l [j5 (I6 id),j5 [iZ],j5 [iZ,iZ]];obtain⟨c,t,E3⟩:=aeD f O hb (n+3) h i _ (I5 l [j5 (I6 id),j5 [iZ],j5 [iZ,iZ]]) (by simp;omega) id (by simp;omega) u;have g:c.get m.nx=some (j5 (I6 id)):=by rw [E3.old _ (by simp),j6 l];rfl
 have s:c.get (m.nx+1)=some (j5 [iZ]):=by rw [E3.old _ (by simp),l5 l];rfl
 have E23:=E2.trans E3;have R:c.lim<=m.nx:=by rw [E23.lim];exact B
 have V:m.nx+3<=c.nx:=by have:=E3.nx;simpa using this
 have N:c.Ok:=E3.ok;cases hgb:U9 f with
 | false=>rw [hgb] at t;refine⟨c.set (m.nx+1) (j5 [iV 1]),?_,E23.set (by omega) (by omega) _⟩;have H:(c.set (m.nx+1) (j5 [iV 1])).get (m.nx+1)=some (j5 [iV 1]):=fq N _ (by omega) rfl;simp only [I6] at b t g ⊢;simp [f123,bD l B,A8,b,t,g,s,Cm (show c.lim<=m.nx+1 by omega),H]
 | true=>
  rw [hgb] at t;have v:c.get id=some (j5 f.bJ):=by rw [E3.old _ (by simp;omega)];exact u
  obtain⟨p,a,J,E4⟩:=aeE f (n+6) h i c N (by omega) id (by omega) v;have j:a.Ok:=E4.ok;have S:a.lim<=m.nx:=by rw [E4.lim];exact R
  have W:c.nx<=a.nx:=E4.nx;have k:a.get m.nx=some (j5 (I6 id)):=by rw [E4.old _ (by omega)];exact g
  have E:a.get (m.nx+1)=some (j5 [iZ]):=by rw [E4.old _ (by omega)];exact s
  have K:=aeF (n+6) h a j (by omega) id p;have L:∀y I e r D o z,l8 KW h (n+7) (.func 298) [y,.ptr a.nx 0,.ptr (a.nx+2) 0,.ptr (a.nx+1) 0] (ext a [j5 (I6 id),j5 [.map p],j5 [.func (.func 295) [] [.ptr (a.nx+1) 0]],.deferred,.loop I e r D o z])=some [⟨.tuple [],ext a [j5 (I6 id),j5 [.map p],j5 [.func (.func 295) [] [.ptr (a.nx+1) 0]],.deferred,.loop I e r D o z]⟩]:=λy I e r D o z=>aeG (n+6) h i _ id _ _ _ y (by rw [j6 j];rfl)
  have E6:=r9 j [j5 (I6 id),j5 [.map p],j5 [.func (.func 295) [] [.ptr (a.nx+1) 0]],.deferred,.dead];have w:(ext a [j5 (I6 id),j5 [.map p],j5 [.func (.func 295) [] [.ptr (a.nx+1) 0]],.deferred,.dead]).get m.nx=some (j5 (I6 id)):=by rw [E6.old _ (by omega)];exact k
  obtain⟨q,d,M,E7⟩:=aeJ f (n+2) h i _ (I5 j [j5 (I6 id),j5 [.map p],j5 [.func (.func 295) [] [.ptr (a.nx+1) 0]],.deferred,.dead]) (by simp;omega) id (by simp;omega)
   (by rw [H6 j _ (by omega),E4.old _ (by omega)];exact v)
  have E47:=E6.trans E7;have C:d.Ok:=E7.ok;have X:a.nx+5<=d.nx:=by have:=E7.nx;simpa using this
  have U:d.lim<=m.nx:=by rw [E47.lim];exact S
  have x:d.get m.nx=some (j5 (I6 id)):=by rw [E47.old _ (by omega)];exact k
  have F:d.get (m.nx+1)=some (j5 [iZ]):=by rw [E47.old _ (by omega)];exact E
  have G:d.get (a.nx+3)=some .deferred:=by rw [E7.old _ (by simp),l5 j];rfl
  have E07:=(E23.trans E4).trans E47;refine⟨(d.set (m.nx+1) (j5 [iZ])).set (a.nx+3) .dead,?_,(E07.set (by omega) (by omega) _).set (by simp;omega) (by omega) _⟩;have Q:(d.set (m.nx+1) (j5 [iZ])).Ok:=C.set (by omega) _;have T:(d.set (m.nx+1) (j5 [iZ])).get (a.nx+3)=some .deferred:=by rw [jl C _ (by omega) (by omega)];exact G
  have H:((d.set (m.nx+1) (j5 [iZ])).set (a.nx+3) .dead).get (m.nx+1)=some (j5 [iZ]):=by rw [jl Q _ (by simp;omega) (by omega)];exact fq C _ (by omega) rfl
  simp only [I6] at b t g J k w K L M x ⊢;simp [f123,bD l B,A8,j6 j,l5 j,o8 j,b,t,g,s,J,k,w,K,L,M,x,F,Cm (show d.lim<=m.nx+1 by omega),adx,T,H,show lI 2=2 from Z8 (by decide) (by decide),show lI 0=0 from Z8 (by decide) (by decide)]
theorem aeL {m:Mem}{f:G6}(e:Z9 f.gn)(hb:Z9 f.gd)(a:m.Ok)(g:m.lim<=m.nx)(n b:Nat)(d:20000<=b):
  ∃m',l8 KW b (n+9) (.func 132) [.agg f.cells] m=some [⟨.bool (U9 f),m'⟩]∧Ext m m':=by
 rw [enter (sf:=f132) rfl rfl];obtain⟨h,c,E1⟩:=aeK f e hb n b d (ext m [j5 f.cells,j5 f.bJ]) (I5 a _) (by simp;omega) (m.nx+1) (by simp) (by rw [l5 a];rfl);refine⟨h,?_,(r9 a _).trans E1⟩;simp only [I6] at c;cases hgb:U9 f<;>rw [hgb] at c<;>simp [f132,bD a g,A8,J3,c]
theorem aeM (n a:Nat)(b:20000<=a)(m:Mem)(d:m.Ok)(c:m.lim<=m.nx)(id:Nat):
  l8 KW a (n+1) (.func 169) [.agg (I6 id)] m=some [⟨iZ,ext m [j5 (I6 id)]⟩]:=by
 rw [enter (sf:=f169) rfl rfl];obtain⟨N,rfl⟩:∃N,a=N+2:=⟨a-2,by omega⟩;simp only [I6];simp [f169,Ud,l9,bD d c,A8]
theorem aeN (n a:Nat)(b:20000<=a)(m:Mem)(d:m.Ok)(c:m.lim<=m.nx)(id:Nat):
  l8 KW a (n+1) (.func 170) [.agg (I6 id)] m=some [⟨iZ,ext m [j5 (I6 id)]⟩]:=by
 rw [enter (sf:=f170) rfl rfl];obtain⟨N,rfl⟩:∃N,a=N+2:=⟨a-2,by omega⟩;simp only [I6];simp [f170,Uf,l9,bD d c,A8]
theorem aeO (f:G6)(n a:Nat)(b:20000<=a)(m:Mem)(d:m.Ok)(c:m.lim<=m.nx)(id:Nat):
  l8 KW a (n+1) (.func 250) [.agg (I6 id),.agg f.bJ,iV f.made] m=some [⟨tV,ext m [j5 (I6 id),j5 f.bJ]⟩]:=by
 rw [enter (sf:=f250) rfl rfl];obtain⟨N,rfl⟩:∃N,a=N+2:=⟨a-2,by omega⟩;simp only [I6];simp [f250,l9,bD d c,A8]
end
end Go.Proofs.YtfnlnpllpfhhnaaGreatDoor.TT
