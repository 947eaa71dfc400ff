/- Functions of the program and of the specification, walked; conditions: the memory holds what the arguments say. -/
import Derived.Test.YtfnlnpllpfhhnaaGreatDoorPB0
import Derived.Lib.ItoaMem
import Derived.Lib.AtoiAll
import Derived.Lib.SpaceU
set_option linter.all false
namespace Go.Proofs.YtfnlnpllpfhhnaaGreatDoor.TT
open Go Go.AM
noncomputable section
def Vi (f:Nat):Bool:=Nat.beq f 8||(Nat.beq f 83||(Nat.beq f 93||(Nat.beq f 147||(Nat.beq f 256||(Nat.beq f 257||Nat.beq f 94)))))
def aEm (f:FuncId):Option K3:=(fns f).map λsf=>{sf with pure:=Vi f}
def Dl (s:List UInt8):DI:=match Lib.atoiAll s with
 | .ok v=>⟨.tuple [.int .i64 v,.nilIface],[]⟩
 | .range=>⟨.tuple [.int .i64 (Lib.atoiSat s),.iface 330 (.ptr base.nx 0)],[.dead]⟩
 | _=>⟨.tuple [.int .i64 0,.iface 330 (.ptr base.nx 0)],[.dead]⟩
def NC (s:List UInt8):DI:=⟨.slice base.nx 0 (Lib.fieldsD s).length (Lib.fieldsD s).length,[.cells 1 ((Lib.fieldsD s).map λw=>[d9.str w])]⟩
def akV (f:FuncId)(args:List d9)(bs:List NB):Option DI:=match bs with
 | []=>match args with
  | [.int .i64 n]=>if f=147∧-9223372036854775808<=n∧n<=9223372036854775807 then some ⟨.str (Lib.itoa n),[]⟩ else none
  | [.str s]=>if s.length<1000000 then (if f=93 then some (Dl s) else if f=83 then some (NC s) else none) else none
  | _=>none
 | _=>none
def vv (f:FuncId)(args:List d9)(bs:List NB):Option DI:=if f=8 then sumOf [⟨8,[],[],.bool true,[]⟩] f args bs else if f=256∨f=257 then aeG 257 256 94 base.nx f args bs else if f=94 then aeG 257 256 94 base.nx 94 args bs else akV f args bs
def KW:Known:=⟨aEm,base,vv⟩
theorem enter {n a:Nat}{f:FuncId}{sf:K3}{vs:List d9}{m:Mem}(h:fns f=some sf)(b:Vi f=false):
  l8 KW a (n+1) (.func f) vs m=oC (l8 KW a n) (Fe KW (l8 KW a n) a) a sf vs m:=by
 rw [kN];have h:KW.fns f=some {sf with pure:=false}:=by show (fns f).map _=_;rw [h,b];rfl
 simp only [h,I7,aJ];rfl
theorem EK {n a:Nat}{f:FuncId}{sf:K3}{vs:List d9}{m:Mem}(h:fns f=some sf)(b:Vi f=true):
  l8 KW a (n+1) (.func f) vs m=wK KW (l8 KW a n) a f {sf with pure:=true} vs m:=by
 rw [kN];have h:KW.fns f=some {sf with pure:=true}:=by show (fns f).map _=_;rw [h,b];rfl
 simp only [h,I7];rfl
theorem aeW (i:Int)(h0:-9223372036854775808<=i)(d:i<=9223372036854775807)(n b:Nat)(m:Mem):l8 KW b (n+1) (.func 147) [.int .i64 i] m=some [⟨.str (Lib.itoa i),m⟩]:=by
 rw [EK (sf:=f147) rfl rfl,rz (K:=KW) (c:=⟨[],[.int .i64 i],[]⟩) (a:=⟨.str (Lib.itoa i),[]⟩) (uY m rfl λ_=>rfl)
  (by show vv 147 [.int .i64 i] []=_;rw [vv,if_neg (by decide),if_neg (by decide),if_neg (by decide)];exact if_pos ⟨rfl,h0,d⟩)]
 rfl
theorem WU (s:List UInt8)(hs:s.length<1000000)(n f:Nat){m:Mem}(d:m.Ok):∃v m',l8 KW f (n+1) (.func 83) [.str s] m=some [⟨v,m'⟩]∧Ext m m'∧vX m' v (strs (Lib.fieldsD s)):=by
 refine⟨.slice m.nx 0 (Lib.fieldsD s).length (Lib.fieldsD s).length,m.new (dH (.cells 1 ((Lib.fieldsD s).map λw=>[d9.str w]))),?_,(Ext.refl d).new _,m.nx,0,_,by rw [J3],by rw [J3];exact aA _,by simp,.inr ⟨len' ((Lib.fieldsD s).map λw=>[d9.str w]),T.ofList ((Lib.fieldsD s).map λw=>[d9.str w]),?_,?_,λi g=>?_⟩⟩;rw [EK (sf:=f83) rfl rfl,rz (K:=KW) (c:=⟨[],[.str s],[]⟩) (a:=NC s) (uY m rfl λ_=>rfl)
  (by show vv 83 [.str s] []=_;rw [vv,if_neg (by decide),if_neg (by decide),if_neg (by decide)];show (if s.length<1000000 then _ else _)=_;rw [if_pos hs,if_neg (by decide),if_pos rfl])]
 show ob (ob (gI base.nx [] m.nx base.nx) λj=>some (d9.slice j 0 (Lib.fieldsD s).length (Lib.fieldsD s).length)) (λv=>ob (ob (ob (lY (gI base.nx [] m.nx) ((Lib.fieldsD s).map λw=>[d9.str w])) λx=>some (NB.cells 1 x)) λx=>ob (some []) λy=>some (x::y)) λe=>one v (layAll e m))=_;rw [IY,xK];rfl;rw [Mem.Q5 d,if_pos rfl];rfl;rw [K4];simp [strs];have b:i<(Lib.fieldsD s).length:=by rwa [J3] at g
 rw [S9,T.aV,adf,aP b];simp [strs]
theorem Vj (s:List UInt8)(hs:s.length<1000000)(n l:Nat)(m:Mem)(g:m.Ok):∃v e m',l8 KW l (n+1) (.func 93) [.str s] m=some [⟨.tuple [.int .i64 v,e],m'⟩]∧Ext m m'∧
  ((Lib.atoiAll s=.ok v∧e=.nilIface)∨((∀x,Lib.atoiAll s≠.ok x)∧∃p,e=.iface 330 (.ptr p 0))):=by
 have b:l8 KW l (n+1) (.func 93) [.str s] m=ob (gG (gI base.nx [] m.nx) (Dl s).v) λv=>ob (vK (gI base.nx [] m.nx) (Dl s).bs) λf=>one v (layAll f m):=by
  rw [EK (sf:=f93) rfl rfl,rz (K:=KW) (c:=⟨[],[.str s],[]⟩) (a:=Dl s) (uY m rfl λ_=>rfl)
   (by show vv 93 [.str s] []=_;rw [vv,if_neg (by decide),if_neg (by decide),if_neg (by decide)];show (if s.length<1000000 then _ else _)=_;rw [if_pos hs,if_pos rfl])]
  rfl
 have d:∀k:Int,ob (gG (gI base.nx [] m.nx) (.tuple [.int .i64 k,.iface 330 (.ptr base.nx 0)])) (λv=>ob (vK (gI base.nx [] m.nx) [.dead]) λf=>one v (layAll f m))=some [⟨.tuple [.int .i64 k,.iface 330 (.ptr m.nx 0)],m.new .dead⟩]:=λk=>by show ob (ob (ob (some (d9.int .i64 k)) λx=>ob (ob (ob (ob (gI base.nx [] m.nx base.nx) λj=>some (d9.ptr j 0)) λx=>some (d9.iface 330 x)) λx=>ob (some []) λy=>some (x::y)) λy=>some (x::y)) λx=>some (d9.tuple x)) (λv=>ob (some [NB.dead]) λf=>one v (layAll f m))=_;rw [IY];rfl
 cases h:Lib.atoiAll s with
 | ok v=>refine⟨v,.nilIface,m,?_,Ext.refl g,.inl ⟨rfl,rfl⟩⟩;rw [b];simp only [Dl,h];rfl
 | range=>refine⟨Lib.atoiSat s,.iface 330 (.ptr m.nx 0),m.new .dead,?_,(Ext.refl g).new _,.inr ⟨(λx (i:Lib.NumEnd.range=.ok x)=>by cases i),m.nx,rfl⟩⟩;rw [b];simp only [Dl,h];exact d _
 | _=>refine⟨0,.iface 330 (.ptr m.nx 0),m.new .dead,?_,(Ext.refl g).new _,.inr ⟨(by intro x i;cases i),m.nx,rfl⟩⟩;rw [b];simp only [Dl,h];exact d 0
theorem abL (s:List UInt8)(c:UInt8)(hs:s.length<1000000)(n b:Nat)(m:Mem):l8 KW b (n+1) (.func 257) [.str s,.str [c]] m=some [⟨.int .i64 (mU c s),m⟩]:=by
 rw [EK (sf:=f257) rfl rfl,rz (K:=KW) (c:=⟨[],[.str s,.str [c]],[]⟩) (a:=⟨.int .i64 (mU c s),[]⟩) rfl
  (by
   show vv 257 [.str s,.str [c]] []=_;rw [vv,if_neg (by decide),if_pos (by decide)];show bi (Nat.blt (len' s) 1000000) (some (⟨.int .i64 (mU c s),[]⟩:DI)) none=_;rw [K4,show Nat.blt s.length 1000000=true from O6.mpr hs];rfl)]
 rfl
theorem abM (s:List UInt8)(c:UInt8)(hs:s.length<1000000)(n b:Nat)(m:Mem):l8 KW b (n+1) (.func 256) [.str s,.str [c]] m=some [⟨.int .i64 (lH c s:Nat),m⟩]:=by
 rw [EK (sf:=f256) rfl rfl,rz (K:=KW) (c:=⟨[],[.str s,.str [c]],[]⟩) (a:=⟨.int .i64 (.ofNat (lH c s)),[]⟩) rfl
  (by
   show vv 256 [.str s,.str [c]] []=_;rw [vv,if_neg (by decide),if_pos (by decide)];show bi (Nat.blt (len' s) 1000000) (some (⟨.int .i64 (.ofNat (lH c s)),[]⟩:DI)) none=_;rw [K4,show Nat.blt s.length 1000000=true from O6.mpr hs];rfl)]
 rfl
def xR (m:Mem)(v:d9)(ws:List (List UInt8)):Prop:=
 (v=.nilSlice∧ws=[])∨∃id off,base.nx<=id∧((∃c,v=.slice id off ws.length c∧ws.length<=c)∨v=.sliceU id off ws.length 1)∧id<m.nx∧
  ∃(all:List (List UInt8)) (rows:T (List d9)),m.get id=some (.cells 1 all.length rows)∧(∀i (h:i<all.length),rows.get i=some [.str all[i]])∧off+ws.length<=all.length∧ws=(all.drop off).take ws.length
theorem xR.vs {m:Mem}{v:d9}{ws:List (List UInt8)}(h:xR m v ws):dV m v (strs ws):=by
 rcases h with⟨rfl,rfl⟩ | ⟨id,off,_,h1,h2,all,rows,h3,h4,h5,h6⟩;exact .inl ⟨rfl,rfl⟩;refine .inr ⟨id,off,by simpa [J3] using h1,h2,.inr ⟨_,rows,h3,by rw [J3];exact h5,λi b=>?_⟩⟩;have a:i<ws.length:=by rwa [J3] at b
 rw [h4 (off+i) (by omega)];have e:ws[i]=all[off+i]'(by omega):=by
  have e:ws[i]?=all[off+i]?:=by have:ws[i]?=((all.drop off).take ws.length)[i]?:=congrArg (·[i]?) h6;rw [this,alG a,adQ]
  rw [aP a,aP (by omega)] at e;exact LA e
 simp [strs,e]
theorem xR.keep {m a:Mem}{v:d9}{ws:List (List UInt8)}(h:xR m v ws)(b:m.nx<=a.nx)(d:∀id,id<m.nx->(∃o l c,v=.slice id o l c)∨(∃o l e,v=.sliceU id o l e)->a.get id=m.get id):xR a v ws:=by rcases h with h | ⟨id,off,h0,h1,h2,all,rows,h3,h4⟩;exact .inl h;refine .inr ⟨id,off,h0,h1,nA h2 b,all,rows,(d id h2 ?_).trans h3,h4⟩;rcases h1 with⟨c,rfl,_⟩ | rfl;exact .inl ⟨_,_,_,rfl⟩;exact .inr ⟨_,_,_,rfl⟩
theorem xR.ext {m a:Mem}(e:Ext m a){v:d9}{ws:List (List UInt8)}(h:xR m v ws):xR a v ws:=h.keep e.nx λid b _=>e.old id b
theorem gJ {α:Type}:∀(n:Nat) (l:List α),gZ n l=l.drop n
 | 0,l=>rfl
 | n+1,[]=>by show []=_;simp
 | n+1,x::l=>by show gZ n l=_;rw [gJ n];rfl
theorem QA {α:Type}:∀(n:Nat) (l:List α),n<=l.length->takeN n l=some (l.take n)
 | 0,l,_=>rfl
 | n+1,[],h=>by simp at h
 | n+1,x::l,h=>by show ob (takeN n l) (λr=>some (x::r))=_;rw [QA n l (by simpa using h)];rfl
theorem aeX {m:Mem}{v:d9}{ws:List (List UInt8)}(h:xR m v ws)(b:List UInt8)(t:ws.length<1000000)(o:(fZ b ws).length<1000000)(n s:Nat):
  l8 KW s (n+1) (.func 94) [v,.str b] m=some [⟨.str (fZ b ws),m⟩]:=by
 rw [EK (sf:=f94) rfl rfl];rcases h with⟨rfl,rfl⟩ | ⟨id,off,h0,h1,h2,all,rows,h3,h4,h5,h6⟩;rw [rz (K:=KW) (c:=⟨[],[.nilSlice,.str b],[]⟩) (a:=⟨.str [],[]⟩) rfl (by show vv 94 [.nilSlice,.str b] []=_;rw [vv,if_neg (by decide),if_neg (by decide),if_pos rfl];rfl)];rfl;have u:zM (.cells 1 all.length rows)=some (.cells 1 (all.map λw=>[.str w])):=by
  show ob (rows.slice all.length 0) (λl=>some (NB.cells 1 l))=_;have:=CV rows (all.map λw=>[d9.str w]) 0 (λj o=>by
   have f:j<all.length:=by simpa using o
   rw [S9,h4 j f,adf,aP f];rfl)
  rw [adN] at this;rw [this];rfl
 have q:=Ez (lo:=base.nx) h3 u (IX base.nx all) 99998;have d:Nat.ble base.nx id=true:=wu h0;have r:rU base.nx [id] id=some base.nx:=by show bi (Nat.ble base.nx id) (bi (Nat.beq id id) (some base.nx) none) _=_;rw [d,show Nat.beq id id=true from adH id];rfl
 have g:ob (takeN ws.length (gZ off (all.map λw=>[d9.str w]))) (λl=>ob (uZ l) λe=>bi (Nat.blt (len' (fZ b e)) 1000000) (some (⟨.str (fZ b e),[]⟩:DI)) none)=some ⟨.str (fZ b ws),[]⟩:=by rw [gJ,QA _ _ (by simp;omega),I7,← aAh,← amO,← h6,IZ,I7,K4,show Nat.blt (fZ b ws).length 1000000=true from O6.mpr o];rfl
 have p:Nat.blt ws.length 1000000=true:=O6.mpr t;rcases h1 with⟨c,rfl,hc⟩ | rfl;have k:qE base.nx [d9.slice id off ws.length c,.str b]=[id]:=by show bi (Nat.ble base.nx id) [id] [] ++ _=_;rw [d];rfl
 rw [rz (K:=KW) (c:=⟨[id],[.slice base.nx off ws.length c,.str b],[.cells 1 (all.map λw=>[.str w])]⟩) (a:=⟨.str (fZ b ws),[]⟩)
  (by
   show ob (reach m base.nx (99998+2) (qE base.nx _) []) _=_;rw [k,q];show ob (ob (ob (rU base.nx [id] id) λj=>some (d9.slice j off ws.length c)) λx=>ob (some [d9.str b]) λy=>some (x::y)) (λe=>ob (ob (ob (lY (rU base.nx [id]) (all.map λw=>[d9.str w])) λx=>some (NB.cells 1 x)) λx=>ob (some []) λy=>some (x::y)) λi=>some (⟨[id],e,i⟩:CO))=_;rw [r,xK];rfl)
  (by
   show vv 94 [.slice base.nx off ws.length c,.str b] [.cells 1 (all.map λw=>[d9.str w])]=_;rw [vv,if_neg (by decide),if_neg (by decide),if_pos rfl];show bi (Nat.beq base.nx base.nx) (bi (Nat.ble ws.length c) (bi (Nat.blt ws.length 1000000) _ none) none) none=_;rw [adH,show Nat.ble ws.length c=true from wu hc,p];exact g)]
 rfl;have k:qE base.nx [d9.sliceU id off ws.length 1,.str b]=[id]:=by show bi (Nat.ble base.nx id) [id] [] ++ _=_;rw [d];rfl
 rw [rz (K:=KW) (c:=⟨[id],[.sliceU base.nx off ws.length 1,.str b],[.cells 1 (all.map λw=>[.str w])]⟩) (a:=⟨.str (fZ b ws),[]⟩)
  (by
   show ob (reach m base.nx (99998+2) (qE base.nx _) []) _=_;rw [k,q];show ob (ob (ob (rU base.nx [id] id) λj=>some (d9.sliceU j off ws.length 1)) λx=>ob (some [d9.str b]) λy=>some (x::y)) (λe=>ob (ob (ob (lY (rU base.nx [id]) (all.map λw=>[d9.str w])) λx=>some (NB.cells 1 x)) λx=>ob (some []) λy=>some (x::y)) λi=>some (⟨[id],e,i⟩:CO))=_;rw [r,xK];rfl)
  (by
   show vv 94 [.sliceU base.nx off ws.length 1,.str b] [.cells 1 (all.map λw=>[d9.str w])]=_;rw [vv,if_neg (by decide),if_neg (by decide),if_pos rfl];show bi (Nat.beq base.nx base.nx) (bi (Nat.blt ws.length 1000000) _ none) none=_;rw [adH,p];exact g)]
 rfl
attribute [simp] I J S U Z A V tt ff
abbrev nS:d9:=.nilSlice
abbrev iV (a:Int):d9:=.int .i64 a
abbrev iN (a:Nat):d9:=.int .i64 (a:Int)
abbrev i0:d9:=.int .i64 0
abbrev uV:d9:=.undef
abbrev fV:d9:=.bool false
abbrev tV:d9:=.bool true
abbrev nV2 (a0 a1:d9):T d9:=(.nd (.nd .e a1 .e) a0 .e)
abbrev nV4 (a0 a1 a2 a3:d9):T d9:=(.nd (.nd (.nd .e a3 .e) a1 .e) a0 (.nd .e a2 .e))
abbrev nV5 (a0 a1 a2 a3 a4:d9):T d9:=(.nd (.nd (.nd .e a3 .e) a1 .e) a0 (.nd (.nd .e a4 .e) a2 .e))
abbrev nV6 (a0 a1 a2 a3 a4 a5:d9):T d9:=(.nd (.nd (.nd .e a3 .e) a1 (.nd .e a5 .e)) a0 (.nd (.nd .e a4 .e) a2 .e))
abbrev Vk (a0 a1 a2 a3 a4 a5 a6:d9):T d9:=(.nd (.nd (.nd .e a3 .e) a1 (.nd .e a5 .e)) a0 (.nd (.nd .e a4 .e) a2 (.nd .e a6 .e)))
abbrev Vl (a0 a1 a2 a3 a4 a5 a6 a7:d9):T d9:=(.nd (.nd (.nd (.nd .e a7 .e) a3 .e) a1 (.nd .e a5 .e)) a0 (.nd (.nd .e a4 .e) a2 (.nd .e a6 .e)))
abbrev QB (a0 a1 a2 a3 a4 a5 a6 a7 a8:d9):T d9:=(.nd (.nd (.nd (.nd .e a7 .e) a3 .e) a1 (.nd .e a5 .e)) a0 (.nd (.nd (.nd .e a8 .e) a4 .e) a2 (.nd .e a6 .e)))
abbrev Jj (a0 a1 a2 a3 a4 a5 a6 a7 a8 a9:d9):T d9:=(.nd (.nd (.nd (.nd .e a7 .e) a3 .e) a1 (.nd (.nd .e a9 .e) a5 .e)) a0 (.nd (.nd (.nd .e a8 .e) a4 .e) a2 (.nd .e a6 .e)))
abbrev zQ (a0 a1 a2 a3 a4 a5 a6 a7 a8 a9 a10:d9):T d9:=(.nd (.nd (.nd (.nd .e a7 .e) a3 .e) a1 (.nd (.nd .e a9 .e) a5 .e)) a0 (.nd (.nd (.nd .e a8 .e) a4 .e) a2 (.nd (.nd .e a10 .e) a6 .e)))
abbrev aEp (a0 a1 a2 a3 a4 a5 a6 a7 a8 a9 a10 a11:d9):T d9:=(.nd (.nd (.nd (.nd .e a7 .e) a3 (.nd .e a11 .e)) a1 (.nd (.nd .e a9 .e) a5 .e)) a0 (.nd (.nd (.nd .e a8 .e) a4 .e) a2 (.nd (.nd .e a10 .e) a6 .e)))
abbrev abN (a0 a1 a2 a3 a4 a5 a6 a7 a8 a9 a10 a11 a12:d9):T d9:=(.nd (.nd (.nd (.nd .e a7 .e) a3 (.nd .e a11 .e)) a1 (.nd (.nd .e a9 .e) a5 .e)) a0 (.nd (.nd (.nd .e a8 .e) a4 (.nd .e a12 .e)) a2 (.nd (.nd .e a10 .e) a6 .e)))
abbrev aEq (a0 a1 a2 a3 a4 a5 a6 a7 a8 a9 a10 a11 a12 a13 a14 a15 a16 a17:d9):T d9:=(.nd (.nd (.nd (.nd (.nd .e a15 .e) a7 .e) a3 (.nd .e a11 .e)) a1 (.nd (.nd (.nd .e a17 .e) a9 .e) a5 (.nd .e a13 .e))) a0 (.nd (.nd (.nd (.nd .e a16 .e) a8 .e) a4 (.nd .e a12 .e)) a2 (.nd (.nd .e a10 .e) a6 (.nd .e a14 .e))))
abbrev aEr (a0 a1 a2 a3 a4 a5 a6 a7 a8 a9 a10 a11 a12 a13 a14 a15 a16 a17 a18 a19:d9):T d9:=(.nd (.nd (.nd (.nd (.nd .e a15 .e) a7 .e) a3 (.nd (.nd .e a19 .e) a11 .e)) a1 (.nd (.nd (.nd .e a17 .e) a9 .e) a5 (.nd .e a13 .e))) a0 (.nd (.nd (.nd (.nd .e a16 .e) a8 .e) a4 (.nd .e a12 .e)) a2 (.nd (.nd (.nd .e a18 .e) a10 .e) a6 (.nd .e a14 .e))))
abbrev abO (a0 a1 a2 a3 a4 a5 a6 a7 a8 a9 a10 a11 a12 a13 a14 a15 a16 a17 a18 a19 a20 a21 a22 a23 a24 a25 a26 a27 a28 a29 a30 a31 a32:d9):T d9:=(.nd (.nd (.nd (.nd (.nd (.nd .e a31 .e) a15 .e) a7 (.nd .e a23 .e)) a3 (.nd (.nd .e a19 .e) a11 (.nd .e a27 .e))) a1 (.nd (.nd (.nd .e a17 .e) a9 (.nd .e a25 .e)) a5 (.nd (.nd .e a21 .e) a13 (.nd .e a29 .e)))) a0 (.nd (.nd (.nd (.nd (.nd .e a32 .e) a16 .e) a8 (.nd .e a24 .e)) a4 (.nd (.nd .e a20 .e) a12 (.nd .e a28 .e))) a2 (.nd (.nd (.nd .e a18 .e) a10 (.nd .e a26 .e)) a6 (.nd (.nd .e a22 .e) a14 (.nd .e a30 .e)))))
abbrev EL (a0 a1 a2 a3 a4 a5 a6 a7 a8 a9 a10 a11 a12 a13 a14 a15 a16 a17 a18 a19 a20 a21 a22 a23 a24 a25 a26 a27 a28 a29 a30 a31 a32 a33:d9):T d9:=(.nd (.nd (.nd (.nd (.nd (.nd .e a31 .e) a15 .e) a7 (.nd .e a23 .e)) a3 (.nd (.nd .e a19 .e) a11 (.nd .e a27 .e))) a1 (.nd (.nd (.nd (.nd .e a33 .e) a17 .e) a9 (.nd .e a25 .e)) a5 (.nd (.nd .e a21 .e) a13 (.nd .e a29 .e)))) a0 (.nd (.nd (.nd (.nd (.nd .e a32 .e) a16 .e) a8 (.nd .e a24 .e)) a4 (.nd (.nd .e a20 .e) a12 (.nd .e a28 .e))) a2 (.nd (.nd (.nd .e a18 .e) a10 (.nd .e a26 .e)) a6 (.nd (.nd .e a22 .e) a14 (.nd .e a30 .e)))))
attribute [simp] nS iV iN i0 uV fV tV oC iM pJ sG zB tX IU tT gV xE nV2 nV4 nV5 nV6 Vk Vl QB Jj zQ aEp abN aEq aEr abO EL
theorem eO {m:Mem}(a:m.Ok)(d:m.lim<=m.nx):(∀(m:Mem) b,m.new b=ext m [b])∧(∀(m:Mem) l l',ext (ext m l) l'=ext m (l++l'))∧(∀l,(ext m l).get m.nx=l[0]?)∧(∀l c,(ext m l).get (m.nx+c)=l[c]?)∧
  (∀(β:Type) l c off vs (k:Mem->Option β),storeAt (ext m l) (m.nx+c) off vs k=bi (I6 vs) (ob (Go.AM.Sv l[c]? off vs) λb=>k (ext m (l.set c b))) none)∧
  (∀(β:Type) l off vs (k:Mem->Option β),storeAt (ext m l) m.nx off vs k=bi (I6 vs) (ob (Go.AM.Sv l[0]? off vs) λb=>k (ext m (l.set 0 b))) none)∧
  (∀(l:List U7) c b,c<l.length->(ext m l).set (m.nx+c) b=ext m (l.set c b))∧∀(l:List U7) b,0<l.length->(ext m l).set m.nx b=ext m (l.set 0 b):=
 ⟨w9,x9,j6 a,l5 a,λβ l c off vs k=>Eu a d l c off vs k,λβ l off vs k=>xG a d l off vs k,r9 a,l9 a⟩
theorem xS {m:Mem}(a:m.Ok)(d:m.lim<=m.nx):(∀l:List U7,(ext m l).get m.nx=l[0]?)∧(∀(l:List U7) (c:Nat),(ext m l).get (m.nx+c)=l[c]?)∧
  (∀(β:Type) (l:List U7) (c off:Nat) (vs:List d9) (k:Mem->Option β),storeAt (ext m l) (m.nx+c) off vs k=bi (I6 vs) (ob (Sv l[c]? off vs) λb=>k (ext m (l.set c b))) none)∧
  (∀(β:Type) (l:List U7) (off:Nat) (vs:List d9) (k:Mem->Option β),storeAt (ext m l) m.nx off vs k=bi (I6 vs) (ob (Sv l[0]? off vs) λb=>k (ext m (l.set 0 b))) none)∧
  (∀(l:List U7) (c:Nat) (b:U7),c<l.length->(ext m l).set (m.nx+c) b=ext m (l.set c b))∧∀(l:List U7) (b:U7),0<l.length->(ext m l).set m.nx b=ext m (l.set 0 b):=
 ⟨j6 a,l5 a,λ_=>Eu a d,λ_=>xG a d,r9 a,l9 a⟩
@[simp] abbrev zr:List d9:=[i0,i0,i0,i0,i0,i0,i0,i0,i0,i0,i0,i0,i0,i0,i0,i0,i0,i0,i0,i0,i0,i0,nS,nS,i0,i0,i0,i0,i0,nS,i0,i0]
@[simp] abbrev zK (a b c d:Int):List d9:=[iV a,iV b,iV c,iV d,i0,i0,i0,i0,i0,i0,i0,i0,i0,i0,i0,i0,i0,i0,i0,i0,i0,i0,nS,nS,i0,i0,i0,i0,i0,nS,i0,i0]
structure G5 where
 room:Int
 no:Int
 known:Int
 kind:Int
 flo:Int
 fhi:Int
 gid:Int
 made:Int
 nom:Int
 tlo:Int
 thi:Int
 gn:Int
 gd:Int
 wear:Int
 ug:Int
 ud:Int
 lg:Int
 ll:Int
 lh:Int
 lw:Int
 cid:Int
 cday:Int
 A:d9
 B:d9
 diff:Int
 err:Int
 hlo:Int
 hhi:Int
 mday:Int
 L:d9
 tr:Int
 tn:Int
def G5.cells (f:G5):List d9:=[d9.int .i64 f.room,d9.int .i64 f.no,d9.int .i64 f.known,d9.int .i64 f.kind,d9.int .i64 f.flo,d9.int .i64 f.fhi,d9.int .i64 f.gid,d9.int .i64 f.made,d9.int .i64 f.nom,d9.int .i64 f.tlo,d9.int .i64 f.thi,d9.int .i64 f.gn,d9.int .i64 f.gd,d9.int .i64 f.wear,d9.int .i64 f.ug,d9.int .i64 f.ud,d9.int .i64 f.lg,d9.int .i64 f.ll,d9.int .i64 f.lh,d9.int .i64 f.lw,d9.int .i64 f.cid,d9.int .i64 f.cday,f.A,f.B,d9.int .i64 f.diff,d9.int .i64 f.err,d9.int .i64 f.hlo,d9.int .i64 f.hhi,d9.int .i64 f.mday,f.L,d9.int .i64 f.tr,d9.int .i64 f.tn]
@[simp] theorem G5.len (f:G5):f.cells.length=32:=id rfl
@[simp] theorem G5.c0 (f:G5):f.cells[0]?=some (d9.int .i64 f.room):=id rfl
@[simp] theorem G5.c1 (f:G5):f.cells[1]?=some (d9.int .i64 f.no):=id rfl
@[simp] theorem G5.c2 (f:G5):f.cells[2]?=some (d9.int .i64 f.known):=id rfl
@[simp] theorem G5.c3 (f:G5):f.cells[3]?=some (d9.int .i64 f.kind):=id rfl
@[simp] theorem G5.c4 (f:G5):f.cells[4]?=some (d9.int .i64 f.flo):=id rfl
@[simp] theorem G5.c5 (f:G5):f.cells[5]?=some (d9.int .i64 f.fhi):=id rfl
@[simp] theorem G5.c6 (f:G5):f.cells[6]?=some (d9.int .i64 f.gid):=id rfl
@[simp] theorem G5.c7 (f:G5):f.cells[7]?=some (d9.int .i64 f.made):=id rfl
@[simp] theorem G5.c8 (f:G5):f.cells[8]?=some (d9.int .i64 f.nom):=id rfl
@[simp] theorem G5.c9 (f:G5):f.cells[9]?=some (d9.int .i64 f.tlo):=id rfl
@[simp] theorem G5.c10 (f:G5):f.cells[10]?=some (d9.int .i64 f.thi):=id rfl
@[simp] theorem G5.c11 (f:G5):f.cells[11]?=some (d9.int .i64 f.gn):=id rfl
@[simp] theorem G5.c12 (f:G5):f.cells[12]?=some (d9.int .i64 f.gd):=id rfl
@[simp] theorem G5.c13 (f:G5):f.cells[13]?=some (d9.int .i64 f.wear):=id rfl
@[simp] theorem G5.c14 (f:G5):f.cells[14]?=some (d9.int .i64 f.ug):=id rfl
@[simp] theorem G5.c15 (f:G5):f.cells[15]?=some (d9.int .i64 f.ud):=id rfl
@[simp] theorem G5.c16 (f:G5):f.cells[16]?=some (d9.int .i64 f.lg):=id rfl
@[simp] theorem G5.c17 (f:G5):f.cells[17]?=some (d9.int .i64 f.ll):=id rfl
@[simp] theorem G5.c18 (f:G5):f.cells[18]?=some (d9.int .i64 f.lh):=id rfl
@[simp] theorem G5.c19 (f:G5):f.cells[19]?=some (d9.int .i64 f.lw):=id rfl
@[simp] theorem G5.c20 (f:G5):f.cells[20]?=some (d9.int .i64 f.cid):=id rfl
@[simp] theorem G5.c21 (f:G5):f.cells[21]?=some (d9.int .i64 f.cday):=id rfl
@[simp] theorem G5.c22 (f:G5):f.cells[22]?=some (f.A):=id rfl
@[simp] theorem G5.c23 (f:G5):f.cells[23]?=some (f.B):=id rfl
@[simp] theorem G5.c24 (f:G5):f.cells[24]?=some (d9.int .i64 f.diff):=id rfl
@[simp] theorem G5.c25 (f:G5):f.cells[25]?=some (d9.int .i64 f.err):=id rfl
@[simp] theorem G5.c26 (f:G5):f.cells[26]?=some (d9.int .i64 f.hlo):=id rfl
@[simp] theorem G5.c27 (f:G5):f.cells[27]?=some (d9.int .i64 f.hhi):=id rfl
@[simp] theorem G5.c28 (f:G5):f.cells[28]?=some (d9.int .i64 f.mday):=id rfl
@[simp] theorem G5.c29 (f:G5):f.cells[29]?=some (f.L):=id rfl
@[simp] theorem G5.c30 (f:G5):f.cells[30]?=some (d9.int .i64 f.tr):=id rfl
@[simp] theorem G5.c31 (f:G5):f.cells[31]?=some (d9.int .i64 f.tn):=id rfl
@[simp] theorem G5.g0 (f:G5)(h:0<f.cells.length):f.cells[0]'h=d9.int .i64 f.room:=id rfl
@[simp] theorem G5.g1 (f:G5)(h:1<f.cells.length):f.cells[1]'h=d9.int .i64 f.no:=id rfl
@[simp] theorem G5.g2 (f:G5)(h:2<f.cells.length):f.cells[2]'h=d9.int .i64 f.known:=id rfl
@[simp] theorem G5.g3 (f:G5)(h:3<f.cells.length):f.cells[3]'h=d9.int .i64 f.kind:=id rfl
@[simp] theorem G5.g4 (f:G5)(h:4<f.cells.length):f.cells[4]'h=d9.int .i64 f.flo:=id rfl
@[simp] theorem G5.g5 (f:G5)(h:5<f.cells.length):f.cells[5]'h=d9.int .i64 f.fhi:=id rfl
@[simp] theorem G5.g6 (f:G5)(h:6<f.cells.length):f.cells[6]'h=d9.int .i64 f.gid:=id rfl
@[simp] theorem G5.g7 (f:G5)(h:7<f.cells.length):f.cells[7]'h=d9.int .i64 f.made:=id rfl
@[simp] theorem G5.g8 (f:G5)(h:8<f.cells.length):f.cells[8]'h=d9.int .i64 f.nom:=id rfl
@[simp] theorem G5.g9 (f:G5)(h:9<f.cells.length):f.cells[9]'h=d9.int .i64 f.tlo:=id rfl
@[simp] theorem G5.g10 (f:G5)(h:10<f.cells.length):f.cells[10]'h=d9.int .i64 f.thi:=id rfl
@[simp] theorem G5.g11 (f:G5)(h:11<f.cells.length):f.cells[11]'h=d9.int .i64 f.gn:=id rfl
@[simp] theorem G5.g12 (f:G5)(h:12<f.cells.length):f.cells[12]'h=d9.int .i64 f.gd:=id rfl
@[simp] theorem G5.g13 (f:G5)(h:13<f.cells.length):f.cells[13]'h=d9.int .i64 f.wear:=id rfl
@[simp] theorem G5.g14 (f:G5)(h:14<f.cells.length):f.cells[14]'h=d9.int .i64 f.ug:=id rfl
@[simp] theorem G5.g15 (f:G5)(h:15<f.cells.length):f.cells[15]'h=d9.int .i64 f.ud:=id rfl
@[simp] theorem G5.g16 (f:G5)(h:16<f.cells.length):f.cells[16]'h=d9.int .i64 f.lg:=id rfl
@[simp] theorem G5.g17 (f:G5)(h:17<f.cells.length):f.cells[17]'h=d9.int .i64 f.ll:=id rfl
@[simp] theorem G5.g18 (f:G5)(h:18<f.cells.length):f.cells[18]'h=d9.int .i64 f.lh:=id rfl
@[simp] theorem G5.g19 (f:G5)(h:19<f.cells.length):f.cells[19]'h=d9.int .i64 f.lw:=id rfl
@[simp] theorem G5.g20 (f:G5)(h:20<f.cells.length):f.cells[20]'h=d9.int .i64 f.cid:=id rfl
@[simp] theorem G5.g21 (f:G5)(h:21<f.cells.length):f.cells[21]'h=d9.int .i64 f.cday:=id rfl
@[simp] theorem G5.g22 (f:G5)(h:22<f.cells.length):f.cells[22]'h=f.A:=id rfl
@[simp] theorem G5.g23 (f:G5)(h:23<f.cells.length):f.cells[23]'h=f.B:=id rfl
@[simp] theorem G5.g24 (f:G5)(h:24<f.cells.length):f.cells[24]'h=d9.int .i64 f.diff:=id rfl
@[simp] theorem G5.g25 (f:G5)(h:25<f.cells.length):f.cells[25]'h=d9.int .i64 f.err:=id rfl
@[simp] theorem G5.g26 (f:G5)(h:26<f.cells.length):f.cells[26]'h=d9.int .i64 f.hlo:=id rfl
@[simp] theorem G5.g27 (f:G5)(h:27<f.cells.length):f.cells[27]'h=d9.int .i64 f.hhi:=id rfl
@[simp] theorem G5.g28 (f:G5)(h:28<f.cells.length):f.cells[28]'h=d9.int .i64 f.mday:=id rfl
@[simp] theorem G5.g29 (f:G5)(h:29<f.cells.length):f.cells[29]'h=f.L:=id rfl
@[simp] theorem G5.g30 (f:G5)(h:30<f.cells.length):f.cells[30]'h=d9.int .i64 f.tr:=id rfl
@[simp] theorem G5.g31 (f:G5)(h:31<f.cells.length):f.cells[31]'h=d9.int .i64 f.tn:=id rfl
@[simp] theorem G5.aIg (f:G5):(f.cells.drop 4).take 2=[d9.int .i64 f.flo,d9.int .i64 f.fhi]:=id rfl
@[simp] theorem G5.aIh (f:G5):(f.cells.drop 6).take 8=[d9.int .i64 f.gid,d9.int .i64 f.made,d9.int .i64 f.nom,d9.int .i64 f.tlo,d9.int .i64 f.thi,d9.int .i64 f.gn,d9.int .i64 f.gd,d9.int .i64 f.wear]:=id rfl
@[simp] theorem G5.aGw (f:G5):(f.cells.drop 14).take 2=[d9.int .i64 f.ug,d9.int .i64 f.ud]:=id rfl
@[simp] theorem G5.aGx (f:G5):(f.cells.drop 16).take 4=[d9.int .i64 f.lg,d9.int .i64 f.ll,d9.int .i64 f.lh,d9.int .i64 f.lw]:=id rfl
@[simp] theorem G5.aGy (f:G5):(f.cells.drop 20).take 8=[d9.int .i64 f.cid,d9.int .i64 f.cday,f.A,f.B,d9.int .i64 f.diff,d9.int .i64 f.err,d9.int .i64 f.hlo,d9.int .i64 f.hhi]:=id rfl
@[simp] theorem G5.aGz (f:G5):(f.cells.drop 28).take 2=[d9.int .i64 f.mday,f.L]:=id rfl
@[simp] theorem G5.aGA (f:G5):(f.cells.drop 30).take 2=[d9.int .i64 f.tr,d9.int .i64 f.tn]:=id rfl
@[simp] theorem G5.aGB (f:G5):(f.cells.drop 17).take 2=[d9.int .i64 f.ll,d9.int .i64 f.lh]:=id rfl
@[simp] theorem G5.aGC (f:G5):(f.cells.drop 26).take 2=[d9.int .i64 f.hlo,d9.int .i64 f.hhi]:=id rfl
@[simp] theorem G5.aIi (f:G5):(f.cells.drop 9).take 2=[d9.int .i64 f.tlo,d9.int .i64 f.thi]:=id rfl
@[simp] theorem G5.aGD (f:G5):(f.cells.drop 11).take 2=[d9.int .i64 f.gn,d9.int .i64 f.gd]:=id rfl
@[simp] theorem G5.aGE (f:G5):f.cells.take 32=f.cells:=id rfl
theorem cB (n b:Nat)(a lo hi:Int)(m:Mem):l8 KW b (n+1) (.func 38) [iV a,iV lo,iV hi] m=some [⟨.bool (decide (lo<=a)&&decide (a<=hi)),m⟩]:=by rw [enter (sf:=f38) rfl rfl];simp +contextual [oC,f38,iM,pJ,sG]
theorem aD (n b:Nat)(a lo hi:Int)(m:Mem):l8 KW b (n+1) (.func 389) [iV a,iV lo,iV hi] m=some [⟨.bool (decide (lo<=a)&&decide (a<=hi)),m⟩]:=by rw [enter (sf:=akh) rfl rfl];simp +contextual [oC,akh,iM,pJ,sG]
theorem nC (n b:Nat)(a:Int)(m:Mem):l8 KW b (n+2) (.func 135) [iV a] m=some [⟨.bool (decide (1<=a)&&decide (a<=1099511627776)),m⟩]:=by rw [enter (sf:=f135) rfl rfl];simp [f135,cB]
theorem Jk (n b:Nat)(a:Int)(m:Mem):l8 KW b (n+2) (.func 79) [iV a] m=some [⟨.bool (decide (0<=a)&&decide (a<=1099511627776)),m⟩]:=by rw [enter (sf:=f79) rfl rfl];simp [f79,cB]
theorem dn (n b:Nat)(a:Int)(m:Mem):l8 KW b (n+2) (.func 296) [iV a] m=some [⟨.bool (decide (0<=a)&&decide (a<=20000)),m⟩]:=by rw [enter (sf:=f296) rfl rfl];simp [f296,aD]
theorem ND (n d:Nat)(l h a b:Int)(m:Mem)(c:m.Ok):l8 KW d (n+1) (.func 130) [.agg [iV l,iV h],iV a,iV b] m =
  some [⟨.bool (decide (a<=l)&&decide (l<=h)&&decide (h<=b)),ext m [l6 [iV l,iV h]]⟩]:=by
 rw [enter (sf:=f130) rfl rfl];simp +contextual [oC,f130,iM,pJ,sG,w9,x9,j6 c,l5 c]
theorem Vm (n d:Nat)(l h a b:Int)(m:Mem)(c:m.Ok):l8 KW d (n+1) (.func 228) [.agg [iV l,iV h],iV a,iV b] m =
  some [⟨.bool (decide (a<=l)&&decide (l<=h)&&decide (h<=b)),ext m [l6 [iV l,iV h]]⟩]:=by
 rw [enter (sf:=f228) rfl rfl];simp +contextual [oC,f228,iM,pJ,sG,w9,x9,j6 c,l5 c]
theorem NG (n a:Nat)(f:G5)(m:Mem)(c:m.Ok)(b:m.lim<=m.nx):l8 KW a (n+1) (.func 51) [.agg f.cells] m =
  some [⟨.agg [iV f.room,iV f.no],ext m [l6 f.cells,l6 [iV f.room,iV f.no]]⟩]:=by
 rw [enter (sf:=f51) rfl rfl];simp [f51,YU,eO c b,D6]
theorem aeY (n b:Nat)(f:G5)(m:Mem)(a:m.Ok)(c:m.lim<=m.nx):∃m',l8 KW b (n+2) (.func 129) [.agg f.cells] m=some [⟨.bool (decide (0<=f.flo)&&decide (f.flo<=f.fhi)&&decide (f.fhi<=1000000)),m'⟩]∧Ext m m':=by rw [enter (sf:=f129) rfl rfl];refine⟨ext m [l6 f.cells,l6 [iV f.flo,iV f.fhi]],?_,C8 a _⟩;simp +contextual [f129,oC,iM,pJ,sG,zB,tX,YU,eO a c,IU,tT,xE,gV,D6,ND _ _ _ _ _ _ _ (I9 a _)]
theorem aeZ (n b:Nat)(f:G5)(m:Mem)(a:m.Ok)(c:m.lim<=m.nx):∃m',l8 KW b (n+3) (.func 134) [.agg f.cells] m=some [⟨.bool ((decide (1<=f.ug)&&decide (f.ug<=1099511627776))&&(decide (0<=f.ud)&&decide (f.ud<=20000))),m'⟩]∧Ext m m':=by rw [enter (sf:=f134) rfl rfl];refine⟨ext m [l6 f.cells],?_,C8 a _⟩;simp +contextual [f134,oC,iM,pJ,sG,zB,tX,YU,eO a c,IU,tT,xE,gV,D6,nC,cB]
theorem af0 {m:Mem}{v w:d9}{xs a:List Int}(y:Z8 m v xs)(z:Z8 m w a)(A:a.length=xs.length)(hb:xs.length<1000000)(cf:H8)(n:Nat)(d:d9):
  ∀(j i:Nat),i+j=xs.length->∀(N:Nat),j<N->∀(a5 a6 a7:d9),
   ∃x k b5 b6 b7,T9 (λenv m k=>Ls cf n none env m k) N (QB v w d (iN i) (iN (xs.length)) a5 a6 a7 fV) m []=some [⟨x,(QB v w d (iN k) (iN (xs.length)) b5 b6 b7 fV),m,[],none⟩]∧
    x=(if xs.drop i=a.drop i then bn.exit 0 else .ret):=by
 intro j;induction j with
 | zero=>
  intro i u N s a5 a6 a7;obtain⟨N,rfl⟩:∃M,N=M+1:=⟨N-1,by omega⟩;refine⟨.exit 0,i,fV,a6,a7,?_,?_⟩;rw [o9];have h:¬ i<xs.length:=by omega
  simp [Ls,w9,x9,D6,h];rw [O5 (by omega),O5 (by omega)];rfl
 | succ j ih=>
  intro i u N s a5 a6 a7;obtain⟨N,rfl⟩:∃M,N=M+1:=⟨N-1,by omega⟩;have h:i<xs.length:=by omega
  have c:i<a.length:=by omega
  obtain⟨p,e,_,f⟩:=y.at h;obtain⟨q,g,_,l⟩:=z.at c;by_cases he:xs[i]=a[i];obtain⟨x,k,b5,b6,b7,o,r⟩:=ih (i+1) (by omega) N (by omega) tV (iV i) fV;refine⟨x,k,b5,b6,b7,?_,?_⟩;rw [o9,← o];simp [Ls,h,e,f,g,l,he,dZ (i:=i) (by omega)];rw [r];have t:(xs.drop i=a.drop i)↔(xs.drop (i+1)=a.drop (i+1)):=by rw [Q6 h,Q6 c,he];exact⟨λb=>(ahs b).2,λb=>by rw [b]⟩
  simp only [t];refine⟨.ret,i,tV,iV i,tV,?_,?_⟩;rw [o9];simp [Ls,h,e,f,g,l,he];rw [if_neg];intro b;rw [Q6 h,Q6 c] at b;exact he (ahs b).1
theorem TB {m:Mem}{v w:d9}{xs ys:List Int}(f:Z8 m v xs)(g:Z8 m w ys)(hb:xs.length<20000)(n b:Nat)(o:20000<=b):
  l8 KW b (n+1) (.func 53) [v,w] m=some [⟨.bool (decide (xs=ys)),m⟩]:=by
 rw [enter (sf:=f53) rfl rfl];have d:=f.len;have e:=g.len;by_cases hxy:ys.length=xs.length;obtain⟨x,k,p,q,r,c,a⟩:=af0 f g hxy (by omega) (l8 KW b n) b fV xs.length 0 (by omega) b (by omega) uV uV uV;have a:x=if xs=ys then bn.exit 0 else .ret:=a
 by_cases he:xs=ys;rw [if_pos he] at a;subst a;simp [f53,d,e,hxy,he] at c ⊢;simp [c];rw [if_neg he] at a;subst a;simp [f53,d,e,hxy,he] at c ⊢;simp [c];have i:¬ xs.length=ys.length:=λh=>hxy h.symm;have j:¬ xs=ys:=λh=>i (by rw [h]);have l:¬ ((xs.length:Nat):Int)=((ys.length:Nat):Int):=by omega
 simp [f53,d,e,l,j]
theorem abP {m:Mem}{v:d9}{xs:List Int}(o:Z8 m v xs)(hb:xs.length<1000000)(n r:Nat):
  ∀(j i:Nat),i+j=xs.length->∀(N:Nat),j<N->∀(a0 a1 a2 a3:d9),
   ∃x k b0 b1 b2 b3,T9 (λenv m k=>sJ (l8 KW r (n+1)) r none env m k) N (QB v (iN i) (iN (xs.length)) a0 v a1 a2 a3 fV) m []=some [⟨x,(QB v (iN k) (iN (xs.length)) b0 v b1 b2 b3 fV),m,[],none⟩]∧x=(bif bg (okB xs) j i then bn.exit 0 else .ret):=by
 intro j;induction j with
 | zero=>
  intro i E N D a0 a1 a2 a3;obtain⟨N,rfl⟩:∃M,N=M+1:=⟨N-1,by omega⟩;refine⟨.exit 0,i,fV,a1,a2,a3,?_,rfl⟩;rw [o9];have h:¬ i<xs.length:=by omega
  have c:=o.len;simp [sJ,h,c]
 | succ j ih=>
  intro i E N D a0 a1 a2 a3;obtain⟨N,rfl⟩:∃M,N=M+1:=⟨N-1,by omega⟩;have h:i<xs.length:=by omega
  have c:=o.len;obtain⟨p,d,_,e⟩:=o.at h;have A:=uU h;have f:okB xs i=true->∃x k b0 b1 b2 b3,T9 (λenv m k=>sJ (l8 KW r (n+1)) r none env m k) (N+1) (QB v (iN i) (iN (xs.length)) a0 v a1 a2 a3 fV) m []=some [⟨x,(QB v (iN k) (iN (xs.length)) b0 v b1 b2 b3 fV),m,[],none⟩]∧x=(bif bg (okB xs) (j+1) i then bn.exit 0 else .ret):=by
   intro a;obtain⟨x,k,b0,b1,b2,b3,B,C⟩:=ih (i+1) (by omega) N (by omega) tV ((iV xs[i])) ((iV (i:Nat))) fV;refine⟨x,k,b0,b1,b2,b3,?_,by rw [C];simp [bg,a]⟩;rw [o9,← B];simp only [okB,A,D5,asg,decide_eq_true_eq] at a;obtain⟨⟨y,z⟩,u⟩:=a;by_cases h0:i=0;have b:¬ 0<i:=by omega
   simp [sJ,h,c,d,e,y,z,b,aD,dZ (i:=i) (by omega)];have g:i-1<xs.length:=by omega
   obtain⟨q,s,_,t⟩:=o.at g;have u:=u.resolve_left h0;rw [uU g] at u;have b:0<i:=by omega
   have w:¬ xs[i]<=xs[i-1]:=by omega
   simp [sJ,h,c,d,e,s,t,y,z,b,w,aD,dZ (i:=i) (by omega),CK (i:=i) b (by omega)]
  cases a:okB xs i with
  | true=>exact f a
  | false=>
   refine⟨.ret,i,tV,iV xs[i],iV (i:Nat),tV,?_,by simp [bg,a]⟩;rw [o9];simp only [okB,A] at a;by_cases h0:i=0;have l:(decide (1<=xs[i])&&decide (xs[i]<=1099511627776))=false:=by simpa [h0] using a
   simp [sJ,h,c,d,e,l,aD];have g:i-1<xs.length:=by omega
   obtain⟨q,s,_,t⟩:=o.at g;have b:0<i:=by omega
   rw [uU g,show decide (i=0)=false from decide_eq_false h0,aAi] at a;cases l:(decide (1<=xs[i])&&decide (xs[i]<=1099511627776)) with
   | false=>simp [sJ,h,c,d,e,l,aD]
   | true=>rw [l,amP] at a;have w:xs[i]<=xs[i-1]:=(by simpa using a);simp [sJ,h,c,d,e,s,t,l,b,w,aD,CK (i:=i) b (by omega)]
theorem Vn {m:Mem}{v:d9}{xs:List Int}(d:Z8 m v xs)(hb:xs.length<20000)(n a:Nat)(f:20000<=a):
  l8 KW a (n+2) (.func 394) [v] m=some [⟨.bool (bg (okB xs) xs.length 0&&decide (xs.length<=6)),m⟩]:=by
 rw [enter (sf:=aki) rfl rfl];have e:=d.len;obtain⟨x,k,g,h,i,j,c,b⟩:=abP d (by omega) n a xs.length 0 (by omega) a (by omega) uV uV uV uV;cases ha:bg (okB xs) xs.length 0<;>rw [ha] at b<;>simp only [cond_true,cond_false] at b<;>subst b<;>simp [aki,e] at c ⊢ <;> simp [c,e]
 omega
theorem abQ {m:Mem}(d:m.Ok){v:d9}{day:Int}{xs:List Int}(r:Z8 (ext m [l6 [iV day,v]]) v xs)(hb:xs.length<1000000)(n s:Nat):
  ∀(j i:Nat),i+j=xs.length->∀(N:Nat),j<N->∀(a0 a1 a2 a3:d9),
   ∃x k b0 b1 b2 b3,T9 (λenv m k=>sI (l8 KW s (n+2)) s none env m k) N (Jj (.agg [iV day,v]) (.ptr m.nx 0) (iN i) (iN (xs.length)) a0 v a1 a2 a3 fV) (ext m [l6 [iV day,v]]) []=some [⟨x,(Jj (.agg [iV day,v]) (.ptr m.nx 0) (iN k) (iN (xs.length)) b0 v b1 b2 b3 fV),(ext m [l6 [iV day,v]]),[],none⟩]∧x=(bif bg (okB xs) j i then bn.exit 0 else .ret):=by
 intro j;induction j with
 | zero=>
  intro i F N E a0 a1 a2 a3;obtain⟨N,rfl⟩:∃M,N=M+1:=⟨N-1,by omega⟩;refine⟨.exit 0,i,fV,a1,a2,a3,?_,rfl⟩;rw [o9];have h:¬ i<xs.length:=by omega
  have c:=r.len;simp [sI,h,c,j6 d]
 | succ j ih=>
  intro i F N E a0 a1 a2 a3;obtain⟨N,rfl⟩:∃M,N=M+1:=⟨N-1,by omega⟩;have h:i<xs.length:=by omega
  have c:=r.len;obtain⟨p,e,_,f⟩:=r.at h;have B:=uU h;have g:okB xs i=true->∃x k b0 b1 b2 b3,T9 (λenv m k=>sI (l8 KW s (n+2)) s none env m k) (N+1) (Jj (.agg [iV day,v]) (.ptr m.nx 0) (iN i) (iN (xs.length)) a0 v a1 a2 a3 fV) (ext m [l6 [iV day,v]]) []=some [⟨x,(Jj (.agg [iV day,v]) (.ptr m.nx 0) (iN k) (iN (xs.length)) b0 v b1 b2 b3 fV),(ext m [l6 [iV day,v]]),[],none⟩]∧x=(bif bg (okB xs) (j+1) i then bn.exit 0 else .ret):=by
   intro a;obtain⟨x,k,b0,b1,b2,b3,C,D⟩:=ih (i+1) (by omega) N (by omega) tV ((iV xs[i])) ((iV (i:Nat))) fV;refine⟨x,k,b0,b1,b2,b3,?_,by rw [D];simp [bg,a]⟩;rw [o9,← C];simp only [okB,B,D5,asg,decide_eq_true_eq] at a;obtain⟨⟨z,A⟩,w⟩:=a;by_cases h0:i=0;have b:¬ 0<i:=by omega
   simp [sI,h,c,e,f,z,A,b,nC,dZ (i:=i) (by omega),j6 d];have l:i-1<xs.length:=by omega
   obtain⟨q,t,_,u⟩:=r.at l;have w:=w.resolve_left h0;rw [uU l] at w;have b:0<i:=by omega
   have y:¬ xs[i]<=xs[i-1]:=by omega
   simp [sI,h,c,e,f,t,u,z,A,b,y,nC,dZ (i:=i) (by omega),CK (i:=i) b (by omega),j6 d]
  cases a:okB xs i with
  | true=>exact g a
  | false=>
   refine⟨.ret,i,tV,iV xs[i],iV (i:Nat),tV,?_,by simp [bg,a]⟩;rw [o9];simp only [okB,B] at a;by_cases h0:i=0;have o:(decide (1<=xs[i])&&decide (xs[i]<=1099511627776))=false:=by simpa [h0] using a
   simp [sI,h,c,e,f,o,nC,j6 d];have l:i-1<xs.length:=by omega
   obtain⟨q,t,_,u⟩:=r.at l;have b:0<i:=by omega
   rw [uU l,show decide (i=0)=false from decide_eq_false h0,aAi] at a;cases o:(decide (1<=xs[i])&&decide (xs[i]<=1099511627776)) with
   | false=>simp [sI,h,c,e,f,o,nC,j6 d]
   | true=>rw [o,amP] at a;have y:xs[i]<=xs[i-1]:=(by simpa using a);simp [sI,h,c,e,f,t,u,o,b,y,nC,CK (i:=i) b (by omega),j6 d]
theorem af2 {m:Mem}(c:m.Ok){v:d9}{day:Int}{xs:List Int}(a:Z8 m v xs)(hb:xs.length<20000)(n b:Nat)(i:20000<=b):
  l8 KW b (n+3) (.func 143) [.agg [iV day,v]] m=some [⟨.bool (bg (okB xs) xs.length 0&&((decide (0<=day)&&decide (day<=19999))&&(decide (2<=xs.length)&&decide (xs.length<=5)))),ext m [l6 [iV day,v]]⟩]:=by
 rw [enter (sf:=f143) rfl rfl];have a:=a.ext (C8 c [l6 [iV day,v]]);have f:=a.len;have j:v.cells=[v]:=a.cells;obtain⟨x,k,l,o,p,q,d,e⟩:=abQ c a (by omega) n b xs.length 0 (by omega) b (by omega) uV uV uV uV;have g:decide (2<=((xs.length:Nat):Int))=decide (2<=xs.length):=by rw [adE];simp;omega
 have h:decide (((xs.length:Nat):Int)<=5)=decide (xs.length<=5):=by rw [adE];simp;omega
 cases ha:bg (okB xs) xs.length 0<;>rw [ha] at e<;>simp only [cond_true,cond_false] at e<;>subst e<;>simp [f143,f,w9,j6 c,j] at d ⊢
 simp [d];simp +contextual [d,f,j6 c,oC,iM,pJ,sG,zB,tX,cB,g,h]
@[simp] theorem ajj:bR nS nS=some true:=id rfl
@[simp] theorem adR (a b c d:Nat):bR (.slice a b c d) nS=some false:=id rfl
@[simp] theorem abR (a b c d:Nat):bR (.sliceU a b c d) nS=some false:=id rfl
theorem abS (x:Int)(n a:Nat)(b:20000<=a)(m:Mem):l8 KW a (n+1) (.func 210) [nS,iV x] m=some [⟨iV (.negSucc 0),m⟩]:=by rw [enter (sf:=f210) rfl rfl];obtain⟨N,rfl⟩:∃M,a=M+1:=⟨a-1,by omega⟩;simp [f210,o9,SV]
theorem abT (x:Int)(n a:Nat)(b:20000<=a)(m:Mem):l8 KW a (n+2) (.func 223) [nS,iV x] m=some [⟨fV,m⟩]:=by rw [enter (sf:=f223) rfl rfl];simp [f223,abS x n a b]
theorem abU (x:Int)(n a:Nat)(b:20000<=a){m:Mem}{p:Nat}(hp:m.get p=some (l6 [nS])):l8 KW a (n+3) (.func 307) [iV x,.ptr p 0] m=some [⟨fV,m⟩]:=by rw [enter (sf:=f307) rfl rfl];simp [f307,hp,abT x n a b]
theorem abV {m:Mem}{v:d9}{xs:List Int}{p:Nat}(l:Z8 m v xs)(hp:m.get p=some (l6 [nS]))(hb:xs.length<1000000)(n a:Nat)(b:20000<=a):
  ∀(j i:Nat),i+j=xs.length->∀(N:Nat),j<N->∀(a0 a1 a2:d9),
   ∃k b0 b1 b2,T9 (λenv m k=>EC (l8 KW a (n+3)) a none env m k) N (Vl v (iN i) (iN (xs.length)) a0 (.func (.func 307) [] [.ptr p 0]) a1 a2 i0) m []=some [⟨.exit 0,(Vl v (iN k) (iN (xs.length)) b0 (.func (.func 307) [] [.ptr p 0]) b1 b2 i0),m,[],none⟩]:=by
 intro j;induction j with
 | zero=>
  intro i g N f a0 a1 a2;obtain⟨N,rfl⟩:∃M,N=M+1:=⟨N-1,by omega⟩;refine⟨i,fV,a1,a2,?_⟩;rw [o9];have h:¬ i<xs.length:=by omega
  simp [EC,h]
 | succ j ih=>
  intro i g N f a0 a1 a2;obtain⟨N,rfl⟩:∃M,N=M+1:=⟨N-1,by omega⟩;have h:i<xs.length:=by omega
  obtain⟨q,c,_,d⟩:=l.at h;obtain⟨k,b0,b1,b2,e⟩:=ih (i+1) (by omega) N (by omega) tV (iV i) fV;refine⟨k,b0,b1,b2,?_⟩;rw [o9,← e];simp [EC,h,c,d,abU _ n a b hp,dZ (i:=i) (by omega)]
theorem abW {m:Mem}{v:d9}{xs:List Int}{p:Nat}(d:Z8 m v xs)(hp:m.get p=some (l6 [nS]))(hb:xs.length<20000)(n a:Nat)(b:20000<=a):
  l8 KW a (n+4) (.func 127) [v,.func (.func 307) [] [.ptr p 0]] m=some [⟨iV (.negSucc 0),m⟩]:=by
 rw [enter (sf:=f127) rfl rfl];have e:=d.len;obtain⟨k,f,g,h,c⟩:=abV d hp (by omega) n a b xs.length 0 (by omega) a (by omega) uV uV uV;simp [f127,e] at c ⊢;simp [c]
theorem abX {m:Mem}{v:d9}{xs:List Int}{p:Nat}(c:Z8 m v xs)(hp:m.get p=some (l6 [nS]))(hb:xs.length<20000)(n a:Nat)(b:20000<=a):
  l8 KW a (n+5) (.func 306) [v,.func (.func 307) [] [.ptr p 0]] m=some [⟨v,m⟩]:=by
 rw [enter (sf:=f306) rfl rfl];simp [f306,abW c hp hb n a b]
theorem Gw {m:Mem}{v:d9}{xs:List Int}(j:m.Ok)(C:m.lim<=m.nx)(p:Z8 m v xs)(hb:xs.length<20000)(n u:Nat):
  ∃v' m',l8 KW u (n+1) (.func 183) [v] m=some [⟨v',m'⟩]∧Ext m m'∧Z8 m' v' xs:=by
 rw [enter (sf:=f183) rfl rfl];rcases p with⟨rfl,rfl⟩ | p;refine⟨nS,m,?_,Ext.refl j,.inl ⟨rfl,rfl⟩⟩;simp [f183];have d:Z8 m v xs:=.inr p;have k:bR v nS=some false:=by obtain⟨id,⟨c,rfl⟩ | ⟨c,rfl⟩,_⟩:=p<;>rfl
 have E:kT 1 0 [] (λb=>some (d9.slice m.nx 0 0 0,some b))=some (.slice m.nx 0 0 0,some (.cells 1 0 (T.ofList []))):=rfl;have q:∀z h,U4 1 0 z [] [] h m.nx=some (.slice m.nx 0 0 0,some (.cells 1 0 (T.ofList []))):=λz h=>rfl;have o:Z8 (m.new (.cells 1 0 (T.ofList []))) v xs:=d.ext ((Ext.refl j).new _);cases hx:xs with
 | nil=>
  subst hx;refine⟨.slice m.nx 0 0 0,m.new (.cells 1 0 (T.ofList [])),?_,(Ext.refl j).new _,.inr ⟨(m.nx,0),.inl ⟨0,rfl⟩,by simp,.inl rfl⟩⟩;have a:∀(l r:T d9) g,sQ 1 8 K5 (G6 gH) g [.slice m.nx 0 0 0] (.nd l v r) (m.new (.cells 1 0 (T.ofList [])))=some [⟨.slice m.nx 0 0 0,m.new (.cells 1 0 (T.ofList []))⟩]:=by intro l r g;show ob (Go.AM.lenOf v) (λn=>ob (bS _ 1 n v) λf=>oz _ 1 8 n f (.slice m.nx 0 0 0))=_;rw [d.lenOf];simp only [I7,asf];have:=o.read;rw [asf] at this;rw [this];rfl
  simp [f183,k,q,a]
 | cons x xs'=>
  obtain⟨m',w,y,A⟩:=Sw (m:=m.new (.cells 1 0 (T.ofList []))) (Mem.Ok.new j _) xs;refine⟨_,m',?_,((Ext.refl j).new _).trans y,by rw [← hx];exact A⟩;have a:∀(l r:T d9) g,sQ 1 8 K5 (G6 gH) g [.slice m.nx 0 0 0] (.nd l v r) (m.new (.cells 1 0 (T.ofList [])))=some [⟨.sliceU (m.new (.cells 1 0 (T.ofList []))).nx 0 xs.length 1,m'⟩]:=by
   intro l r g;show ob (Go.AM.lenOf v) (λn=>ob (bS _ 1 n v) λf=>oz _ 1 8 n f (.slice m.nx 0 0 0))=_;rw [d.lenOf];simp only [I7];rw [o.read];simp only [I7];show ji _ 1 8 xs.length (ints xs) m.nx 0 0 0=_;unfold ji;have D:0<xs.length:=by rw [hx];simp
   rw [show Nat.ble (Nat.add 0 xs.length) 0=false from by
    cases hb':Nat.ble (Nat.add 0 xs.length) 0 with
    | false=>rfl
    | true=>
     have B:=M8 hb';have s:Nat.add 0 xs.length=xs.length:=S9 _;rw [s] at B;omega]
   rw [aJ];have i:big (Nat.add 0 xs.length) 8 1=true:=by have e:Nat.add 0 xs.length=xs.length:=S9 _;unfold big;rw [e,show Nat.ble (Nat.mul (Nat.add (Nat.mul 2 xs.length) 2048) 8) 281474976710656=true from wu (by show (2*xs.length+2048)*8<=281474976710656;omega)];rfl
   rw [i,Z6];show ob (V4 _ m.nx 0 (Nat.mul 0 1)) _=_;have e:Nat.mul 0 1=0:=rfl;rw [e];show grown (m.new (.cells 1 0 (T.ofList []))) 1 (Nat.add 0 xs.length) (bU [] (ints xs))=_;have t:Nat.add 0 xs.length=xs.length:=S9 _;rw [t,U9,adl,w]
  simp [f183,k,q,a]
theorem WV {m:Mem}{v:d9}{xs:List Int}(b:m.Ok)(j:m.lim<=m.nx)(i:Z8 m v xs)(hb:xs.length<20000)(n a:Nat)(d:20000<=a):
  ∃v' m',l8 KW a (n+6) (.func 240) [v,nS] m=some [⟨v',m'⟩]∧Ext m m'∧Z8 m' v' xs:=by
 rw [enter (sf:=f240) rfl rfl];have e:=i.ext (C8 b [l6 [nS]]);obtain⟨v',m',g,f,c⟩:=Gw (m:=ext m [l6 [nS]]) (I9 b _) (by simp;omega) e hb (n+4) a;have h:m'.get m.nx=some (l6 [nS]):=by rw [f.old _ (by simp)];rw [j6 b];rfl
 refine⟨v',m',?_,(C8 b _).trans f,c⟩;simp [f240,w9,g,c.dD,abX c h hb n a d]
theorem TD {m:Mem}{v:d9}{xs:List Int}(i:m.Ok)(h:m.lim<=m.nx)(f:Z8 m v xs)(n d:Nat)(e:20000<=d):
  l8 KW d (n+6) (.func 240) [nS,v] m=some [⟨nS,ext m [l6 [v]]⟩]:=by
 rw [enter (sf:=f240) rfl rfl];obtain⟨N,rfl⟩:∃M,d=M+1:=⟨d-1,by omega⟩;have g:=f.cells;have b:l8 KW (N+1) (n+5) (.func 183) [nS] (ext m [l6 [v]])=some [⟨nS,ext m [l6 [v]]⟩]:=by rw [enter (sf:=f183) rfl rfl];simp [f183]
 have a:l8 KW (N+1) (n+4) (.func 127) [nS,.func (.func 307) [] [.ptr m.nx 0]] (ext m [l6 [v]])=some [⟨iV (.negSucc 0),ext m [l6 [v]]⟩]:=by rw [enter (sf:=f127) rfl rfl];simp [f127,o9,EC]
 have c:l8 KW (N+1) (n+5) (.func 306) [nS,.func (.func 307) [] [.ptr m.nx 0]] (ext m [l6 [v]])=some [⟨nS,ext m [l6 [v]]⟩]:=by rw [enter (sf:=f306) rfl rfl];simp [f306,a]
 simp [f240,w9,g,b,c]
theorem af3 {m:Mem}{v:d9}{xs:List Int}(g:m.Ok)(l:m.lim<=m.nx)(e:Z8 m v xs)(hb:xs.length<20000)(n b:Nat)(a:20000<=b):
  ∃v1 v2 m',l8 KW b (n+7) (.func 313) [v,nS] m=some [⟨.tuple [v1,v2,iV (bif (bg (okB xs) xs.length 0&&decide (xs.length<=6)) then 0 else 1)],m'⟩]∧Ext m m':=by
 rw [enter (sf:=f313) rfl rfl];have d:=Vn e hb (n+4) b a;have h:l8 KW b (n+6) (.func 394) [nS] m=some [⟨tV,m⟩]:=Vn (m:=m) (v:=nS) (xs:=[]) (.inl ⟨rfl,rfl⟩) (by simp) (n+4) b a;cases ha:(bg (okB xs) xs.length 0&&decide (xs.length<=6)) with
 | false=>rw [ha] at d;refine⟨nS,nS,m,?_,Ext.refl g⟩;simp [f313,d]
 | true=>rw [ha] at d;obtain⟨o,m',j,c,k⟩:=WV g l e hb n b a;have f:=e.ext c;have i:=TD (m:=m') c.ok (by have p:=c.lim;have q:=c.nx;omega) f n b a;refine⟨o,nS,ext m' [l6 [v]],?_,c.trans (C8 c.ok _)⟩;simp [f313,d,h,j,k.dD,i]
theorem Vo {m:Mem}{v:d9}{xs:List Int}(f:m.Ok)(e:m.lim<=m.nx)(g:Z8 m v xs)(hb:xs.length<20000)(n a:Nat)(b:20000<=a):
  ∃m',l8 KW a (n+8) (.func 243) [v] m=some [⟨.bool (bg (okB xs) xs.length 0&&decide (xs.length<=6)),m'⟩]∧Ext m m':=by
 rw [enter (sf:=f243) rfl rfl];obtain⟨h,i,m',c,d⟩:=af3 f e g hb n a b;refine⟨m',?_,d⟩;cases ha:(bg (okB xs) xs.length 0&&decide (xs.length<=6))<;>rw [ha] at c<;>simp [f243,c]
theorem af4 {m:Mem}{v w:d9}{xs a:List Int}(o:Z8 m v xs)(A:Z8 m w a)(B:a.length=xs.length)(hb:xs.length<1000000)(cf:H8)(r:Nat)(e:d9):
  ∀(j i:Nat),i+j=xs.length->∀(N:Nat),j<N->∀(a4 a5:d9),
   ∃x k b4 b5,T9 (λenv m k=>Lm cf r none env m k) N (Vk v w e (iN i) a4 a5 fV) m []=some [⟨x,(Vk v w e (iN k) b4 b5 fV),m,[],none⟩]∧
    x=(if xs.drop i=a.drop i then bn.exit 0 else .ret):=by
 have d:=o.len;intro j;induction j with
 | zero=>
  intro i z N u a4 a5;obtain⟨N,rfl⟩:∃M,N=M+1:=⟨N-1,by omega⟩;refine⟨.exit 0,i,fV,a5,?_,?_⟩;rw [o9];have h:¬ i<xs.length:=by omega
  simp [Lm,h,d];rw [O5 (by omega),O5 (by omega)];rfl
 | succ j ih=>
  intro i z N u a4 a5;obtain⟨N,rfl⟩:∃M,N=M+1:=⟨N-1,by omega⟩;have h:i<xs.length:=by omega
  have c:i<a.length:=by omega
  obtain⟨p,f,_,g⟩:=o.at h;obtain⟨q,l,_,n⟩:=A.at c;by_cases he:xs[i]=a[i];obtain⟨x,k,b4,b5,s,t⟩:=ih (i+1) (by omega) N (by omega) tV fV;refine⟨x,k,b4,b5,?_,?_⟩;rw [o9,← s];simp [Lm,h,d,f,g,l,n,he,dZ (i:=i) (by omega)];rw [t];have y:(xs.drop i=a.drop i)↔(xs.drop (i+1)=a.drop (i+1)):=by rw [Q6 h,Q6 c,he];exact⟨λb=>(ahs b).2,λb=>by rw [b]⟩
  simp only [y];refine⟨.ret,i,tV,tV,?_,?_⟩;rw [o9];simp [Lm,h,d,f,g,l,n,he];rw [if_neg];intro b;rw [Q6 h,Q6 c] at b;exact he (ahs b).1
theorem TF {m:Mem}{v w:d9}{xs ys:List Int}(f:Z8 m v xs)(g:Z8 m w ys)(hb:xs.length<20000)(n b:Nat)(o:20000<=b):
  l8 KW b (n+1) (.func 34) [v,w] m=some [⟨.bool (decide (xs=ys)),m⟩]:=by
 rw [enter (sf:=f34) rfl rfl];have d:=f.len;have e:=g.len;by_cases hxy:ys.length=xs.length;obtain⟨x,k,p,q,c,a⟩:=af4 f g hxy (by omega) (l8 KW b n) b fV xs.length 0 (by omega) b (by omega) uV uV;have a:x=if xs=ys then bn.exit 0 else .ret:=a
 by_cases he:xs=ys;rw [if_pos he] at a;subst a;simp [f34,d,e,hxy,he] at c ⊢;simp [c];rw [if_neg he] at a;subst a;simp [f34,d,e,hxy,he] at c ⊢;simp [c];have i:¬ xs.length=ys.length:=λh=>hxy h.symm;have j:¬ xs=ys:=λh=>i (by rw [h]);have l:¬ ((xs.length:Nat):Int)=((ys.length:Nat):Int):=by omega
 simp [f34,d,e,l,j]
structure aX (m:Mem)(f:G5)(xa xb xl:List Int):Prop where
 a:Z8 m f.A xa
 b:Z8 m f.B xb
 l:Z8 m f.L xl
 la:xa.length<20000
 lb:xb.length<20000
 ll:xl.length<20000
theorem aX.ext {m c:Mem}(h:Ext m c){f:G5}{a b l:List Int}(k:aX m f a b l):aX c f a b l:=⟨k.a.ext h,k.b.ext h,k.l.ext h,k.la,k.lb,k.ll⟩
theorem aX.same {m:Mem}{f:G5}{a b l:List Int}(k:aX m f a b l):bM 100 (.agg f.cells) (.agg f.cells)=true:=by rw [Le];simp [G5.cells,Ld,Qh,P8,gW k.a,gW k.b,gW k.l]
def lV (f g:G5)(a b a' b':List Int):Bool:=
 decide (f.cid=g.cid)&&(decide (f.cday=g.cday)&&(decide (f.diff=g.diff)&&(decide (f.err=g.err)&&(decide (f.hlo=g.hlo)&&(decide (f.hhi=g.hhi)&&(decide (a=a')&&decide (b=b')))))))
def G5.cmp (f:G5):List d9:=[iV f.cid,iV f.cday,f.A,f.B,iV f.diff,iV f.err,iV f.hlo,iV f.hhi]
@[simp] theorem G5.aAb (f:G5):f.cmp.length=8:=id rfl
@[simp] theorem G5.aAc (f:G5):(f.cmp.drop 6).take 2=[iV f.hlo,iV f.hhi]:=id rfl
@[simp] theorem G5.iQ (f:G5):[iV f.cid,iV f.cday,f.A,f.B,iV f.diff,iV f.err,iV f.hlo,iV f.hhi]=f.cmp:=id rfl
@[simp] theorem G5.k0 (f:G5)(h:0<f.cmp.length):f.cmp[0]'h=d9.int .i64 f.cid:=id rfl
@[simp] theorem G5.kk0 (f:G5):f.cmp[0]?=some (d9.int .i64 f.cid):=id rfl
@[simp] theorem G5.k1 (f:G5)(h:1<f.cmp.length):f.cmp[1]'h=d9.int .i64 f.cday:=id rfl
@[simp] theorem G5.kk1 (f:G5):f.cmp[1]?=some (d9.int .i64 f.cday):=id rfl
@[simp] theorem G5.k2 (f:G5)(h:2<f.cmp.length):f.cmp[2]'h=f.A:=id rfl
@[simp] theorem G5.kk2 (f:G5):f.cmp[2]?=some (f.A):=id rfl
@[simp] theorem G5.k3 (f:G5)(h:3<f.cmp.length):f.cmp[3]'h=f.B:=id rfl
@[simp] theorem G5.kk3 (f:G5):f.cmp[3]?=some (f.B):=id rfl
@[simp] theorem G5.k4 (f:G5)(h:4<f.cmp.length):f.cmp[4]'h=d9.int .i64 f.diff:=id rfl
@[simp] theorem G5.kk4 (f:G5):f.cmp[4]?=some (d9.int .i64 f.diff):=id rfl
@[simp] theorem G5.k5 (f:G5)(h:5<f.cmp.length):f.cmp[5]'h=d9.int .i64 f.err:=id rfl
@[simp] theorem G5.kk5 (f:G5):f.cmp[5]?=some (d9.int .i64 f.err):=id rfl
@[simp] theorem G5.k6 (f:G5)(h:6<f.cmp.length):f.cmp[6]'h=d9.int .i64 f.hlo:=id rfl
@[simp] theorem G5.kk6 (f:G5):f.cmp[6]?=some (d9.int .i64 f.hlo):=id rfl
@[simp] theorem G5.k7 (f:G5)(h:7<f.cmp.length):f.cmp[7]'h=d9.int .i64 f.hhi:=id rfl
@[simp] theorem G5.kk7 (f:G5):f.cmp[7]?=some (d9.int .i64 f.hhi):=id rfl
theorem al1 {m:Mem}{f g:G5}{a b l o b' p:List Int}(c:m.Ok)(h:aX m f a b l)(k:aX m g o b' p)(n j:Nat)(i:20000<=j):
  l8 KW j (n+2) (.func 52) [.agg f.cmp,.agg g.cmp] m=some [⟨.bool (lV f g a b o b'),ext m [l6 f.cmp,l6 g.cmp]⟩]:=by
 rw [enter (sf:=f52) rfl rfl];have h:=h.ext (C8 c [l6 f.cmp,l6 g.cmp]);have k:=k.ext (C8 c [l6 f.cmp,l6 g.cmp]);have d:=TB h.a k.a h.la n j i;have e:=TB h.b k.b h.lb n j i;by_cases h0:f.cid=g.cid;by_cases h1:f.cday=g.cday;by_cases h2:f.diff=g.diff;by_cases h3:f.err=g.err;by_cases h4:f.hlo=g.hlo;by_cases h5:f.hhi=g.hhi;by_cases h6:a=o;by_cases h7:b=b';simp [f52,w9,x9,j6 c,l5 c,r9 c,l9 c,D6,d,e,lV,h0,h1,h2,h3,h4,h5,h6,h7];simp [f52,w9,x9,j6 c,l5 c,r9 c,l9 c,D6,d,e,lV,h0,h1,h2,h3,h4,h5,h6,h7];simp [f52,w9,x9,j6 c,l5 c,r9 c,l9 c,D6,d,e,lV,h0,h1,h2,h3,h4,h5,h6];simp [f52,w9,x9,j6 c,l5 c,r9 c,l9 c,D6,d,e,lV,h0,h1,h2,h3,h4,h5];simp [f52,w9,x9,j6 c,l5 c,r9 c,l9 c,D6,d,e,lV,h0,h1,h2,h3,h4];simp [f52,w9,x9,j6 c,l5 c,r9 c,l9 c,D6,d,e,lV,h0,h1,h2,h3];simp [f52,w9,x9,j6 c,l5 c,r9 c,l9 c,D6,d,e,lV,h0,h1,h2];simp [f52,w9,x9,j6 c,l5 c,r9 c,l9 c,D6,d,e,lV,h0,h1];simp [f52,w9,x9,j6 c,l5 c,r9 c,l9 c,D6,d,e,lV,h0]
theorem al2 {m:Mem}{f g:G5}{a b l o b' p:List Int}(c:m.Ok)(h:aX m f a b l)(k:aX m g o b' p)(n j:Nat)(i:20000<=j):
  l8 KW j (n+2) (.func 45) [.agg f.cmp,.agg g.cmp] m=some [⟨.bool (lV f g a b o b'),ext m [l6 f.cmp,l6 g.cmp]⟩]:=by
 rw [enter (sf:=f45) rfl rfl];have h:=h.ext (C8 c [l6 f.cmp,l6 g.cmp]);have k:=k.ext (C8 c [l6 f.cmp,l6 g.cmp]);have d:=TF h.a k.a h.la n j i;have e:=TF h.b k.b h.lb n j i;by_cases h0:a=o;by_cases h1:b=b';by_cases h2:f.cid=g.cid;by_cases h3:f.cday=g.cday;by_cases h4:f.diff=g.diff;by_cases h5:f.err=g.err;by_cases h6:f.hlo=g.hlo;by_cases h7:f.hhi=g.hhi;simp [f45,w9,x9,j6 c,l5 c,r9 c,l9 c,D6,d,e,lV,h0,h1,h2,h3,h4,h5,h6,h7];simp [f45,w9,x9,j6 c,l5 c,r9 c,l9 c,D6,d,e,lV,h0,h1,h2,h3,h4,h5,h6,h7];simp [f45,w9,x9,j6 c,l5 c,r9 c,l9 c,D6,d,e,lV,h0,h1,h2,h3,h4,h5,h6];simp [f45,w9,x9,j6 c,l5 c,r9 c,l9 c,D6,d,e,lV,h0,h1,h2,h3,h4,h5];simp [f45,w9,x9,j6 c,l5 c,r9 c,l9 c,D6,d,e,lV,h0,h1,h2,h3,h4];simp [f45,w9,x9,j6 c,l5 c,r9 c,l9 c,D6,d,e,lV,h0,h1,h2,h3];simp [f45,w9,x9,j6 c,l5 c,r9 c,l9 c,D6,d,e,lV,h0,h1,h2];simp [f45,w9,x9,j6 c,l5 c,r9 c,l9 c,D6,d,e,lV,h0,h1];simp [f45,w9,x9,j6 c,l5 c,r9 c,l9 c,D6,d,e,lV,h0]
set_option maxRecDepth 100000
set_option maxHeartbeats 2000000
def dh (f g:G5):Bool:=(decide (f.room=g.room)&&decide (f.no=g.no))&&(decide (f.known=g.known)&&(decide (f.kind=g.kind)&&((decide (f.flo=g.flo)&&decide (f.fhi=g.fhi))&&((decide (f.gid=g.gid)&&(decide (f.made=g.made)&&(decide (f.nom=g.nom)&&(decide (f.tlo=g.tlo)&&(decide (f.thi=g.thi)&&(decide (f.gn=g.gn)&&(decide (f.gd=g.gd)&&decide (f.wear=g.wear))))))))&&((decide (f.ug=g.ug)&&decide (f.ud=g.ud))&&((decide (f.lg=g.lg)&&(decide (f.ll=g.ll)&&(decide (f.lh=g.lh)&&decide (f.lw=g.lw))))&&((decide (f.tr=g.tr)&&decide (f.tn=g.tn)))))))))
def aL (f g:G5)(a b l a' b' l':List Int):Bool:=dh f g&&(lV f g a b a' b'&&(decide (f.mday=g.mday)&&decide (l=l')))
def G5.nm (f:G5):U7:=l6 [iV f.room,iV f.no]
theorem al3 {m:Mem}{f g:G5}{a b l r b' x:List Int}(c:m.Ok)(y:m.lim<=m.nx)(q:aX m f a b l)(u:aX m g r b' x)(n o:Nat)(p:20000<=o):
  l8 KW o (n+3) (.func 19) [.agg f.cells,.agg g.cells] m=some [⟨.bool (aL f g a b l r b' x),ext m ([l6 f.cells,l6 g.cells,l6 f.cells,f.nm,l6 g.cells,g.nm]++(bif dh f g then [l6 f.cmp,l6 g.cmp] else []))⟩]:=by
 rw [enter (sf:=f19) rfl rfl];have j:=q.same;have k:=u.same;have d:=NG (n+1) o f (ext m [l6 f.cells,l6 g.cells]) (I9 c _) (by simp;omega);have e:=NG (n+1) o g (ext m [l6 f.cells,l6 g.cells,l6 f.cells,f.nm]) (I9 c _) (by simp;omega);have s:=q.ext (C8 c [l6 f.cells,l6 g.cells,l6 f.cells,f.nm,l6 g.cells,g.nm]);have v:=u.ext (C8 c [l6 f.cells,l6 g.cells,l6 f.cells,f.nm,l6 g.cells,g.nm]);have h:=al1 (I9 c _) s v n o p;have t:=q.ext (C8 c [l6 f.cells,l6 g.cells,l6 f.cells,f.nm,l6 g.cells,g.nm,l6 f.cmp,l6 g.cmp]);have w:=u.ext (C8 c [l6 f.cells,l6 g.cells,l6 f.cells,f.nm,l6 g.cells,g.nm,l6 f.cmp,l6 g.cmp]);have i:=TB t.l w.l q.ll (n+1) o p;simp only [G5.nm] at d e h i ⊢;cases h0:(decide (f.room=g.room)&&decide (f.no=g.no)) with
 | true=>
  cases h1:decide (f.known=g.known) with
  | true=>
   cases h2:decide (f.kind=g.kind) with
   | true=>
    cases h3:(decide (f.flo=g.flo)&&decide (f.fhi=g.fhi)) with
    | true=>
     cases h4:(decide (f.gid=g.gid)&&(decide (f.made=g.made)&&(decide (f.nom=g.nom)&&(decide (f.tlo=g.tlo)&&(decide (f.thi=g.thi)&&(decide (f.gn=g.gn)&&(decide (f.gd=g.gd)&&decide (f.wear=g.wear)))))))) with
     | true=>
      cases h5:(decide (f.ug=g.ug)&&decide (f.ud=g.ud)) with
      | true=>
       cases h6:(decide (f.lg=g.lg)&&(decide (f.ll=g.ll)&&(decide (f.lh=g.lh)&&decide (f.lw=g.lw)))) with
       | true=>
        cases h7:(decide (f.tr=g.tr)&&decide (f.tn=g.tn)) with
        | true=>
         cases h8:lV f g a b r b' with
         | true=>
          cases h9:decide (f.mday=g.mday) with
          | true=>
           cases h10:decide (l=x) with
           | true=>simp [f19,w9,x9,j6 c,l5 c,r9 c,l9 c,D6,d,e,h,i,j,k,aL,dh,h0,h1,h2,h3,h4,h5,h6,h7,h8,h9,h10]
           | false=>simp [f19,w9,x9,j6 c,l5 c,r9 c,l9 c,D6,d,e,h,i,j,k,aL,dh,h0,h1,h2,h3,h4,h5,h6,h7,h8,h9,h10]
          | false=>simp [f19,w9,x9,j6 c,l5 c,r9 c,l9 c,D6,d,e,h,i,j,k,aL,dh,h0,h1,h2,h3,h4,h5,h6,h7,h8,h9]
         | false=>simp [f19,w9,x9,j6 c,l5 c,r9 c,l9 c,D6,d,e,h,i,j,k,aL,dh,h0,h1,h2,h3,h4,h5,h6,h7,h8]
        | false=>simp [f19,w9,x9,j6 c,l5 c,r9 c,l9 c,D6,d,e,h,i,j,k,aL,dh,h0,h1,h2,h3,h4,h5,h6,h7]
       | false=>simp [f19,w9,x9,j6 c,l5 c,r9 c,l9 c,D6,d,e,h,i,j,k,aL,dh,h0,h1,h2,h3,h4,h5,h6]
      | false=>simp [f19,w9,x9,j6 c,l5 c,r9 c,l9 c,D6,d,e,h,i,j,k,aL,dh,h0,h1,h2,h3,h4,h5]
     | false=>simp [f19,w9,x9,j6 c,l5 c,r9 c,l9 c,D6,d,e,h,i,j,k,aL,dh,h0,h1,h2,h3,h4]
    | false=>simp [f19,w9,x9,j6 c,l5 c,r9 c,l9 c,D6,d,e,h,i,j,k,aL,dh,h0,h1,h2,h3]
   | false=>simp [f19,w9,x9,j6 c,l5 c,r9 c,l9 c,D6,d,e,h,i,j,k,aL,dh,h0,h1,h2]
  | false=>simp [f19,w9,x9,j6 c,l5 c,r9 c,l9 c,D6,d,e,h,i,j,k,aL,dh,h0,h1]
 | false=>simp [f19,w9,x9,j6 c,l5 c,r9 c,l9 c,D6,d,e,h,i,j,k,aL,dh,h0]
theorem al4 {m:Mem}{f g:G5}{a b l j b' s:List Int}(c:m.Ok)(k:aX m f a b l)(t:aX m g j b' s)(n i:Nat)(h:20000<=i):
  l8 KW i (n+3) (.func 13) [.agg f.cells,.agg g.cells] m=some [⟨.bool (aL f g a b l j b' s),ext m [l6 f.cells,l6 g.cells,l6 f.cmp,l6 g.cmp]⟩]:=by
 rw [enter (sf:=f13) rfl rfl];have o:=k.ext (C8 c [l6 f.cells,l6 g.cells]);have q:=t.ext (C8 c [l6 f.cells,l6 g.cells]);have d:=al2 (I9 c _) o q n i h;have p:=k.ext (C8 c [l6 f.cells,l6 g.cells,l6 f.cmp,l6 g.cmp]);have r:=t.ext (C8 c [l6 f.cells,l6 g.cells,l6 f.cmp,l6 g.cmp]);have e:=TF p.l r.l k.ll (n+1) i h;cases h0:decide (f.room=g.room) with
 | true=>
  cases h1:decide (f.no=g.no) with
  | true=>
   cases h2:decide (f.known=g.known) with
   | true=>
    cases h3:decide (f.kind=g.kind) with
    | true=>
     cases h4:(decide (f.flo=g.flo)&&decide (f.fhi=g.fhi)) with
     | true=>
      cases h5:(decide (f.gid=g.gid)&&(decide (f.made=g.made)&&(decide (f.nom=g.nom)&&(decide (f.tlo=g.tlo)&&(decide (f.thi=g.thi)&&(decide (f.gn=g.gn)&&(decide (f.gd=g.gd)&&decide (f.wear=g.wear)))))))) with
      | true=>
       cases h6:(decide (f.ug=g.ug)&&decide (f.ud=g.ud)) with
       | true=>
        cases h7:(decide (f.lg=g.lg)&&(decide (f.ll=g.ll)&&(decide (f.lh=g.lh)&&decide (f.lw=g.lw)))) with
        | true=>
         cases h8:lV f g a b j b' with
         | true=>
          cases h9:decide (f.mday=g.mday) with
          | true=>
           cases h10:decide (l=s) with
           | true=>
            cases h11:(decide (f.tr=g.tr)&&decide (f.tn=g.tn)) with
            | true=>simp [f13,w9,x9,j6 c,l5 c,r9 c,l9 c,D6,d,e,aL,dh,h0,h1,h2,h3,h4,h5,h6,h7,h8,h9,h10,h11]
            | false=>simp [f13,w9,x9,j6 c,l5 c,r9 c,l9 c,D6,d,e,aL,dh,h0,h1,h2,h3,h4,h5,h6,h7,h8,h9,h10,h11]
           | false=>simp [f13,w9,x9,j6 c,l5 c,r9 c,l9 c,D6,d,e,aL,dh,h0,h1,h2,h3,h4,h5,h6,h7,h8,h9,h10]
          | false=>simp [f13,w9,x9,j6 c,l5 c,r9 c,l9 c,D6,d,e,aL,dh,h0,h1,h2,h3,h4,h5,h6,h7,h8,h9]
         | false=>simp [f13,w9,x9,j6 c,l5 c,r9 c,l9 c,D6,d,e,aL,dh,h0,h1,h2,h3,h4,h5,h6,h7,h8]
        | false=>simp [f13,w9,x9,j6 c,l5 c,r9 c,l9 c,D6,d,e,aL,dh,h0,h1,h2,h3,h4,h5,h6,h7]
       | false=>simp [f13,w9,x9,j6 c,l5 c,r9 c,l9 c,D6,d,e,aL,dh,h0,h1,h2,h3,h4,h5,h6]
      | false=>simp [f13,w9,x9,j6 c,l5 c,r9 c,l9 c,D6,d,e,aL,dh,h0,h1,h2,h3,h4,h5]
     | false=>simp [f13,w9,x9,j6 c,l5 c,r9 c,l9 c,D6,d,e,aL,dh,h0,h1,h2,h3,h4]
    | false=>simp [f13,w9,x9,j6 c,l5 c,r9 c,l9 c,D6,d,e,aL,dh,h0,h1,h2,h3]
   | false=>simp [f13,w9,x9,j6 c,l5 c,r9 c,l9 c,D6,d,e,aL,dh,h0,h1,h2]
  | false=>simp [f13,w9,x9,j6 c,l5 c,r9 c,l9 c,D6,d,e,aL,dh,h0,h1]
 | false=>simp [f13,w9,x9,j6 c,l5 c,r9 c,l9 c,D6,d,e,aL,dh,h0]
def bC (f:G5):G5:={room:=f.room,no:=f.no,known:=f.known,kind:=f.kind,flo:=0,fhi:=0,gid:=0,made:=0,nom:=0,tlo:=0,thi:=0,gn:=0,gd:=0,wear:=0,ug:=0,ud:=0,lg:=0,ll:=0,lh:=0,lw:=0,cid:=0,cday:=0,A:=nS,B:=nS,diff:=0,err:=0,hlo:=0,hhi:=0,mday:=0,L:=nS,tr:=0,tn:=0}
def aY (f:G5):G5:=if f.kind=1 then {bC f with flo:=f.flo,fhi:=f.fhi} else if f.kind=2 then {bC f with gid:=f.gid,made:=f.made,nom:=f.nom,tlo:=f.tlo,thi:=f.thi,gn:=f.gn,gd:=f.gd,wear:=f.wear} else if f.kind=3 then {bC f with ug:=f.ug,ud:=f.ud} else if f.kind=4 then {bC f with lg:=f.lg,ll:=f.ll,lh:=f.lh,lw:=f.lw} else if f.kind=5 then {bC f with cid:=f.cid,cday:=f.cday,A:=f.A,B:=f.B,diff:=f.diff,err:=f.err,hlo:=f.hlo,hhi:=f.hhi} else if f.kind=6 then {bC f with mday:=f.mday,L:=f.L} else if f.kind=7 then {bC f with tr:=f.tr,tn:=f.tn} else bC f
theorem af5 {m:Mem}{f:G5}{a b l:List Int}(c:aX m f a b l):aX m (aY f) (if f.kind=5 then a else []) (if f.kind=5 then b else []) (if f.kind=6 then l else []):=by
 have d:Z8 m nS []:=.inl ⟨rfl,rfl⟩;by_cases h5:f.kind=5;refine⟨?_,?_,?_,?_,?_,?_⟩<;>simp [aY,h5,bC,c.a,c.b,c.la,c.lb,d]
 ·by_cases h6:f.kind=6;refine⟨?_,?_,?_,?_,?_,?_⟩<;>simp [aY,h6,bC,c.l,c.ll,d]
  ·have e:(aY f).A=nS∧(aY f).B=nS∧(aY f).L=nS:=by
    unfold aY;simp only [h5,h6,if_false];repeat' split
    all_goals exact⟨rfl,rfl,rfl⟩
   simp only [h5,h6,if_false];exact⟨by rw [e.1];exact d,by rw [e.2.1];exact d,by rw [e.2.2];exact d,by simp,by simp,by simp⟩
def xU (xs:List Int):Bool:=bg (okB xs) xs.length 0&&decide (xs.length<=6)
def Vp (f:G5):Bool:=(decide (0<=f.flo)&&decide (f.flo<=f.fhi)&&decide (f.fhi<=1000000))
def af6 (f:G5):Bool:=(decide (1<=f.ug)&&decide (f.ug<=1099511627776))&&(decide (0<=f.ud)&&decide (f.ud<=20000))
def Dm (f:G5):Bool:=(decide (1<=f.lg)&&decide (f.lg<=1099511627776))&&((decide (0<=f.ll)&&decide (f.ll<=f.lh)&&decide (f.lh<=20000))&&(decide (0<=f.lw)&&decide (f.lw<=1048576)))
def kF (f:G5)(a b:List Int):Bool:=decide (f.cid=0)&&((decide (0<=f.cday)&&decide (f.cday<=20000))&&((decide (-1125899906842624<=f.diff)&&decide (f.diff<=1125899906842624))&&((decide (0<=f.err)&&decide (f.err<=1073741824))&&((decide (-10000<=f.hlo)&&decide (f.hlo<=f.hhi)&&decide (f.hhi<=10000))&&(xU a&&xU b)))))
def WW (f:G5)(l:List Int):Bool:=bg (okB l) l.length 0&&((decide (0<=f.mday)&&decide (f.mday<=19999))&&(decide (2<=l.length)&&decide (l.length<=5)))
def wdB (f:G5):Bool:=(decide (1<=f.tr)&&decide (f.tr<=6))&&((decide (1<=f.tn)&&decide (f.tn<=60)) && !(decide (f.tr=f.room)&&decide (f.tn=f.no)))
theorem af8 (n c:Nat)(f:G5)(m:Mem)(a:m.Ok)(d:m.lim<=m.nx):∃m',l8 KW c (n+3) (.func 137) [.agg f.cells] m=some [⟨.bool (Dm f),m'⟩]∧Ext m m':=by
 rw [enter (sf:=f137) rfl rfl];have b:=ND (n+1) c f.ll f.lh 0 20000 (ext m [l6 f.cells]) (I9 a _);cases h0:(decide (1<=f.lg)&&decide (f.lg<=1099511627776)) with
 | true=>
  cases h1:(decide (0<=f.ll)&&decide (f.ll<=f.lh)&&decide (f.lh<=20000)) with
  | true=>
   cases h2:(decide (0<=f.lw)&&decide (f.lw<=1048576)) with
   | true=>exact⟨ext m [l6 f.cells,l6 [iV f.ll,iV f.lh]],by simp [f137,w9,x9,j6 a,l5 a,r9 a,l9 a,D6,nC,cB,b,Dm,h0,h1,h2],C8 a _⟩
   | false=>exact⟨ext m [l6 f.cells,l6 [iV f.ll,iV f.lh]],by simp [f137,w9,x9,j6 a,l5 a,r9 a,l9 a,D6,nC,cB,b,Dm,h0,h1,h2],C8 a _⟩
  | false=>exact⟨ext m [l6 f.cells,l6 [iV f.ll,iV f.lh]],by simp [f137,w9,x9,j6 a,l5 a,r9 a,l9 a,D6,nC,cB,b,Dm,h0,h1],C8 a _⟩
 | false=>exact⟨ext m [l6 f.cells],by simp [f137,w9,x9,j6 a,l5 a,r9 a,l9 a,D6,nC,cB,b,Dm,h0],C8 a _⟩
theorem af9 {m:Mem}{f:G5}{a b l:List Int}(c:m.Ok)(s:m.lim<=m.nx)(o:aX m f a b l)(n i:Nat)(j:20000<=i):
  ∃m',l8 KW i (n+9) (.func 140) [.agg f.cmp] m=some [⟨.bool (kF f a b),m'⟩]∧Ext m m':=by
 rw [enter (sf:=f140) rfl rfl];have d:=ND (n+7) i f.hlo f.hhi (-10000) 10000 (ext m [l6 f.cmp]) (I9 c _);have E2:=C8 c [l6 f.cmp,l6 [iV f.hlo,iV f.hhi]];obtain⟨p,h,E3⟩:=Vo (I9 c _) (by simp;omega) (o.a.ext E2) o.la n i j;have q:p.get m.nx=some (l6 f.cmp):=by rw [E3.old _ (by simp),j6 c];rfl
 have E23:=E2.trans E3;obtain⟨r,k,E4⟩:=Vo (m:=p) E3.ok (by have e:=E23.lim;have g:=E23.nx;omega) (o.b.ext E23) o.lb n i j;cases h0:decide (f.cid=0) with
 | true=>
  cases e:(decide (0<=f.cday)&&decide (f.cday<=20000)) with
  | true=>
   cases g:(decide (-1125899906842624<=f.diff)&&decide (f.diff<=1125899906842624)) with
   | true=>
    cases h3:(decide (0<=f.err)&&decide (f.err<=1073741824)) with
    | true=>
     cases h4:(decide (-10000<=f.hlo)&&decide (f.hlo<=f.hhi)&&decide (f.hhi<=10000)) with
     | true=>
      cases h5:bg (okB a) a.length 0&&decide (a.length<=6) with
      | true=>
       cases h6:bg (okB b) b.length 0&&decide (b.length<=6) with
       | true=>exact⟨r,by rw [h5] at h;rw [h6] at k;simp [f140,w9,x9,j6 c,l5 c,r9 c,l9 c,D6,cB,d,h,q,k,kF,xU,h0,e,g,h3,h4,h5,h6],E23.trans E4⟩
       | false=>exact⟨r,by rw [h5] at h;rw [h6] at k;simp [f140,w9,x9,j6 c,l5 c,r9 c,l9 c,D6,cB,d,h,q,k,kF,xU,h0,e,g,h3,h4,h5,h6],E23.trans E4⟩
      | false=>exact⟨p,by rw [h5] at h;simp [f140,w9,x9,j6 c,l5 c,r9 c,l9 c,D6,cB,d,h,q,kF,xU,h0,e,g,h3,h4,h5],E23⟩
     | false=>exact⟨ext m [l6 f.cmp,l6 [iV f.hlo,iV f.hhi]],by simp [f140,w9,x9,j6 c,l5 c,r9 c,l9 c,D6,cB,d,kF,xU,h0,e,g,h3,h4],C8 c _⟩
    | false=>exact⟨ext m [l6 f.cmp],by simp [f140,w9,x9,j6 c,l5 c,r9 c,l9 c,D6,cB,d,kF,xU,h0,e,g,h3],C8 c _⟩
   | false=>exact⟨ext m [l6 f.cmp],by simp [f140,w9,x9,j6 c,l5 c,r9 c,l9 c,D6,cB,d,kF,xU,h0,e,g],C8 c _⟩
  | false=>exact⟨ext m [l6 f.cmp],by simp [f140,w9,x9,j6 c,l5 c,r9 c,l9 c,D6,cB,d,kF,xU,h0,e],C8 c _⟩
 | false=>exact⟨ext m [l6 f.cmp],by simp [f140,w9,x9,j6 c,l5 c,r9 c,l9 c,D6,cB,d,kF,xU,h0],C8 c _⟩
theorem afa {m:Mem}{f:G5}{a b l:List Int}(c:m.Ok)(j:m.lim<=m.nx)(h:aX m f a b l)(n d:Nat)(e:20000<=d):
  ∃m',l8 KW d (n+10) (.func 139) [.agg f.cells] m=some [⟨.bool (kF f a b),m'⟩]∧Ext m m':=by
 rw [enter (sf:=f139) rfl rfl];obtain⟨i,g,E3⟩:=af9 (I9 c [l6 f.cells]) (by simp;omega) (h.ext (C8 c _)) n d e;exact⟨i,by simp [f139,w9,x9,j6 c,l5 c,r9 c,l9 c,D6,g],(C8 c _).trans E3⟩
theorem afb {m:Mem}{f:G5}{a b l:List Int}(c:m.Ok)(i:m.lim<=m.nx)(g:aX m f a b l)(n d:Nat)(e:20000<=d):
  ∃m',l8 KW d (n+4) (.func 142) [.agg f.cells] m=some [⟨.bool (WW f l),m'⟩]∧Ext m m':=by
 rw [enter (sf:=f142) rfl rfl];have h:=af2 (I9 c [l6 f.cells]) (day:=f.mday) (g.l.ext (C8 c _)) g.ll n d e;exact⟨ext m [l6 f.cells,l6 [iV f.mday,f.L]],by simp [f142,w9,x9,j6 c,l5 c,r9 c,l9 c,D6,h,WW],C8 c _⟩
theorem afc {m:Mem}{f:G5}{a b l:List Int}(c:m.Ok)(j:m.lim<=m.nx)(i:aX m f a b l)(n h:Nat):
  ∃m',l8 KW h (n+2) (.func 145) [.agg f.cells] m=some [⟨.bool (wdB f),m'⟩]∧Ext m m':=by
 rw [enter (sf:=f145) rfl rfl];have e:=i.same;have g:bM 100 (.agg [iV f.tr,iV f.tn]) (.agg [iV f.tr,iV f.tn])=true:=by rw [Le];simp [Ld,Qh,P8]
 have d:=NG n h f (ext m [l6 f.cells]) (I9 c _) (by simp;omega);cases h0:(decide (1<=f.tr)&&decide (f.tr<=6)) with
 | true=>
  cases h1:(decide (1<=f.tn)&&decide (f.tn<=60)) with
  | true=>
   cases h2:(decide (f.tr=f.room)&&decide (f.tn=f.no)) with
   | true=>exact⟨ext m [l6 f.cells,l6 f.cells,l6 [iV f.room,iV f.no]],by simp [f145,w9,x9,j6 c,l5 c,r9 c,l9 c,D6,cB,d,e,g,wdB,eq_comm (a:=f.room),eq_comm (a:=f.no),h0,h1,h2],C8 c _⟩
   | false=>exact⟨ext m [l6 f.cells,l6 f.cells,l6 [iV f.room,iV f.no]],by simp [f145,w9,x9,j6 c,l5 c,r9 c,l9 c,D6,cB,d,e,g,wdB,eq_comm (a:=f.room),eq_comm (a:=f.no),h0,h1,h2],C8 c _⟩
  | false=>exact⟨ext m [l6 f.cells],by simp [f145,w9,x9,j6 c,l5 c,r9 c,l9 c,D6,cB,d,e,g,wdB,eq_comm (a:=f.room),eq_comm (a:=f.no),h0,h1],C8 c _⟩
 | false=>exact⟨ext m [l6 f.cells],by simp [f145,w9,x9,j6 c,l5 c,r9 c,l9 c,D6,cB,d,e,g,wdB,eq_comm (a:=f.room),eq_comm (a:=f.no),h0],C8 c _⟩
theorem afd {m:Mem}{f g:G5}{a b l:List Int}{p:Nat}(c:m.Ok)(r:m.lim<=p)(hp:p<m.nx)(h:aX m f a b l)(q:m.get p=some (l6 g.cells))(n o:Nat):
  ∃m',l8 KW o (n+1) (.func 131) [.ptr p 0,.agg f.cells] m=some [⟨.tuple [],m'⟩]∧m'.Ok∧m'.lim=m.lim∧m.nx<=m'.nx∧(∀i,i<m.nx->i≠p->m'.get i=m.get i)∧m'.get p=some (l6 ({g with flo:=f.flo,fhi:=f.fhi}:G5).cells):=by
 rw [enter (sf:=f131) rfl rfl];have s:=h.a.D6;have t:=h.b.D6;have u:=h.l.D6;have j:∀i,D6 (iV i)=true:=λ_=>rfl;have e:(ext m [l6 f.cells]).get p=some (l6 g.cells):=by rw [P5 c _ hp];exact q
 have d:p<(ext m [l6 f.cells]).nx:=by simp;omega
 refine⟨(ext m [l6 f.cells]).set p (l6 ({g with flo:=f.flo,fhi:=f.fhi}:G5).cells),?_,(I9 c _).set d _,by simp,by simp,λi j k=>?_,dN (I9 c _) _ d rfl⟩;simp only [G5.cells] at e ⊢;simp [-G5.iQ,f131,w9,x9,j6 c,l5 c,r9 c,l9 c,aK,r,e,s,t,u,j];rw [iF (I9 c _) _ d k,P5 c _ j]
theorem afe {m:Mem}{f g:G5}{a b l:List Int}{p:Nat}(c:m.Ok)(r:m.lim<=p)(hp:p<m.nx)(h:aX m f a b l)(q:m.get p=some (l6 g.cells))(n o:Nat):
  ∃m',l8 KW o (n+1) (.func 133) [.ptr p 0,.agg f.cells] m=some [⟨.tuple [],m'⟩]∧m'.Ok∧m'.lim=m.lim∧m.nx<=m'.nx∧(∀i,i<m.nx->i≠p->m'.get i=m.get i)∧m'.get p=some (l6 ({g with gid:=f.gid,made:=f.made,nom:=f.nom,tlo:=f.tlo,thi:=f.thi,gn:=f.gn,gd:=f.gd,wear:=f.wear}:G5).cells):=by
 rw [enter (sf:=f133) rfl rfl];have s:=h.a.D6;have t:=h.b.D6;have u:=h.l.D6;have j:∀i,D6 (iV i)=true:=λ_=>rfl;have e:(ext m [l6 f.cells]).get p=some (l6 g.cells):=by rw [P5 c _ hp];exact q
 have d:p<(ext m [l6 f.cells]).nx:=by simp;omega
 refine⟨(ext m [l6 f.cells]).set p (l6 ({g with gid:=f.gid,made:=f.made,nom:=f.nom,tlo:=f.tlo,thi:=f.thi,gn:=f.gn,gd:=f.gd,wear:=f.wear}:G5).cells),?_,(I9 c _).set d _,by simp,by simp,λi j k=>?_,dN (I9 c _) _ d rfl⟩;simp only [G5.cells] at e ⊢;simp [-G5.iQ,f133,w9,x9,j6 c,l5 c,r9 c,l9 c,aK,r,e,s,t,u,j];rw [iF (I9 c _) _ d k,P5 c _ j]
theorem aff {m:Mem}{f g:G5}{a b l:List Int}{p:Nat}(c:m.Ok)(r:m.lim<=p)(hp:p<m.nx)(h:aX m f a b l)(q:m.get p=some (l6 g.cells))(n o:Nat):
  ∃m',l8 KW o (n+1) (.func 136) [.ptr p 0,.agg f.cells] m=some [⟨.tuple [],m'⟩]∧m'.Ok∧m'.lim=m.lim∧m.nx<=m'.nx∧(∀i,i<m.nx->i≠p->m'.get i=m.get i)∧m'.get p=some (l6 ({g with ug:=f.ug,ud:=f.ud}:G5).cells):=by
 rw [enter (sf:=f136) rfl rfl];have s:=h.a.D6;have t:=h.b.D6;have u:=h.l.D6;have j:∀i,D6 (iV i)=true:=λ_=>rfl;have e:(ext m [l6 f.cells]).get p=some (l6 g.cells):=by rw [P5 c _ hp];exact q
 have d:p<(ext m [l6 f.cells]).nx:=by simp;omega
 refine⟨(ext m [l6 f.cells]).set p (l6 ({g with ug:=f.ug,ud:=f.ud}:G5).cells),?_,(I9 c _).set d _,by simp,by simp,λi j k=>?_,dN (I9 c _) _ d rfl⟩;simp only [G5.cells] at e ⊢;simp [-G5.iQ,f136,w9,x9,j6 c,l5 c,r9 c,l9 c,aK,r,e,s,t,u,j];rw [iF (I9 c _) _ d k,P5 c _ j]
theorem afg {m:Mem}{f g:G5}{a b l:List Int}{p:Nat}(c:m.Ok)(r:m.lim<=p)(hp:p<m.nx)(h:aX m f a b l)(q:m.get p=some (l6 g.cells))(n o:Nat):
  ∃m',l8 KW o (n+1) (.func 138) [.ptr p 0,.agg f.cells] m=some [⟨.tuple [],m'⟩]∧m'.Ok∧m'.lim=m.lim∧m.nx<=m'.nx∧(∀i,i<m.nx->i≠p->m'.get i=m.get i)∧m'.get p=some (l6 ({g with lg:=f.lg,ll:=f.ll,lh:=f.lh,lw:=f.lw}:G5).cells):=by
 rw [enter (sf:=f138) rfl rfl];have s:=h.a.D6;have t:=h.b.D6;have u:=h.l.D6;have j:∀i,D6 (iV i)=true:=λ_=>rfl;have e:(ext m [l6 f.cells]).get p=some (l6 g.cells):=by rw [P5 c _ hp];exact q
 have d:p<(ext m [l6 f.cells]).nx:=by simp;omega
 refine⟨(ext m [l6 f.cells]).set p (l6 ({g with lg:=f.lg,ll:=f.ll,lh:=f.lh,lw:=f.lw}:G5).cells),?_,(I9 c _).set d _,by simp,by simp,λi j k=>?_,dN (I9 c _) _ d rfl⟩;simp only [G5.cells] at e ⊢;simp [-G5.iQ,f138,w9,x9,j6 c,l5 c,r9 c,l9 c,aK,r,e,s,t,u,j];rw [iF (I9 c _) _ d k,P5 c _ j]
theorem afh {m:Mem}{f g:G5}{a b l:List Int}{p:Nat}(c:m.Ok)(r:m.lim<=p)(hp:p<m.nx)(h:aX m f a b l)(q:m.get p=some (l6 g.cells))(n o:Nat):
  ∃m',l8 KW o (n+1) (.func 141) [.ptr p 0,.agg f.cells] m=some [⟨.tuple [],m'⟩]∧m'.Ok∧m'.lim=m.lim∧m.nx<=m'.nx∧(∀i,i<m.nx->i≠p->m'.get i=m.get i)∧m'.get p=some (l6 ({g with cid:=f.cid,cday:=f.cday,A:=f.A,B:=f.B,diff:=f.diff,err:=f.err,hlo:=f.hlo,hhi:=f.hhi}:G5).cells):=by
 rw [enter (sf:=f141) rfl rfl];have s:=h.a.D6;have t:=h.b.D6;have u:=h.l.D6;have j:∀i,D6 (iV i)=true:=λ_=>rfl;have e:(ext m [l6 f.cells]).get p=some (l6 g.cells):=by rw [P5 c _ hp];exact q
 have d:p<(ext m [l6 f.cells]).nx:=by simp;omega
 refine⟨(ext m [l6 f.cells]).set p (l6 ({g with cid:=f.cid,cday:=f.cday,A:=f.A,B:=f.B,diff:=f.diff,err:=f.err,hlo:=f.hlo,hhi:=f.hhi}:G5).cells),?_,(I9 c _).set d _,by simp,by simp,λi j k=>?_,dN (I9 c _) _ d rfl⟩;simp only [G5.cells] at e ⊢;simp [-G5.iQ,f141,w9,x9,j6 c,l5 c,r9 c,l9 c,aK,r,e,s,t,u,j];rw [iF (I9 c _) _ d k,P5 c _ j]
theorem afi {m:Mem}{f g:G5}{a b l:List Int}{p:Nat}(c:m.Ok)(r:m.lim<=p)(hp:p<m.nx)(h:aX m f a b l)(q:m.get p=some (l6 g.cells))(n o:Nat):
  ∃m',l8 KW o (n+1) (.func 144) [.ptr p 0,.agg f.cells] m=some [⟨.tuple [],m'⟩]∧m'.Ok∧m'.lim=m.lim∧m.nx<=m'.nx∧(∀i,i<m.nx->i≠p->m'.get i=m.get i)∧m'.get p=some (l6 ({g with mday:=f.mday,L:=f.L}:G5).cells):=by
 rw [enter (sf:=f144) rfl rfl];have s:=h.a.D6;have t:=h.b.D6;have u:=h.l.D6;have j:∀i,D6 (iV i)=true:=λ_=>rfl;have e:(ext m [l6 f.cells]).get p=some (l6 g.cells):=by rw [P5 c _ hp];exact q
 have d:p<(ext m [l6 f.cells]).nx:=by simp;omega
 refine⟨(ext m [l6 f.cells]).set p (l6 ({g with mday:=f.mday,L:=f.L}:G5).cells),?_,(I9 c _).set d _,by simp,by simp,λi j k=>?_,dN (I9 c _) _ d rfl⟩;simp only [G5.cells] at e ⊢;simp [-G5.iQ,f144,w9,x9,j6 c,l5 c,r9 c,l9 c,aK,r,e,s,t,u,j];rw [iF (I9 c _) _ d k,P5 c _ j]
theorem afj {m:Mem}{f g:G5}{a b l:List Int}{p:Nat}(c:m.Ok)(r:m.lim<=p)(hp:p<m.nx)(h:aX m f a b l)(q:m.get p=some (l6 g.cells))(n o:Nat):
  ∃m',l8 KW o (n+1) (.func 146) [.ptr p 0,.agg f.cells] m=some [⟨.tuple [],m'⟩]∧m'.Ok∧m'.lim=m.lim∧m.nx<=m'.nx∧(∀i,i<m.nx->i≠p->m'.get i=m.get i)∧m'.get p=some (l6 ({g with tr:=f.tr,tn:=f.tn}:G5).cells):=by
 rw [enter (sf:=f146) rfl rfl];have s:=h.a.D6;have t:=h.b.D6;have u:=h.l.D6;have j:∀i,D6 (iV i)=true:=λ_=>rfl;have e:(ext m [l6 f.cells]).get p=some (l6 g.cells):=by rw [P5 c _ hp];exact q
 have d:p<(ext m [l6 f.cells]).nx:=by simp;omega
 refine⟨(ext m [l6 f.cells]).set p (l6 ({g with tr:=f.tr,tn:=f.tn}:G5).cells),?_,(I9 c _).set d _,by simp,by simp,λi j k=>?_,dN (I9 c _) _ d rfl⟩;simp only [G5.cells] at e ⊢;simp [-G5.iQ,f146,w9,x9,j6 c,l5 c,r9 c,l9 c,aK,r,e,s,t,u,j];rw [iF (I9 c _) _ d k,P5 c _ j]
theorem abY (cf:H8)(h:Nat)(m:Mem):∀(k a b:Nat),b<2^k->∀(N:Nat),2*k+1<=N->∀(a1:d9),
  ∃ba1,T9 (λenv m k=>xQ cf h none env m k) N (nV4 (.int .u64 ((b:Nat):Int)) a1 (.int .u64 ((a:Nat):Int)) (.int .u64 0)) m []=some [⟨.exit 0,(nV4 (.int .u64 ((0:Nat):Int)) ba1 (.int .u64 (((Nat.gcd a b):Nat):Int)) (.int .u64 0)),m,[],none⟩]:=by
 have d:∀(a N:Nat) (a1:d9),T9 (λenv m k=>xQ cf h none env m k) (N+1) (nV4 (.int .u64 ((0:Nat):Int)) a1 (.int .u64 ((a:Nat):Int)) (.int .u64 0)) m []=some [⟨.exit 0,(nV4 (.int .u64 ((0:Nat):Int)) fV (.int .u64 ((a:Nat):Int)) (.int .u64 0)),m,[],none⟩]:=by intro a N a1;rw [o9];simp [xQ]
 have c:∀(a b N:Nat) (a1:d9),b≠0->T9 (λenv m k=>xQ cf h none env m k) (N+1) (nV4 (.int .u64 ((b:Nat):Int)) a1 (.int .u64 ((a:Nat):Int)) (.int .u64 0)) m []=T9 (λenv m k=>xQ cf h none env m k) N (nV4 (.int .u64 (((a%b):Nat):Int)) tV (.int .u64 ((b:Nat):Int)) (.int .u64 0)) m []:=by
  intro a b N a1 f;rw [o9];have l:¬ ((b:Nat):Int)=0:=by omega
  simp [xQ,f,CP _ a b f]
 intro k;induction k with
 | zero=>
  intro a b f N p a1;obtain⟨N,rfl⟩:∃M,N=M+1:=⟨N-1,by omega⟩;have j:b=0:=by simpa using f
  subst j;exact⟨fV,by rw [d,Nat.gcd_zero_right]⟩
 | succ k ih=>
  intro a b f N p a1;obtain⟨N,rfl⟩:∃M,N=M+2:=⟨N-2,by omega⟩;by_cases h0:b=0;subst h0;exact⟨fV,by rw [d,Nat.gcd_zero_right]⟩;by_cases hc:a%b=0;refine⟨fV,?_⟩;have e:Nat.gcd a b=b:=by rw [Nat.gcd_comm,Nat.gcd_rec,hc,Nat.gcd_zero_left]
  rw [c _ _ _ _ h0,hc,d,e];have l:a%b<b:=ah5 _ (by omega);have q:b%(a%b)<a%b:=ah5 _ (by omega);have r:b%(a%b)+a%b<=b:=by have:=azS b (a%b);have n:1<=b / (a%b):=(Nat.one_le_div_iff (by omega)).2 (by omega);have s:a%b*1<=a%b*(b / (a%b)):=Nat.mul_le_mul_left _ n;omega
  have o:b%(a%b)<2^k:=by rw [azz] at f;omega
  obtain⟨i,g⟩:=ih (a%b) (b%(a%b)) o N (by omega) (tV);refine⟨i,?_⟩;rw [c _ _ _ _ h0,c _ _ _ _ hc,g];have e:Nat.gcd (a%b) (b%(a%b))=Nat.gcd a b:=by rw [Nat.gcd_comm a b,Nat.gcd_rec b a,Nat.gcd_rec (a%b) b,Nat.gcd_comm]
  rw [e]
theorem afk (a b:Nat)(hb:b<2^64)(n c:Nat)(d:20000<=c)(m:Mem):l8 KW c (n+1) (.func 452) [.int .u64 a,.int .u64 b] m=some [⟨.int .u64 (Nat.gcd a b:Nat),m⟩]:=by rw [enter (sf:=akl) rfl rfl];obtain⟨e,g⟩:=abY (l8 KW c n) c m 64 a b hb c (by omega) uV;simp [akl] at g ⊢;simp [g]
theorem wrap_u64 {n:Int}(h:0<=n)(h':n<18446744073709551616):IntKind.u64.wrap n=n:=by simp [IntKind.wrap,IntKind.bits,IntKind.signed];omega
theorem Vq (a:Int)(h:-9223372036854775808<=a)(h':a<9223372036854775808)(n b:Nat)(m:Mem):l8 KW b (n+1) (.func 451) [iV a] m=some [⟨.int .u64 (a.natAbs:Nat),m⟩]:=by
 rw [enter (sf:=aeK) rfl rfl];by_cases h0:a<0;have e:iY .u64 (0-iY .u64 a)=((a.natAbs:Nat):Int):=by show IntKind.u64.wrap (0-IntKind.u64.wrap a)=_;simp [IntKind.wrap,IntKind.bits,IntKind.signed];omega
 simp only [Int.zero_sub] at e;simp [aeK,h0,e];have e:iY .u64 a=((a.natAbs:Nat):Int):=by show IntKind.u64.wrap a=_;rw [wrap_u64 (by omega) (by omega)];omega
 simp [aeK,h0,e]
def NH (a b:Int):Bool:=decide (1<=b)&&(decide (b<=2147483647)&&(decide (((a.natAbs:Nat):Int)<=2147483647)&&decide (Nat.gcd a.natAbs b.natAbs=1)))
def Z0 (a:Int):Prop:=-9223372036854775808<=a∧a<9223372036854775808
theorem afl (a b:Int)(k:Z0 a)(hb:Z0 b)(n h:Nat)(j:20000<=h)(m:Mem)(c:m.Ok):l8 KW h (n+2) (.func 388) [.agg [iV a,iV b]] m=some [⟨.bool (NH a b),ext m [l6 [iV a,iV b]]⟩]:=by
 rw [enter (sf:=Ti) rfl rfl];have d:=Vq a k.1 k.2 n h;have e:=Vq b hb.1 hb.2 n h;have f:=afk a.natAbs b.natAbs (by have:=hb.1;have:=hb.2;omega) n h j;have i:bM 100 (iV b) (iV b)=true:=P8 _ _ _;have g:decide (((Nat.gcd a.natAbs b.natAbs:Nat):Int)=1)=decide (Nat.gcd a.natAbs b.natAbs=1):=by rw [adE];simp;omega
 cases h0:decide (1<=b) with
 | true=>
  cases h1:decide (b<=2147483647) with
  | true=>
   cases h2:decide (((a.natAbs:Nat):Int)<=2147483647) with
   | true=>
    cases h3:decide (Nat.gcd a.natAbs b.natAbs=1) with
    | true=>simp [Ti,w9,x9,j6 c,l5 c,r9 c,l9 c,D6,d,e,f,i,g,NH,h0,h1,h2,h3]
    | false=>simp [Ti,w9,x9,j6 c,l5 c,r9 c,l9 c,D6,d,e,f,i,g,NH,h0,h1,h2,h3]
   | false=>simp [Ti,w9,x9,j6 c,l5 c,r9 c,l9 c,D6,d,e,f,i,g,NH,h0,h1,h2]
  | false=>simp [Ti,w9,x9,j6 c,l5 c,r9 c,l9 c,D6,d,e,f,i,g,NH,h0,h1]
 | false=>simp [Ti,w9,x9,j6 c,l5 c,r9 c,l9 c,D6,d,e,f,i,g,NH,h0]
def G5.gu (f:G5):List d9:=[iV f.gid,iV f.made,iV f.nom,iV f.tlo,iV f.thi,iV f.gn,iV f.gd,iV f.wear]
def aR (f:G5):Bool:=(NH f.gn f.gd&&((decide (-1000<=f.gn)&&decide (f.gn<=1000))&&(decide (f.gd<=100)&&((decide (1<=f.gid)&&decide (f.gid<=1099511627776))&&((decide (0<=f.made)&&decide (f.made<=20000))&&((decide (1<=f.nom)&&decide (f.nom<=1125899906842624))&&((decide (-1073741824<=f.tlo)&&decide (f.tlo<=f.thi)&&decide (f.thi<=1073741824))&&(decide (0<=f.wear)&&decide (f.wear<=1048576)))))))))
theorem afm (f:G5)(h:Z0 f.gn)(hb:Z0 f.gd)(n e:Nat)(g:20000<=e)(m:Mem)(a:m.Ok):∃m',l8 KW e (n+3) (.func 294) [.agg f.gu] m=some [⟨.bool (aR f),m'⟩]∧Ext m m':=by
 rw [enter (sf:=f294) rfl rfl];have b:=afl f.gn f.gd h hb n e g (ext m [l6 f.gu]) (I9 a _);have c:=Vm (n+1) e f.tlo f.thi (-1073741824) 1073741824 (ext m [l6 f.gu,l6 [iV f.gn,iV f.gd]]) (I9 a _);have d:decide (100<f.gd)=!decide (f.gd<=100):=by rw [adE];simp
 simp only [G5.gu] at b c;cases h0:NH f.gn f.gd with
 | true=>
  cases h1:(decide (-1000<=f.gn)&&decide (f.gn<=1000)) with
  | true=>
   cases h2:decide (f.gd<=100) with
   | true=>
    cases h3:(decide (1<=f.gid)&&decide (f.gid<=1099511627776)) with
    | true=>
     cases h4:(decide (0<=f.made)&&decide (f.made<=20000)) with
     | true=>
      cases h5:(decide (1<=f.nom)&&decide (f.nom<=1125899906842624)) with
      | true=>
       cases h6:(decide (-1073741824<=f.tlo)&&decide (f.tlo<=f.thi)&&decide (f.thi<=1073741824)) with
       | true=>
        cases h7:(decide (0<=f.wear)&&decide (f.wear<=1048576)) with
        | true=>exact⟨ext m [l6 f.gu,l6 [iV f.gn,iV f.gd],l6 [iV f.tlo,iV f.thi]],by simp [f294,G5.gu,w9,x9,j6 a,l5 a,r9 a,l9 a,D6,b,c,d,aD,dn,aR,h0,h1,h2,h3,h4,h5,h6,h7],C8 a _⟩
        | false=>exact⟨ext m [l6 f.gu,l6 [iV f.gn,iV f.gd],l6 [iV f.tlo,iV f.thi]],by simp [f294,G5.gu,w9,x9,j6 a,l5 a,r9 a,l9 a,D6,b,c,d,aD,dn,aR,h0,h1,h2,h3,h4,h5,h6,h7],C8 a _⟩
       | false=>exact⟨ext m [l6 f.gu,l6 [iV f.gn,iV f.gd],l6 [iV f.tlo,iV f.thi]],by simp [f294,G5.gu,w9,x9,j6 a,l5 a,r9 a,l9 a,D6,b,c,d,aD,dn,aR,h0,h1,h2,h3,h4,h5,h6],C8 a _⟩
      | false=>exact⟨ext m [l6 f.gu,l6 [iV f.gn,iV f.gd]],by simp [f294,G5.gu,w9,x9,j6 a,l5 a,r9 a,l9 a,D6,b,c,d,aD,dn,aR,h0,h1,h2,h3,h4,h5],C8 a _⟩
     | false=>exact⟨ext m [l6 f.gu,l6 [iV f.gn,iV f.gd]],by simp [f294,G5.gu,w9,x9,j6 a,l5 a,r9 a,l9 a,D6,b,c,d,aD,dn,aR,h0,h1,h2,h3,h4],C8 a _⟩
    | false=>exact⟨ext m [l6 f.gu,l6 [iV f.gn,iV f.gd]],by simp [f294,G5.gu,w9,x9,j6 a,l5 a,r9 a,l9 a,D6,b,c,d,aD,dn,aR,h0,h1,h2,h3],C8 a _⟩
   | false=>
    cases h3:(decide (1<=f.gid)&&decide (f.gid<=1099511627776)) with
    | true=>
     cases h4:(decide (0<=f.made)&&decide (f.made<=20000)) with
     | true=>
      cases h5:(decide (1<=f.nom)&&decide (f.nom<=1125899906842624)) with
      | true=>
       cases h6:(decide (-1073741824<=f.tlo)&&decide (f.tlo<=f.thi)&&decide (f.thi<=1073741824)) with
       | true=>exact⟨ext m [l6 f.gu,l6 [iV f.gn,iV f.gd],l6 [iV f.tlo,iV f.thi]],by simp [f294,G5.gu,w9,x9,j6 a,l5 a,r9 a,l9 a,D6,b,c,d,aD,dn,aR,h0,h1,h2,h3,h4,h5,h6],C8 a _⟩
       | false=>exact⟨ext m [l6 f.gu,l6 [iV f.gn,iV f.gd],l6 [iV f.tlo,iV f.thi]],by simp [f294,G5.gu,w9,x9,j6 a,l5 a,r9 a,l9 a,D6,b,c,d,aD,dn,aR,h0,h1,h2,h3,h4,h5,h6],C8 a _⟩
      | false=>exact⟨ext m [l6 f.gu,l6 [iV f.gn,iV f.gd]],by simp [f294,G5.gu,w9,x9,j6 a,l5 a,r9 a,l9 a,D6,b,c,d,aD,dn,aR,h0,h1,h2,h3,h4,h5],C8 a _⟩
     | false=>exact⟨ext m [l6 f.gu,l6 [iV f.gn,iV f.gd]],by simp [f294,G5.gu,w9,x9,j6 a,l5 a,r9 a,l9 a,D6,b,c,d,aD,dn,aR,h0,h1,h2,h3,h4],C8 a _⟩
    | false=>exact⟨ext m [l6 f.gu,l6 [iV f.gn,iV f.gd]],by simp [f294,G5.gu,w9,x9,j6 a,l5 a,r9 a,l9 a,D6,b,c,d,aD,dn,aR,h0,h1,h2,h3],C8 a _⟩
  | false=>
   cases h3:(decide (1<=f.gid)&&decide (f.gid<=1099511627776)) with
   | true=>
    cases h4:(decide (0<=f.made)&&decide (f.made<=20000)) with
    | true=>
     cases h5:(decide (1<=f.nom)&&decide (f.nom<=1125899906842624)) with
     | true=>
      cases h6:(decide (-1073741824<=f.tlo)&&decide (f.tlo<=f.thi)&&decide (f.thi<=1073741824)) with
      | true=>exact⟨ext m [l6 f.gu,l6 [iV f.gn,iV f.gd],l6 [iV f.tlo,iV f.thi]],by simp [f294,G5.gu,w9,x9,j6 a,l5 a,r9 a,l9 a,D6,b,c,d,aD,dn,aR,h0,h1,h3,h4,h5,h6],C8 a _⟩
      | false=>exact⟨ext m [l6 f.gu,l6 [iV f.gn,iV f.gd],l6 [iV f.tlo,iV f.thi]],by simp [f294,G5.gu,w9,x9,j6 a,l5 a,r9 a,l9 a,D6,b,c,d,aD,dn,aR,h0,h1,h3,h4,h5,h6],C8 a _⟩
     | false=>exact⟨ext m [l6 f.gu,l6 [iV f.gn,iV f.gd]],by simp [f294,G5.gu,w9,x9,j6 a,l5 a,r9 a,l9 a,D6,b,c,d,aD,dn,aR,h0,h1,h3,h4,h5],C8 a _⟩
    | false=>exact⟨ext m [l6 f.gu,l6 [iV f.gn,iV f.gd]],by simp [f294,G5.gu,w9,x9,j6 a,l5 a,r9 a,l9 a,D6,b,c,d,aD,dn,aR,h0,h1,h3,h4],C8 a _⟩
   | false=>exact⟨ext m [l6 f.gu,l6 [iV f.gn,iV f.gd]],by simp [f294,G5.gu,w9,x9,j6 a,l5 a,r9 a,l9 a,D6,b,c,d,aD,dn,aR,h0,h1,h3],C8 a _⟩
 | false=>
  cases h3:(decide (1<=f.gid)&&decide (f.gid<=1099511627776)) with
  | true=>
   cases h4:(decide (0<=f.made)&&decide (f.made<=20000)) with
   | true=>
    cases h5:(decide (1<=f.nom)&&decide (f.nom<=1125899906842624)) with
    | true=>
     cases h6:(decide (-1073741824<=f.tlo)&&decide (f.tlo<=f.thi)&&decide (f.thi<=1073741824)) with
     | true=>exact⟨ext m [l6 f.gu,l6 [iV f.gn,iV f.gd],l6 [iV f.tlo,iV f.thi]],by simp [f294,G5.gu,w9,x9,j6 a,l5 a,r9 a,l9 a,D6,b,c,d,aD,dn,aR,h0,h3,h4,h5,h6],C8 a _⟩
     | false=>exact⟨ext m [l6 f.gu,l6 [iV f.gn,iV f.gd],l6 [iV f.tlo,iV f.thi]],by simp [f294,G5.gu,w9,x9,j6 a,l5 a,r9 a,l9 a,D6,b,c,d,aD,dn,aR,h0,h3,h4,h5,h6],C8 a _⟩
    | false=>exact⟨ext m [l6 f.gu,l6 [iV f.gn,iV f.gd]],by simp [f294,G5.gu,w9,x9,j6 a,l5 a,r9 a,l9 a,D6,b,c,d,aD,dn,aR,h0,h3,h4,h5],C8 a _⟩
   | false=>exact⟨ext m [l6 f.gu,l6 [iV f.gn,iV f.gd]],by simp [f294,G5.gu,w9,x9,j6 a,l5 a,r9 a,l9 a,D6,b,c,d,aD,dn,aR,h0,h3,h4],C8 a _⟩
  | false=>exact⟨ext m [l6 f.gu,l6 [iV f.gn,iV f.gd]],by simp [f294,G5.gu,w9,x9,j6 a,l5 a,r9 a,l9 a,D6,b,c,d,aD,dn,aR,h0,h3],C8 a _⟩
def aS (id:Nat):List d9:=[i0,i0,.slice id 0 1 1,nS,nS,nS,nS]
@[simp] theorem aAd (f:G5):f.gu.length=8:=id rfl
@[simp] theorem aGF (f:G5):f.gu.take 8=f.gu:=id rfl
@[simp] theorem aGG (f:G5)(h:0<f.gu.length):f.gu[0]'h=iV f.gid:=id rfl
@[simp] theorem aGH (f:G5)(h:1<f.gu.length):f.gu[1]'h=iV f.made:=id rfl
@[simp] theorem aAe (f:G5):I6 f.gu=true:=id rfl
@[simp] theorem WX (f:G5):[d9.int .i64 f.gid,iV f.made,iV f.nom,iV f.tlo,iV f.thi,iV f.gn,iV f.gd,iV f.wear]=f.gu:=id rfl
theorem afn (f:G5)(i:Z0 f.gn)(hb:Z0 f.gd)(n c:Nat)(e:20000<=c)(m:Mem)(b:m.Ok)(h:m.lim<=m.nx)(id:Nat)(g:id<m.nx)(j:m.get id=some (l6 f.gu)):
  ∃m',l8 KW c (n+4) (.func 229) [.agg (aS id)] m=some [⟨iV (bif aR f then 0 else 1),m'⟩]∧Ext m m':=by
 rw [enter (sf:=f229) rfl rfl];obtain⟨N,rfl⟩:∃N,c=N+2:=⟨c-2,by omega⟩;have a:(ext m [l6 (aS id)]).get id=some (l6 f.gu):=by rw [P5 b _ g];exact j
 have l:l6 [d9.int .i64 0,i0,i0,i0,i0,i0,i0,i0]=l6 [d9.int .i64 0,i0,i0,i0,i0,i0,i0,i0]:=rfl;obtain⟨k,d,E1⟩:=afm f i hb n (N+2) e (ext m [l6 (aS id),l6 f.gu]) (I9 b _);refine⟨k,?_,(C8 b _).trans E1⟩;simp only [aS] at a d ⊢;cases hgb:aR f<;>rw [hgb] at d
 simp [f229,Ns,o9,eO b h,D6,a,d];simp [f229,Ns,o9,eO b h,D6,a,d,show sP 1=1 from dM (by decide) (by decide)]
theorem afo (f:G5)(n b:Nat)(i:20000<=b)(m:Mem)(g:m.Ok)(h:m.lim<=m.nx)(id:Nat)(e:id<m.nx)(j:m.get id=some (l6 f.gu)):
  ∃p m',l8 KW b (n+1) (.func 230) [.agg (aS id)] m=some [⟨.map p,m'⟩]∧Ext m m':=by
 rw [enter (sf:=f230) rfl rfl];obtain⟨N,rfl⟩:∃N,b=N+2:=⟨b-2,by omega⟩;have d:∀c,Nat.blt (m.nx+c) m.lim=false:=λc=>by have:=UU h [] c;rwa [zA] at this
 have a:(ext m [l6 (aS id),.map []]).get id=some (l6 f.gu):=by rw [P5 g _ e];exact j
 refine⟨m.nx+1,ext m [l6 (aS id),.map [(iV f.gid,.agg f.gu)],l6 f.gu],?_,C8 g _⟩;simp only [aS] at a ⊢;simp [f230,SX,o9,eO g h,D6,a,Ba,d,Nh,uW,U8,show sP 1=1 from dM (by decide) (by decide)]
theorem afp (n a:Nat)(m:Mem)(c:m.Ok)(b:m.lim<=m.nx)(id p:Nat):
  l8 KW a (n+1) (.func 231) [.agg (aS id),.map p] m=some [⟨.func (.func 298) [] [.ptr m.nx 0,.ptr (m.nx+2) 0,.ptr (m.nx+1) 0],ext m [l6 (aS id),l6 [.map p],l6 [.func (.func 295) [] [.ptr (m.nx+1) 0]]]⟩]:=by
 rw [enter (sf:=f231) rfl rfl];simp only [aS];simp [f231,eO c b,D6]
theorem afq (n a:Nat)(b:20000<=a)(m:Mem)(id p q r:Nat)(y:d9)(hp:m.get p=some (l6 (aS id))):
  l8 KW a (n+1) (.func 298) [y,.ptr p 0,.ptr q 0,.ptr r 0] m=some [⟨.tuple [],m⟩]:=by
 rw [enter (sf:=f298) rfl rfl];obtain⟨N,rfl⟩:∃N,a=N+2:=⟨a-2,by omega⟩;simp only [aS] at hp;simp [f298,EI,Jf,Nu,Td,o9,hp]
theorem al5 (n c:Nat)(m:Mem):l8 KW c (n+1) (.func 344) [.int .u64 1] m=some [⟨iV 1,m⟩]:=by
 rw [enter (sf:=f344) rfl rfl];have d:iY .u8 1=1:=by decide +kernel
 have e:iY .i64 1=1:=by decide +kernel
 have f:sP 1=1:=dM (by decide) (by decide);have g:∀(x:OF) (a:T d9) b,x b a=.int .u8 1->vI (au (.str [0,1,2,2,3,3,3,3,4,4,4,4,4,4,4,4,5,5,5,5,5,5,5,5,5,5,5,5,5,5,5,5,6,6,6,6,6,6,6,6,6,6,6,6,6,6,6,6,6,6,6,6,6,6,6,6,6,6,6,6,6,6,6,6,7,7,7,7,7,7,7,7,7,7,7,7,7,7,7,7,7,7,7,7,7,7,7,7,7,7,7,7,7,7,7,7,7,7,7,7,7,7,7,7,7,7,7,7,7,7,7,7,7,7,7,7,7,7,7,7,7,7,7,7,7,7,7,7,8,8,8,8,8,8,8,8,8,8,8,8,8,8,8,8,8,8,8,8,8,8,8,8,8,8,8,8,8,8,8,8,8,8,8,8,8,8,8,8,8,8,8,8,8,8,8,8,8,8,8,8,8,8,8,8,8,8,8,8,8,8,8,8,8,8,8,8,8,8,8,8,8,8,8,8,8,8,8,8,8,8,8,8,8,8,8,8,8,8,8,8,8,8,8,8,8,8,8,8,8,8,8,8,8,8,8,8,8,8,8,8,8,8,8,8,8,8,8,8,8,8,8,8,8,8,8,8])) x b a=some (.int .u8 1):=by intro x a b h;show iR (x b a) _=_;rw [h];rfl
 simp [f344,d,e,f,g]
theorem al6 (n a:Nat)(m:Mem):l8 KW a (n+2) (.func 270) [.int .u64 1] m=some [⟨iV 1,m⟩]:=by rw [enter (sf:=f270) rfl rfl];simp [f270,al5]
theorem al7 (v:d9)(n a:Nat)(b:20000<=a)(m:Mem):l8 KW a (n+1) (.func 373) [v,i0,iV 1] m=some [⟨.tuple [],m⟩]:=by rw [enter (sf:=akg) rfl rfl];obtain⟨N,rfl⟩:∃N,a=N+2:=⟨a-2,by omega⟩;simp [akg,Tg,o9,show sP 1=1 from dM (by decide) (by decide)]
theorem al8 (v:d9)(n a:Nat)(b:20000<=a)(m:Mem):l8 KW a (n+2) (.func 288) [v,i0,iV 1,iV 1] m=some [⟨.tuple [],m⟩]:=by rw [enter (sf:=f288) rfl rfl];obtain⟨N,rfl⟩:∃N,a=N+2:=⟨a-2,by omega⟩;have c:=al7 v n (N+2) b m;simp [f288,Tc,o9,show sP 1=1 from dM (by decide) (by decide),c]
theorem al9 (id c:Nat)(n a:Nat)(b:20000<=a)(m:Mem):l8 KW a (n+3) (.func 217) [.slice id 0 1 c] m=some [⟨.tuple [],m⟩]:=by
 rw [enter (sf:=f217) rfl rfl];have d:=al8 (.slice id 0 1 c) n a b m;have e:iY .u64 1=1:=by decide +kernel
 simp [f217,e,al6,d]
theorem ala (id c:Nat)(n a:Nat)(b:20000<=a)(m:Mem):l8 KW a (n+1) (.func 397) [.slice id 0 1 c] m=some [⟨.slice id 0 1 c,m⟩]:=by rw [enter (sf:=akj) rfl rfl];simp [akj]
theorem afr (f:G5)(n b:Nat)(a:20000<=b)(m:Mem)(d:m.Ok)(c:m.lim<=m.nx)(id:Nat):
  l8 KW b (n+4) (.func 301) [.agg (aS id),.agg f.gu] m=some [⟨.slice (m.nx+2) 0 1 1,ext m [l6 (aS id),l6 f.gu,l6 [iV f.made]]⟩]:=by
 rw [enter (sf:=f301) rfl rfl];obtain⟨N,rfl⟩:∃N,b=N+2:=⟨b-2,by omega⟩;simp only [aS];simp [f301,Nv,Te,o9,eO d c,D6,dx,al9 _ _ n (N+2) a,ala _ _ (n+2) (N+2) a]
theorem afs (a b:d9)(m:Mem)(f:m.Ok)(id:Nat)(d:m.get id=some (l6 [a,b])):bS m 2 1 (.slice id 0 1 1)=some [a,b]:=by show V4 m id 0 (Nat.mul 1 2)=_;show aO (m.get id) (λe k c=>J8 e k c 2 0)=_;rw [d];kernel_rfl
theorem abZ (a b:d9)(m:Mem)(d:m.Ok)(id:Nat)(c:m.get id=some (l6 [a,b]))(s x:OF)(cf:H8)(ls:List d9)(env:T d9)(hs:s ls env=nS)(e:x ls env=.slice id 0 1 1):
  sQ 2 16 s x cf ls env m=some [⟨.sliceU m.nx 0 1 2,m.new (l6 [a,b])⟩]:=by
 show ob (lenOf (x ls env)) (λn=>ob (bS m 2 n (x ls env)) λnew=>oz m 2 16 n new (s ls env))=_;rw [e,hs];show ob (bS m 2 1 (.slice id 0 1 1)) _=_;rw [afs a b m d id c];rfl
theorem aft (f:G5)(n e:Nat)(h:20000<=e)(m:Mem)(b:m.Ok)(o:m.lim<=m.nx)(id:Nat)(i:id<m.nx)(l:m.get id=some (l6 f.gu)):
  ∃p m',l8 KW e (n+5) (.func 232) [.agg (aS id)] m=some [⟨.sliceU p 0 1 2,m'⟩]∧Ext m m':=by
 rw [enter (sf:=f232) rfl rfl];obtain⟨N,rfl⟩:∃N,e=N+2:=⟨e-2,by omega⟩;have c:(ext m [l6 (aS id)]).get id=some (l6 f.gu):=by rw [P5 b _ i];exact l
 have j:=afr f n (N+2) h (ext m [l6 (aS id),l6 f.gu]) (I9 b _) (by simp;omega) id;have k:∀(s x:OF) g d a,s d a=nS->x d a=.slice (m.nx+5) 0 1 1->
   sQ 2 16 s x g d a (ext m [l6 (aS id),l6 f.gu,l6 (aS id),l6 f.gu,l6 [iV f.made],l6 [iV f.gid,iV f.made]]) =
    some [⟨.sliceU (m.nx+6) 0 1 2,ext m [l6 (aS id),l6 f.gu,l6 (aS id),l6 f.gu,l6 [iV f.made],l6 [iV f.gid,iV f.made],l6 [iV f.gid,iV f.made]]⟩]:=by
  intro s x g d a q r;rw [abZ (iV f.gid) (iV f.made) _ (I9 b _) (m.nx+5) (by rw [l5 b];rfl) s x g d a q r,← nP];simp
 refine⟨m.nx+6,ext m [l6 (aS id),l6 f.gu,l6 (aS id),l6 f.gu,l6 [iV f.made],l6 [iV f.gid,iV f.made],l6 [iV f.gid,iV f.made]],?_,C8 b _⟩;simp only [aS] at c j k ⊢;simp [f232,Nt,SY,o9,eO b o,D6,dx,ada,c,j,k,show sP 1=1 from dM (by decide) (by decide)]
end
end Go.Proofs.YtfnlnpllpfhhnaaGreatDoor.TT
