/- Functions that the law RoomTexts calls, walked: what each answers; conditions: the memory holds what the arguments say. -/
import Derived.Test.YtfnlnpllpfhhnaaGreatDoorYB4
import Derived.Lib.ItoaMem
import Derived.Lib.AtoiAll
import Derived.Lib.SpaceU
set_option linter.unusedSimpArgs false
set_option linter.unusedVariables false
namespace Go.Proofs.YtfnlnpllpfhhnaaGreatDoor.TT
open Go Go.AM
noncomputable section
def OC (f:Nat):Bool:=Nat.beq f 8||(Nat.beq f 83||(Nat.beq f 93||Nat.beq f 147))
def auv (f:FuncId):Option SFn:=(fns f).map fun sf=>{sf with pure:=OC f}
def Bp (s:List UInt8):Ans:=match Lib.atoiAll s with
 | .ok v=>⟨.tuple [.int .i64 v,.nilIface],[]⟩
 | .range=>⟨.tuple [.int .i64 (Lib.atoiSat s),.iface 330 (.ptr base.next 0)],[.dead]⟩
 | _=>⟨.tuple [.int .i64 0,.iface 330 (.ptr base.next 0)],[.dead]⟩
def Fz (s:List UInt8):Ans:=⟨.slice base.next 0 (Lib.fieldsD s).length (Lib.fieldsD s).length,[.cells 1 ((Lib.fieldsD s).map fun w=>[j5.str w])]⟩
def akl (f:FuncId)(args:List j5)(bs:List NB):Option Ans:=match bs with
 | []=>match args with
  | [.int .i64 n]=>if f=147∧-9223372036854775808≤n∧n≤9223372036854775807 then some ⟨.str (Lib.itoa n),[]⟩ else none
  | [.str s]=>if s.length<1000000 then (if f=93 then some (Bp s) else if f=83 then some (Fz s) else none) else none
  | _=>none
 | _=>none
def OD (f:FuncId)(args:List j5)(bs:List NB):Option Ans:=if f=8 then sumOf [⟨8,[],[],.bool true,[]⟩] f args bs else akl f args bs
def KW:Known:=⟨auv,base,OD⟩
theorem enter {n fu:Nat}{f:FuncId}{sf:SFn}{vs:List j5}{m:Mem}(h:fns f=some sf)(hf:OC f=false):
  D6 KW fu (n+1) (.func f) vs m=C8 (D6 KW fu n) (Ch KW (D6 KW fu n) fu) fu sf vs m:=by
 rw [iw]
 have h:KW.fns f=some {sf with pure:=false}:=by
  show (fns f).map _=_
  rw [h,hf];rfl
 simp only [h,O0,aY]
 rfl
theorem LA {n fu:Nat}{f:FuncId}{sf:SFn}{vs:List j5}{m:Mem}(h:fns f=some sf)(hf:OC f=true):
  D6 KW fu (n+1) (.func f) vs m=qD KW (D6 KW fu n) fu f {sf with pure:=true} vs m:=by
 rw [iw]
 have h:KW.fns f=some {sf with pure:=true}:=by
  show (fns f).map _=_
  rw [h,hf];rfl
 simp only [h,O0]
 rfl
theorem TA (i:Int)(h0:-9223372036854775808≤i)(h1:i≤9223372036854775807)(n fu:Nat)(m:Mem):D6 KW fu (n+1) (.func 147) [.int .i64 i] m=some [⟨.str (Lib.itoa i),m⟩]:=by
 rw [LA (sf:=f147) rfl rfl,Fy (K:=KW) (c:=⟨[],[.int .i64 i],[]⟩) (a:=⟨.str (Lib.itoa i),[]⟩) (oC m rfl fun _=>rfl)
  (by show OD 147 [.int .i64 i] []=_;rw [OD,if_neg (by decide)];exact if_pos ⟨rfl,h0,h1⟩)]
 rfl
theorem LB (s:List UInt8)(hs:s.length<1000000)(n fu:Nat){m:Mem}(hm:m.Ok):∃v m',D6 KW fu (n+1) (.func 83) [.str s] m=some [⟨v,m'⟩]∧Ext m m'∧Ej m' v (strs (Lib.fieldsD s)):=by
 refine⟨.slice m.next 0 (Lib.fieldsD s).length (Lib.fieldsD s).length,m.new (eD (.cells 1 ((Lib.fieldsD s).map fun w=>[j5.str w]))),?_,(Ext.refl hm).new _,m.next,0,_,by rw [R3],by rw [R3];exact D5 _,by simp,.inr ⟨len' ((Lib.fieldsD s).map fun w=>[j5.str w]),T.ofList ((Lib.fieldsD s).map fun w=>[j5.str w]),?_,?_,fun i hi=>?_⟩⟩
 ·rw [LA (sf:=f83) rfl rfl,Fy (K:=KW) (c:=⟨[],[.str s],[]⟩) (a:=Fz s) (oC m rfl fun _=>rfl)
   (by show OD 83 [.str s] []=_;rw [OD,if_neg (by decide)];show (if s.length<1000000 then _ else _)=_;rw [if_pos hs,if_neg (by decide),if_pos rfl])]
  show ob (ob (fC base.next [] m.next base.next) fun j=>some (j5.slice j 0 (Lib.fieldsD s).length (Lib.fieldsD s).length)) (fun v=>ob (ob (ob (oL (fC base.next [] m.next) ((Lib.fieldsD s).map fun w=>[j5.str w])) fun x=>some (NB.cells 1 x)) fun x=>ob (some []) fun y=>some (x::y)) fun bs=>one v (layAll bs m))=_
  rw [zT,Bj];rfl
 ·rw [Mem.T9 hm,if_pos rfl];rfl
 ·rw [Q5];simp [strs]
 ·have hi':i<(Lib.fieldsD s).length:=by rwa [R3] at hi
  rw [avS,T.aS,awe,U1 hi']
  simp [strs]
theorem TB (s:List UInt8)(hs:s.length<1000000)(n fu:Nat)(m:Mem)(hm:m.Ok):∃v e m',D6 KW fu (n+1) (.func 93) [.str s] m=some [⟨.tuple [.int .i64 v,e],m'⟩]∧Ext m m'∧
  ((Lib.atoiAll s=.ok v∧e=.nilIface)∨((∀x,Lib.atoiAll s≠.ok x)∧∃p,e=.iface 330 (.ptr p 0))):=by
 have key:D6 KW fu (n+1) (.func 93) [.str s] m=ob (kQ (fC base.next [] m.next) (Bp s).v) fun v=>ob (uV (fC base.next [] m.next) (Bp s).bs) fun bs=>one v (layAll bs m):=by
  rw [LA (sf:=f93) rfl rfl,Fy (K:=KW) (c:=⟨[],[.str s],[]⟩) (a:=Bp s) (oC m rfl fun _=>rfl)
   (by show OD 93 [.str s] []=_;rw [OD,if_neg (by decide)];show (if s.length<1000000 then _ else _)=_;rw [if_pos hs,if_pos rfl])]
  rfl
 have bad:∀k:Int,ob (kQ (fC base.next [] m.next) (.tuple [.int .i64 k,.iface 330 (.ptr base.next 0)])) (fun v=>ob (uV (fC base.next [] m.next) [.dead]) fun bs=>one v (layAll bs m))=some [⟨.tuple [.int .i64 k,.iface 330 (.ptr m.next 0)],m.new .dead⟩]:=fun k=>by
  show ob (ob (ob (some (j5.int .i64 k)) fun x=>ob (ob (ob (ob (fC base.next [] m.next base.next) fun j=>some (j5.ptr j 0)) fun x=>some (j5.iface 330 x)) fun x=>ob (some []) fun y=>some (x::y)) fun y=>some (x::y)) fun x=>some (j5.tuple x)) (fun v=>ob (some [NB.dead]) fun bs=>one v (layAll bs m))=_
  rw [zT];rfl
 cases h:Lib.atoiAll s with
 | ok v=>
  refine⟨v,.nilIface,m,?_,Ext.refl hm,.inl ⟨rfl,rfl⟩⟩
  rw [key];simp only [Bp,h];rfl
 | range=>
  refine⟨Lib.atoiSat s,.iface 330 (.ptr m.next 0),m.new .dead,?_,(Ext.refl hm).new _,.inr ⟨(fun x (hx:Lib.NumEnd.range=.ok x)=>by cases hx),m.next,rfl⟩⟩
  rw [key];simp only [Bp,h];exact bad _
 | _=>
  refine⟨0,.iface 330 (.ptr m.next 0),m.new .dead,?_,(Ext.refl hm).new _,.inr ⟨(by intro x hx;cases hx),m.next,rfl⟩⟩
  rw [key];simp only [Bp,h];exact bad 0
attribute [simp] I J S U Z A V tt ff zaa zab zal zas zaw zb7 zdM zmF
theorem O6 {m:Mem}(hm:m.Ok)(hl:m.lim≤m.next):(∀l:List Blk,(ext m l).get m.next=l[0]?)∧(∀(l:List Blk) (c:Nat),(ext m l).get (m.next+c)=l[c]?)∧
  (∀(β:Type) (l:List Blk) (c off:Nat) (vs:List j5) (k:Mem→Option β),storeAt (ext m l) (m.next+c) off vs k=bi (O7 vs) (ob (stB l[c]? off vs) fun b=>k (ext m (l.set c b))) none)∧
  (∀(β:Type) (l:List Blk) (off:Nat) (vs:List j5) (k:Mem→Option β),storeAt (ext m l) m.next off vs k=bi (O7 vs) (ob (stB l[0]? off vs) fun b=>k (ext m (l.set 0 b))) none)∧
  (∀(l:List Blk) (c:Nat) (b:Blk),c<l.length→(ext m l).set (m.next+c) b=ext m (l.set c b))∧∀(l:List Blk) (b:Blk),0<l.length→(ext m l).set m.next b=ext m (l.set 0 b):=
 ⟨l5 hm,l8 hm,fun _=>rD hm hl,fun _=>kG hm hl,A8 hm,w9 hm⟩
@[simp] abbrev zr:List j5:=[.int .i64 0,.int .i64 0,.int .i64 0,.int .i64 0,.int .i64 0,.int .i64 0,.int .i64 0,.int .i64 0,.int .i64 0,.int .i64 0,.int .i64 0,.int .i64 0,.int .i64 0,.int .i64 0,.int .i64 0,.int .i64 0,.int .i64 0,.int .i64 0,.int .i64 0,.int .i64 0,.int .i64 0,.int .i64 0,.nilSlice,.nilSlice,.int .i64 0,.int .i64 0,.int .i64 0,.int .i64 0,.int .i64 0,.nilSlice,.int .i64 0,.int .i64 0]
@[simp] abbrev zK (a b c d:Int):List j5:=[.int .i64 a,.int .i64 b,.int .i64 c,.int .i64 d,.int .i64 0,.int .i64 0,.int .i64 0,.int .i64 0,.int .i64 0,.int .i64 0,.int .i64 0,.int .i64 0,.int .i64 0,.int .i64 0,.int .i64 0,.int .i64 0,.int .i64 0,.int .i64 0,.int .i64 0,.int .i64 0,.int .i64 0,.int .i64 0,.nilSlice,.nilSlice,.int .i64 0,.int .i64 0,.int .i64 0,.int .i64 0,.int .i64 0,.nilSlice,.int .i64 0,.int .i64 0]
structure Fct where
 room:Int
 no:Int
 known:Int
 kind:Int
 flo:Int
 fhi:Int
 gid:Int
 made:Int
 nom:Int
 tlo:Int
 thi:Int
 gn:Int
 gd:Int
 wear:Int
 ug:Int
 ud:Int
 lg:Int
 ll:Int
 lh:Int
 lw:Int
 cid:Int
 cday:Int
 A:j5
 B:j5
 diff:Int
 err:Int
 hlo:Int
 hhi:Int
 mday:Int
 L:j5
 tr:Int
 tn:Int
def Fct.cells (f:Fct):List j5:=[j5.int .i64 f.room,j5.int .i64 f.no,j5.int .i64 f.known,j5.int .i64 f.kind,j5.int .i64 f.flo,j5.int .i64 f.fhi,j5.int .i64 f.gid,j5.int .i64 f.made,j5.int .i64 f.nom,j5.int .i64 f.tlo,j5.int .i64 f.thi,j5.int .i64 f.gn,j5.int .i64 f.gd,j5.int .i64 f.wear,j5.int .i64 f.ug,j5.int .i64 f.ud,j5.int .i64 f.lg,j5.int .i64 f.ll,j5.int .i64 f.lh,j5.int .i64 f.lw,j5.int .i64 f.cid,j5.int .i64 f.cday,f.A,f.B,j5.int .i64 f.diff,j5.int .i64 f.err,j5.int .i64 f.hlo,j5.int .i64 f.hhi,j5.int .i64 f.mday,f.L,j5.int .i64 f.tr,j5.int .i64 f.tn]
@[simp] theorem Fct.len (f:Fct):f.cells.length=32:=id rfl
@[simp] theorem Fct.c0 (f:Fct):f.cells[0]?=some (j5.int .i64 f.room):=id rfl
@[simp] theorem Fct.c1 (f:Fct):f.cells[1]?=some (j5.int .i64 f.no):=id rfl
@[simp] theorem Fct.c2 (f:Fct):f.cells[2]?=some (j5.int .i64 f.known):=id rfl
@[simp] theorem Fct.c3 (f:Fct):f.cells[3]?=some (j5.int .i64 f.kind):=id rfl
@[simp] theorem Fct.c4 (f:Fct):f.cells[4]?=some (j5.int .i64 f.flo):=id rfl
@[simp] theorem Fct.c5 (f:Fct):f.cells[5]?=some (j5.int .i64 f.fhi):=id rfl
@[simp] theorem Fct.c6 (f:Fct):f.cells[6]?=some (j5.int .i64 f.gid):=id rfl
@[simp] theorem Fct.c7 (f:Fct):f.cells[7]?=some (j5.int .i64 f.made):=id rfl
@[simp] theorem Fct.c8 (f:Fct):f.cells[8]?=some (j5.int .i64 f.nom):=id rfl
@[simp] theorem Fct.c9 (f:Fct):f.cells[9]?=some (j5.int .i64 f.tlo):=id rfl
@[simp] theorem Fct.c10 (f:Fct):f.cells[10]?=some (j5.int .i64 f.thi):=id rfl
@[simp] theorem Fct.c11 (f:Fct):f.cells[11]?=some (j5.int .i64 f.gn):=id rfl
@[simp] theorem Fct.c12 (f:Fct):f.cells[12]?=some (j5.int .i64 f.gd):=id rfl
@[simp] theorem Fct.c13 (f:Fct):f.cells[13]?=some (j5.int .i64 f.wear):=id rfl
@[simp] theorem Fct.c14 (f:Fct):f.cells[14]?=some (j5.int .i64 f.ug):=id rfl
@[simp] theorem Fct.c15 (f:Fct):f.cells[15]?=some (j5.int .i64 f.ud):=id rfl
@[simp] theorem Fct.c16 (f:Fct):f.cells[16]?=some (j5.int .i64 f.lg):=id rfl
@[simp] theorem Fct.c17 (f:Fct):f.cells[17]?=some (j5.int .i64 f.ll):=id rfl
@[simp] theorem Fct.c18 (f:Fct):f.cells[18]?=some (j5.int .i64 f.lh):=id rfl
@[simp] theorem Fct.c19 (f:Fct):f.cells[19]?=some (j5.int .i64 f.lw):=id rfl
@[simp] theorem Fct.c20 (f:Fct):f.cells[20]?=some (j5.int .i64 f.cid):=id rfl
@[simp] theorem Fct.c21 (f:Fct):f.cells[21]?=some (j5.int .i64 f.cday):=id rfl
@[simp] theorem Fct.c22 (f:Fct):f.cells[22]?=some (f.A):=id rfl
@[simp] theorem Fct.c23 (f:Fct):f.cells[23]?=some (f.B):=id rfl
@[simp] theorem Fct.c24 (f:Fct):f.cells[24]?=some (j5.int .i64 f.diff):=id rfl
@[simp] theorem Fct.c25 (f:Fct):f.cells[25]?=some (j5.int .i64 f.err):=id rfl
@[simp] theorem Fct.c26 (f:Fct):f.cells[26]?=some (j5.int .i64 f.hlo):=id rfl
@[simp] theorem Fct.c27 (f:Fct):f.cells[27]?=some (j5.int .i64 f.hhi):=id rfl
@[simp] theorem Fct.c28 (f:Fct):f.cells[28]?=some (j5.int .i64 f.mday):=id rfl
@[simp] theorem Fct.c29 (f:Fct):f.cells[29]?=some (f.L):=id rfl
@[simp] theorem Fct.c30 (f:Fct):f.cells[30]?=some (j5.int .i64 f.tr):=id rfl
@[simp] theorem Fct.c31 (f:Fct):f.cells[31]?=some (j5.int .i64 f.tn):=id rfl
@[simp] theorem Fct.g0 (f:Fct)(h:0<f.cells.length):f.cells[0]'h=j5.int .i64 f.room:=id rfl
@[simp] theorem Fct.g1 (f:Fct)(h:1<f.cells.length):f.cells[1]'h=j5.int .i64 f.no:=id rfl
@[simp] theorem Fct.g2 (f:Fct)(h:2<f.cells.length):f.cells[2]'h=j5.int .i64 f.known:=id rfl
@[simp] theorem Fct.g3 (f:Fct)(h:3<f.cells.length):f.cells[3]'h=j5.int .i64 f.kind:=id rfl
@[simp] theorem Fct.g4 (f:Fct)(h:4<f.cells.length):f.cells[4]'h=j5.int .i64 f.flo:=id rfl
@[simp] theorem Fct.g5 (f:Fct)(h:5<f.cells.length):f.cells[5]'h=j5.int .i64 f.fhi:=id rfl
@[simp] theorem Fct.g6 (f:Fct)(h:6<f.cells.length):f.cells[6]'h=j5.int .i64 f.gid:=id rfl
@[simp] theorem Fct.g7 (f:Fct)(h:7<f.cells.length):f.cells[7]'h=j5.int .i64 f.made:=id rfl
@[simp] theorem Fct.g8 (f:Fct)(h:8<f.cells.length):f.cells[8]'h=j5.int .i64 f.nom:=id rfl
@[simp] theorem Fct.g9 (f:Fct)(h:9<f.cells.length):f.cells[9]'h=j5.int .i64 f.tlo:=id rfl
@[simp] theorem Fct.g10 (f:Fct)(h:10<f.cells.length):f.cells[10]'h=j5.int .i64 f.thi:=id rfl
@[simp] theorem Fct.g11 (f:Fct)(h:11<f.cells.length):f.cells[11]'h=j5.int .i64 f.gn:=id rfl
@[simp] theorem Fct.g12 (f:Fct)(h:12<f.cells.length):f.cells[12]'h=j5.int .i64 f.gd:=id rfl
@[simp] theorem Fct.g13 (f:Fct)(h:13<f.cells.length):f.cells[13]'h=j5.int .i64 f.wear:=id rfl
@[simp] theorem Fct.g14 (f:Fct)(h:14<f.cells.length):f.cells[14]'h=j5.int .i64 f.ug:=id rfl
@[simp] theorem Fct.g15 (f:Fct)(h:15<f.cells.length):f.cells[15]'h=j5.int .i64 f.ud:=id rfl
@[simp] theorem Fct.g16 (f:Fct)(h:16<f.cells.length):f.cells[16]'h=j5.int .i64 f.lg:=id rfl
@[simp] theorem Fct.g17 (f:Fct)(h:17<f.cells.length):f.cells[17]'h=j5.int .i64 f.ll:=id rfl
@[simp] theorem Fct.g18 (f:Fct)(h:18<f.cells.length):f.cells[18]'h=j5.int .i64 f.lh:=id rfl
@[simp] theorem Fct.g19 (f:Fct)(h:19<f.cells.length):f.cells[19]'h=j5.int .i64 f.lw:=id rfl
@[simp] theorem Fct.g20 (f:Fct)(h:20<f.cells.length):f.cells[20]'h=j5.int .i64 f.cid:=id rfl
@[simp] theorem Fct.g21 (f:Fct)(h:21<f.cells.length):f.cells[21]'h=j5.int .i64 f.cday:=id rfl
@[simp] theorem Fct.g22 (f:Fct)(h:22<f.cells.length):f.cells[22]'h=f.A:=id rfl
@[simp] theorem Fct.g23 (f:Fct)(h:23<f.cells.length):f.cells[23]'h=f.B:=id rfl
@[simp] theorem Fct.g24 (f:Fct)(h:24<f.cells.length):f.cells[24]'h=j5.int .i64 f.diff:=id rfl
@[simp] theorem Fct.g25 (f:Fct)(h:25<f.cells.length):f.cells[25]'h=j5.int .i64 f.err:=id rfl
@[simp] theorem Fct.g26 (f:Fct)(h:26<f.cells.length):f.cells[26]'h=j5.int .i64 f.hlo:=id rfl
@[simp] theorem Fct.g27 (f:Fct)(h:27<f.cells.length):f.cells[27]'h=j5.int .i64 f.hhi:=id rfl
@[simp] theorem Fct.g28 (f:Fct)(h:28<f.cells.length):f.cells[28]'h=j5.int .i64 f.mday:=id rfl
@[simp] theorem Fct.g29 (f:Fct)(h:29<f.cells.length):f.cells[29]'h=f.L:=id rfl
@[simp] theorem Fct.g30 (f:Fct)(h:30<f.cells.length):f.cells[30]'h=j5.int .i64 f.tr:=id rfl
@[simp] theorem Fct.g31 (f:Fct)(h:31<f.cells.length):f.cells[31]'h=j5.int .i64 f.tn:=id rfl
@[simp] theorem Fct.avp (f:Fct):(f.cells.drop 4).take 2=[j5.int .i64 f.flo,j5.int .i64 f.fhi]:=id rfl
@[simp] theorem Fct.avq (f:Fct):(f.cells.drop 6).take 8=[j5.int .i64 f.gid,j5.int .i64 f.made,j5.int .i64 f.nom,j5.int .i64 f.tlo,j5.int .i64 f.thi,j5.int .i64 f.gn,j5.int .i64 f.gd,j5.int .i64 f.wear]:=id rfl
@[simp] theorem Fct.auw (f:Fct):(f.cells.drop 14).take 2=[j5.int .i64 f.ug,j5.int .i64 f.ud]:=id rfl
@[simp] theorem Fct.auy (f:Fct):(f.cells.drop 16).take 4=[j5.int .i64 f.lg,j5.int .i64 f.ll,j5.int .i64 f.lh,j5.int .i64 f.lw]:=id rfl
@[simp] theorem Fct.auz (f:Fct):(f.cells.drop 20).take 8=[j5.int .i64 f.cid,j5.int .i64 f.cday,f.A,f.B,j5.int .i64 f.diff,j5.int .i64 f.err,j5.int .i64 f.hlo,j5.int .i64 f.hhi]:=id rfl
@[simp] theorem Fct.auA (f:Fct):(f.cells.drop 28).take 2=[j5.int .i64 f.mday,f.L]:=id rfl
@[simp] theorem Fct.auB (f:Fct):(f.cells.drop 30).take 2=[j5.int .i64 f.tr,j5.int .i64 f.tn]:=id rfl
@[simp] theorem Fct.auC (f:Fct):(f.cells.drop 17).take 2=[j5.int .i64 f.ll,j5.int .i64 f.lh]:=id rfl
@[simp] theorem Fct.auD (f:Fct):(f.cells.drop 26).take 2=[j5.int .i64 f.hlo,j5.int .i64 f.hhi]:=id rfl
@[simp] theorem Fct.avr (f:Fct):(f.cells.drop 9).take 2=[j5.int .i64 f.tlo,j5.int .i64 f.thi]:=id rfl
@[simp] theorem Fct.auE (f:Fct):(f.cells.drop 11).take 2=[j5.int .i64 f.gn,j5.int .i64 f.gd]:=id rfl
@[simp] theorem Fct.auF (f:Fct):f.cells.take 32=f.cells:=id rfl
theorem O9 (n fu:Nat)(a lo hi:Int)(m:Mem):D6 KW fu (n+1) (.func 38) [.int .i64 a,.int .i64 lo,.int .i64 hi] m=some [⟨.bool (decide (lo≤a)&&decide (a≤hi)),m⟩]:=by
 rw [enter (sf:=f38) rfl rfl]
 simp +contextual [C8,f38,trD,G9,o9]
theorem aH (n fu:Nat)(a lo hi:Int)(m:Mem):D6 KW fu (n+1) (.func 16) [.int .i64 a,.int .i64 lo,.int .i64 hi] m=some [⟨.bool (decide (lo≤a)&&decide (a≤hi)),m⟩]:=by
 rw [enter (sf:=f16) rfl rfl]
 simp +contextual [C8,f16,trD,G9,o9]
theorem fA (n fu:Nat)(a lo hi:Int)(m:Mem):D6 KW fu (n+1) (.func 176) [.int .i64 a,.int .i64 lo,.int .i64 hi] m=some [⟨.bool (decide (lo≤a)&&decide (a≤hi)),m⟩]:=by
 rw [enter (sf:=f176) rfl rfl]
 simp +contextual [C8,f176,trD,G9,o9]
theorem aB (n fu:Nat)(a lo hi:Int)(m:Mem):D6 KW fu (n+1) (.func 389) [.int .i64 a,.int .i64 lo,.int .i64 hi] m=some [⟨.bool (decide (lo≤a)&&decide (a≤hi)),m⟩]:=by
 rw [enter (sf:=ak3) rfl rfl]
 simp +contextual [C8,ak3,trD,G9,o9]
theorem kI (n fu:Nat)(a:Int)(m:Mem):D6 KW fu (n+2) (.func 135) [.int .i64 a] m=some [⟨.bool (decide (1≤a)&&decide (a≤1099511627776)),m⟩]:=by
 rw [enter (sf:=f135) rfl rfl]
 simp [C8,f135,trD,G9,O9]
theorem aF (n fu:Nat)(a:Int)(m:Mem):D6 KW fu (n+2) (.func 79) [.int .i64 a] m=some [⟨.bool (decide (0≤a)&&decide (a≤1099511627776)),m⟩]:=by
 rw [enter (sf:=f79) rfl rfl]
 simp [C8,f79,trD,G9,O9]
theorem DK (n fu:Nat)(a:Int)(m:Mem):D6 KW fu (n+2) (.func 46) [.int .i64 a] m=some [⟨.bool (decide (0≤a)&&decide (a≤1099511627776)),m⟩]:=by
 rw [enter (sf:=f46) rfl rfl]
 simp [C8,f46,trD,G9,aH]
theorem fG (n fu:Nat)(a:Int)(m:Mem):D6 KW fu (n+2) (.func 89) [.int .i64 a] m=some [⟨.bool (decide (0≤a)&&decide (a≤20000)),m⟩]:=by
 rw [enter (sf:=f89) rfl rfl]
 simp [C8,f89,trD,G9,fA]
theorem bE (n fu:Nat)(a:Int)(m:Mem):D6 KW fu (n+2) (.func 296) [.int .i64 a] m=some [⟨.bool (decide (0≤a)&&decide (a≤20000)),m⟩]:=by
 rw [enter (sf:=f296) rfl rfl]
 simp [C8,f296,trD,G9,aB]
theorem FB (n fu:Nat)(l h a b:Int)(m:Mem)(hm:m.Ok):D6 KW fu (n+1) (.func 130) [.agg [.int .i64 l,.int .i64 h],.int .i64 a,.int .i64 b] m =
  some [⟨.bool (decide (a≤l)&&decide (l≤h)&&decide (h≤b)),ext m [A9 [.int .i64 l,.int .i64 h]]⟩]:=by
 rw [enter (sf:=f130) rfl rfl]
 simp +contextual [C8,f130,trD,G9,o9,x9,z8,l5 hm,l8 hm]
theorem LC (n fu:Nat)(l h a b:Int)(m:Mem)(hm:m.Ok):D6 KW fu (n+1) (.func 87) [.agg [.int .i64 l,.int .i64 h],.int .i64 a,.int .i64 b] m =
  some [⟨.bool (decide (a≤l)&&decide (l≤h)&&decide (h≤b)),ext m [A9 [.int .i64 l,.int .i64 h]]⟩]:=by
 rw [enter (sf:=f87) rfl rfl]
 simp +contextual [C8,f87,trD,G9,o9,x9,z8,l5 hm,l8 hm]
theorem LD (n fu:Nat)(l h a b:Int)(m:Mem)(hm:m.Ok):D6 KW fu (n+1) (.func 167) [.agg [.int .i64 l,.int .i64 h],.int .i64 a,.int .i64 b] m =
  some [⟨.bool (decide (a≤l)&&decide (l≤h)&&decide (h≤b)),ext m [A9 [.int .i64 l,.int .i64 h]]⟩]:=by
 rw [enter (sf:=f167) rfl rfl]
 simp +contextual [C8,f167,trD,G9,o9,x9,z8,l5 hm,l8 hm]
theorem LG (n fu:Nat)(l h a b:Int)(m:Mem)(hm:m.Ok):D6 KW fu (n+1) (.func 228) [.agg [.int .i64 l,.int .i64 h],.int .i64 a,.int .i64 b] m =
  some [⟨.bool (decide (a≤l)&&decide (l≤h)&&decide (h≤b)),ext m [A9 [.int .i64 l,.int .i64 h]]⟩]:=by
 rw [enter (sf:=f228) rfl rfl]
 simp +contextual [C8,f228,trD,G9,o9,x9,z8,l5 hm,l8 hm]
theorem LH (n fu:Nat)(f:Fct)(m:Mem)(hm:m.Ok)(hl:m.lim≤m.next):D6 KW fu (n+1) (.func 51) [.agg f.cells] m =
  some [⟨.agg [.int .i64 f.room,.int .i64 f.no],ext m [A9 f.cells,A9 [.int .i64 f.room,.int .i64 f.no]]⟩]:=by
 rw [enter (sf:=f51) rfl rfl]
 simp [f51,C8,trD,G9,o9,l6,j3,Tj,x9,z8,O6 hm hl,C9,j6,o7,o8,J5]
theorem TD (n fu:Nat)(f:Fct)(m:Mem)(hm:m.Ok)(hl:m.lim≤m.next):∃m',D6 KW fu (n+2) (.func 129) [.agg f.cells] m=some [⟨.bool (decide (0≤f.flo)&&decide (f.flo≤f.fhi)&&decide (f.fhi≤1000000)),m'⟩]∧Ext m m':=by
 rw [enter (sf:=f129) rfl rfl]
 refine⟨ext m [A9 f.cells,A9 [.int .i64 f.flo,.int .i64 f.fhi]],?_,D8 hm _⟩
 simp +contextual [f129,C8,trD,G9,o9,l6,j3,Tj,x9,z8,l5 hm,l8 hm,rD hm hl,kG hm hl,A8 hm,w9 hm,C9,j6,o7,o8,J5,FB _ _ _ _ _ _ _ (J4 hm _)]
theorem TF (n fu:Nat)(f:Fct)(m:Mem)(hm:m.Ok)(hl:m.lim≤m.next):∃m',D6 KW fu (n+3) (.func 134) [.agg f.cells] m=some [⟨.bool ((decide (1≤f.ug)&&decide (f.ug≤1099511627776))&&(decide (0≤f.ud)&&decide (f.ud≤20000))),m'⟩]∧Ext m m':=by
 rw [enter (sf:=f134) rfl rfl]
 refine⟨ext m [A9 f.cells],?_,D8 hm _⟩
 simp +contextual [f134,C8,trD,G9,o9,l6,j3,Tj,x9,z8,l5 hm,l8 hm,rD hm hl,kG hm hl,A8 hm,w9 hm,C9,j6,o7,o8,J5,kI,O9]
theorem TG {m:Mem}{v w:j5}{xs ys:List Int}(hv:bW m v xs)(hw:bW m w ys)(hxy:ys.length=xs.length)(hb:xs.length<1000000)(cf:K8)(fu:Nat)(a2:j5):
  ∀(j i:Nat),i+j=xs.length→∀(N:Nat),j<N→∀(a5 a6 a7:j5),
   ∃x k b5 b6 b7,aj (fun env m k=>Ls cf fu none env m k) N (.nd (.nd (.nd (.nd .e a7 .e) (.int .i64 ((i:Nat):Int)) .e) w (.nd .e a5 .e)) v (.nd (.nd (.nd .e (.bool false) .e) (.int .i64 ((xs.length:Nat):Int)) .e) a2 (.nd .e a6 .e))) m []=some [⟨x,(.nd (.nd (.nd (.nd .e b7 .e) (.int .i64 ((k:Nat):Int)) .e) w (.nd .e b5 .e)) v (.nd (.nd (.nd .e (.bool false) .e) (.int .i64 ((xs.length:Nat):Int)) .e) a2 (.nd .e b6 .e))),m,[],none⟩]∧
    x=(if xs.drop i=ys.drop i then bB.exit 0 else .ret):=by
 intro j
 induction j with
 | zero=>
  intro i hi N hN a5 a6 a7
  obtain⟨N,rfl⟩:∃M,N=M+1:=⟨N-1,by omega⟩
  refine⟨.exit 0,i,.bool false,a6,a7,?_,?_⟩
  ·rw [G5]
   have h:¬ i<xs.length:=by omega
   simp [Ls,C8,trD,G9,o9,l6,j3,x9,z8,C9,j6,o7,o8,J5,h]
  ·rw [avD (by omega),avD (by omega)];rfl
 | succ j ih=>
  intro i hi N hN a5 a6 a7
  obtain⟨N,rfl⟩:∃M,N=M+1:=⟨N-1,by omega⟩
  have h:i<xs.length:=by omega
  have h':i<ys.length:=by omega
  obtain⟨p,e1,_,e2⟩:=hv.at h
  obtain⟨q,e3,_,e4⟩:=hw.at h'
  by_cases he:xs[i]=ys[i]
  ·obtain⟨x,k,b5,b6,b7,g1,g2⟩:=ih (i+1) (by omega) N (by omega) (.bool true) (.int .i64 i) (.bool false)
   refine⟨x,k,b5,b6,b7,?_,?_⟩
   ·rw [G5,← g1]
    simp [Ls,trD,G9,h,e1,e2,e3,e4,he,U6 (i:=i) (by omega)]
   ·rw [g2]
    have hd:(xs.drop i=ys.drop i)↔(xs.drop (i+1)=ys.drop (i+1)):=by
     rw [avJ h,avJ h',he]
     exact⟨fun hh=>(axO hh).2,fun hh=>by rw [hh]⟩
    simp only [hd]
  ·refine⟨.ret,i,.bool true,.int .i64 i,.bool true,?_,?_⟩
   ·rw [G5]
    simp [Ls,trD,G9,h,e1,e2,e3,e4,he]
   ·rw [if_neg]
    intro hh
    rw [avJ h,avJ h'] at hh
    exact he (axO hh).1
theorem LJ {m:Mem}{v w:j5}{xs ys:List Int}(hv:bW m v xs)(hw:bW m w ys)(hb:xs.length<1000)(n fu:Nat)(hfu:1000≤fu):
  D6 KW fu (n+1) (.func 53) [v,w] m=some [⟨.bool (decide (xs=ys)),m⟩]:=by
 rw [enter (sf:=f53) rfl rfl]
 have l1:=hv.len
 have l2:=hw.len
 by_cases hxy:ys.length=xs.length
 ·obtain⟨x,k,b5,b6,b7,g1,g2⟩:=TG hv hw hxy (by omega) (D6 KW fu n) fu (.bool false) xs.length 0 (by omega) fu (by omega) .undef .undef .undef
  have g2:x=if xs=ys then bB.exit 0 else .ret:=g2
  by_cases he:xs=ys
  ·rw [if_pos he] at g2
   subst g2
   simp [C8,f53,trD,G9,l1,l2,hxy,he] at g1 ⊢
   simp [g1]
  ·rw [if_neg he] at g2
   subst g2
   simp [C8,f53,trD,G9,l1,l2,hxy,he] at g1 ⊢
   simp [g1]
 ·have h1:¬ xs.length=ys.length:=fun h=>hxy h.symm
  have h2:¬ xs=ys:=fun h=>h1 (by rw [h])
  have h3:¬ ((xs.length:Nat):Int)=((ys.length:Nat):Int):=by omega
  simp [C8,f53,trD,G9,l1,l2,h3,h2]
theorem OE {m:Mem}{v:j5}{xs:List Int}(hv:bW m v xs)(hb:xs.length<1000000)(n fu:Nat):
  ∀(j i:Nat),i+j=xs.length→∀(N:Nat),j<N→∀(a0 a1 a2 a3:j5),
   ∃x k b0 b1 b2 b3,aj (fun env m k=>rR (D6 KW fu (n+1)) fu none env m k) N (.nd (.nd (.nd (.nd .e a3 .e) a0 .e) (.int .i64 ((i:Nat):Int)) (.nd .e a1 .e)) v (.nd (.nd (.nd .e (.bool false) .e) v .e) (.int .i64 ((xs.length:Nat):Int)) (.nd .e a2 .e))) m []=some [⟨x,(.nd (.nd (.nd (.nd .e b3 .e) b0 .e) (.int .i64 ((k:Nat):Int)) (.nd .e b1 .e)) v (.nd (.nd (.nd .e (.bool false) .e) v .e) (.int .i64 ((xs.length:Nat):Int)) (.nd .e b2 .e))),m,[],none⟩]∧x=(bif Q8 (okB xs) j i then bB.exit 0 else .ret):=by
 intro j
 induction j with
 | zero=>
  intro i hi N hN a0 a1 a2 a3
  obtain⟨N,rfl⟩:∃M,N=M+1:=⟨N-1,by omega⟩
  refine⟨.exit 0,i,.bool false,a1,a2,a3,?_,rfl⟩
  rw [G5]
  have h:¬ i<xs.length:=by omega
  have l1:=hv.len
  simp [rR,C8,trD,G9,o9,l6,j3,h,l1]
 | succ j ih=>
  intro i hi N hN a0 a1 a2 a3
  obtain⟨N,rfl⟩:∃M,N=M+1:=⟨N-1,by omega⟩
  have h:i<xs.length:=by omega
  have l1:=hv.len
  obtain⟨p,e1,_,e2⟩:=hv.at h
  have hg:=iy h
  have good:okB xs i=true→∃x k b0 b1 b2 b3,aj (fun env m k=>rR (D6 KW fu (n+1)) fu none env m k) (N+1) (.nd (.nd (.nd (.nd .e a3 .e) a0 .e) (.int .i64 ((i:Nat):Int)) (.nd .e a1 .e)) v (.nd (.nd (.nd .e (.bool false) .e) v .e) (.int .i64 ((xs.length:Nat):Int)) (.nd .e a2 .e))) m []=some [⟨x,(.nd (.nd (.nd (.nd .e b3 .e) b0 .e) (.int .i64 ((k:Nat):Int)) (.nd .e b1 .e)) v (.nd (.nd (.nd .e (.bool false) .e) v .e) (.int .i64 ((xs.length:Nat):Int)) (.nd .e b2 .e))),m,[],none⟩]∧x=(bif Q8 (okB xs) (j+1) i then bB.exit 0 else .ret):=by
   intro hok
   obtain⟨x,k,b0,b1,b2,b3,g1,g2⟩:=ih (i+1) (by omega) N (by omega) (.bool true) ((.int .i64 xs[i])) ((.int .i64 (i:Nat))) (.bool false)
   refine⟨x,k,b0,b1,b2,b3,?_,by rw [g2];simp [Q8,hok]⟩
   rw [G5,← g1]
   simp only [okB,hg,avv,awO,decide_eq_true_eq] at hok
   obtain⟨⟨h1,h2⟩,h3⟩:=hok
   by_cases h0:i=0
   ·have h4:¬ 0<i:=by omega
    simp [rR,C8,trD,G9,o9,l6,j3,h,l1,e1,e2,h1,h2,h4,aB,U6 (i:=i) (by omega)]
   ·have hp:i-1<xs.length:=by omega
    obtain⟨q,e3,_,e4⟩:=hv.at hp
    have h3:=h3.resolve_left h0
    rw [iy hp] at h3
    have h4:0<i:=by omega
    have h5:¬ xs[i]≤xs[i-1]:=by omega
    simp [rR,C8,trD,G9,o9,l6,j3,h,l1,e1,e2,e3,e4,h1,h2,h4,h5,aB,U6 (i:=i) (by omega),jY (i:=i) h4 (by omega)]
  cases hok:okB xs i with
  | true=>exact good hok
  | false=>
   refine⟨.ret,i,.bool true,.int .i64 xs[i],.int .i64 (i:Nat),.bool true,?_,by simp [Q8,hok]⟩
   rw [G5]
   simp only [okB,hg] at hok
   by_cases h0:i=0
   ·have hr:(decide (1≤xs[i])&&decide (xs[i]≤1099511627776))=false:=by simpa [h0] using hok
    simp [rR,C8,trD,G9,o9,l6,j3,h,l1,e1,e2,hr,aB]
   ·have hp:i-1<xs.length:=by omega
    obtain⟨q,e3,_,e4⟩:=hv.at hp
    have h4:0<i:=by omega
    rw [iy hp,show decide (i=0)=false from decide_eq_false h0,aw5] at hok
    cases hr:(decide (1≤xs[i])&&decide (xs[i]≤1099511627776)) with
    | false=>simp [rR,C8,trD,G9,o9,l6,j3,h,l1,e1,e2,hr,aB]
    | true=>
     rw [hr,awQ] at hok
     have h5:xs[i]≤xs[i-1]:=by simpa using hok
     simp [rR,C8,trD,G9,o9,l6,j3,h,l1,e1,e2,e3,e4,hr,h4,h5,aB,jY (i:=i) h4 (by omega)]
theorem LK {m:Mem}{v:j5}{xs:List Int}(hv:bW m v xs)(hb:xs.length<1000)(n fu:Nat)(hfu:1000≤fu):
  D6 KW fu (n+2) (.func 394) [v] m=some [⟨.bool (Q8 (okB xs) xs.length 0&&decide (xs.length≤6)),m⟩]:=by
 rw [enter (sf:=ak5) rfl rfl]
 have l1:=hv.len
 obtain⟨x,k,b0,b1,b2,b3,g1,g2⟩:=OE hv (by omega) n fu xs.length 0 (by omega) fu (by omega) .undef .undef .undef .undef
 cases ha:Q8 (okB xs) xs.length 0<;>rw [ha] at g2<;>simp only [cond_true,cond_false] at g2<;>subst g2<;>simp [ak5,C8,trD,G9,o9,l6,j3,l1] at g1 ⊢ <;> simp [g1,l1]
 omega
theorem TH {m:Mem}{v:j5}{xs:List Int}(hv:bW m v xs)(hb:xs.length<1000000)(n fu:Nat):
  ∀(j i:Nat),i+j=xs.length→∀(N:Nat),j<N→∀(a0 a1:j5),
   ∃x k b0 b1,aj (fun env m k=>Bo (D6 KW fu (n+1)) fu none env m k) N (.nd (.nd (.nd .e a1 .e) v .e) (.int .i64 ((i:Nat):Int)) (.nd (.nd .e (.bool false) .e) a0 .e)) m []=some [⟨x,(.nd (.nd (.nd .e b1 .e) v .e) (.int .i64 ((k:Nat):Int)) (.nd (.nd .e (.bool false) .e) b0 .e)),m,[],none⟩]∧x=(bif Q8 (okB xs) j i then bB.exit 0 else .ret):=by
 intro j
 induction j with
 | zero=>
  intro i hi N hN a0 a1
  obtain⟨N,rfl⟩:∃M,N=M+1:=⟨N-1,by omega⟩
  refine⟨.exit 0,i,.bool false,a1,?_,rfl⟩
  rw [G5]
  have h:¬ i<xs.length:=by omega
  have l1:=hv.len
  simp [Bo,C8,trD,G9,o9,l6,j3,h,l1]
 | succ j ih=>
  intro i hi N hN a0 a1
  obtain⟨N,rfl⟩:∃M,N=M+1:=⟨N-1,by omega⟩
  have h:i<xs.length:=by omega
  have l1:=hv.len
  obtain⟨p,e1,_,e2⟩:=hv.at h
  have hg:=iy h
  have good:okB xs i=true→∃x k b0 b1,aj (fun env m k=>Bo (D6 KW fu (n+1)) fu none env m k) (N+1) (.nd (.nd (.nd .e a1 .e) v .e) (.int .i64 ((i:Nat):Int)) (.nd (.nd .e (.bool false) .e) a0 .e)) m []=some [⟨x,(.nd (.nd (.nd .e b1 .e) v .e) (.int .i64 ((k:Nat):Int)) (.nd (.nd .e (.bool false) .e) b0 .e)),m,[],none⟩]∧x=(bif Q8 (okB xs) (j+1) i then bB.exit 0 else .ret):=by
   intro hok
   obtain⟨x,k,b0,b1,g1,g2⟩:=ih (i+1) (by omega) N (by omega) (.bool true) (.bool false)
   refine⟨x,k,b0,b1,?_,by rw [g2];simp [Q8,hok]⟩
   rw [G5,← g1]
   simp only [okB,hg,avv,awO,decide_eq_true_eq] at hok
   obtain⟨⟨h1,h2⟩,h3⟩:=hok
   by_cases h0:i=0
   ·have h4:¬ 0<i:=by omega
    simp [Bo,C8,trD,G9,o9,l6,j3,h,l1,e1,e2,h1,h2,h4,fA,U6 (i:=i) (by omega)]
   ·have hp:i-1<xs.length:=by omega
    obtain⟨q,e3,_,e4⟩:=hv.at hp
    have h3:=h3.resolve_left h0
    rw [iy hp] at h3
    have h4:0<i:=by omega
    have h5:¬ xs[i]≤xs[i-1]:=by omega
    simp [Bo,C8,trD,G9,o9,l6,j3,h,l1,e1,e2,e3,e4,h1,h2,h4,h5,fA,U6 (i:=i) (by omega),jY (i:=i) h4 (by omega)]
  cases hok:okB xs i with
  | true=>exact good hok
  | false=>
   refine⟨.ret,i,.bool true,.bool true,?_,by simp [Q8,hok]⟩
   rw [G5]
   simp only [okB,hg] at hok
   by_cases h0:i=0
   ·have hr:(decide (1≤xs[i])&&decide (xs[i]≤1099511627776))=false:=by simpa [h0] using hok
    simp [Bo,C8,trD,G9,o9,l6,j3,h,l1,e1,e2,hr,fA]
   ·have hp:i-1<xs.length:=by omega
    obtain⟨q,e3,_,e4⟩:=hv.at hp
    have h4:0<i:=by omega
    rw [iy hp,show decide (i=0)=false from decide_eq_false h0,aw5] at hok
    cases hr:(decide (1≤xs[i])&&decide (xs[i]≤1099511627776)) with
    | false=>simp [Bo,C8,trD,G9,o9,l6,j3,h,l1,e1,e2,hr,fA]
    | true=>
     rw [hr,awQ] at hok
     have h5:xs[i]≤xs[i-1]:=by simpa using hok
     simp [Bo,C8,trD,G9,o9,l6,j3,h,l1,e1,e2,e3,e4,hr,h4,h5,fA,jY (i:=i) h4 (by omega)]
theorem QW {m:Mem}{v:j5}{xs:List Int}(hv:bW m v xs)(hb:xs.length<1000)(n fu:Nat)(hfu:1000≤fu):
  D6 KW fu (n+2) (.func 90) [v] m=some [⟨.bool (Q8 (okB xs) xs.length 0&&decide (xs.length≤6)),m⟩]:=by
 rw [enter (sf:=f90) rfl rfl]
 have l1:=hv.len
 obtain⟨x,k,b0,b1,g1,g2⟩:=TH hv (by omega) n fu xs.length 0 (by omega) fu (by omega) .undef .undef
 cases ha:Q8 (okB xs) xs.length 0<;>rw [ha] at g2<;>simp only [cond_true,cond_false] at g2<;>subst g2<;>simp [f90,C8,trD,G9,o9,l6,j3,l1] at g1 ⊢ <;> simp [g1,l1]
 omega
theorem OG {m:Mem}(hm:m.Ok){v:j5}{day:Int}{xs:List Int}(hv:bW (ext m [A9 [.int .i64 day,v]]) v xs)(hb:xs.length<1000000)(n fu:Nat):
  ∀(j i:Nat),i+j=xs.length→∀(N:Nat),j<N→∀(a0 a1 a2 a3:j5),
   ∃x k b0 b1 b2 b3,aj (fun env m k=>rQ (D6 KW fu (n+2)) fu none env m k) N (.nd (.nd (.nd (.nd .e a2 .e) (.int .i64 ((xs.length:Nat):Int)) .e) (.ptr m.next 0) (.nd (.nd .e (.bool false) .e) v .e)) (.agg [.int .i64 day,v]) (.nd (.nd (.nd .e a3 .e) a0 .e) (.int .i64 ((i:Nat):Int)) (.nd .e a1 .e))) (ext m [A9 [.int .i64 day,v]]) []=some [⟨x,(.nd (.nd (.nd (.nd .e b2 .e) (.int .i64 ((xs.length:Nat):Int)) .e) (.ptr m.next 0) (.nd (.nd .e (.bool false) .e) v .e)) (.agg [.int .i64 day,v]) (.nd (.nd (.nd .e b3 .e) b0 .e) (.int .i64 ((k:Nat):Int)) (.nd .e b1 .e))),(ext m [A9 [.int .i64 day,v]]),[],none⟩]∧x=(bif Q8 (okB xs) j i then bB.exit 0 else .ret):=by
 intro j
 induction j with
 | zero=>
  intro i hi N hN a0 a1 a2 a3
  obtain⟨N,rfl⟩:∃M,N=M+1:=⟨N-1,by omega⟩
  refine⟨.exit 0,i,.bool false,a1,a2,a3,?_,rfl⟩
  rw [G5]
  have h:¬ i<xs.length:=by omega
  have l1:=hv.len
  simp [rQ,C8,trD,G9,o9,l6,j3,h,l1,l5 hm]
 | succ j ih=>
  intro i hi N hN a0 a1 a2 a3
  obtain⟨N,rfl⟩:∃M,N=M+1:=⟨N-1,by omega⟩
  have h:i<xs.length:=by omega
  have l1:=hv.len
  obtain⟨p,e1,_,e2⟩:=hv.at h
  have hg:=iy h
  have good:okB xs i=true→∃x k b0 b1 b2 b3,aj (fun env m k=>rQ (D6 KW fu (n+2)) fu none env m k) (N+1) (.nd (.nd (.nd (.nd .e a2 .e) (.int .i64 ((xs.length:Nat):Int)) .e) (.ptr m.next 0) (.nd (.nd .e (.bool false) .e) v .e)) (.agg [.int .i64 day,v]) (.nd (.nd (.nd .e a3 .e) a0 .e) (.int .i64 ((i:Nat):Int)) (.nd .e a1 .e))) (ext m [A9 [.int .i64 day,v]]) []=some [⟨x,(.nd (.nd (.nd (.nd .e b2 .e) (.int .i64 ((xs.length:Nat):Int)) .e) (.ptr m.next 0) (.nd (.nd .e (.bool false) .e) v .e)) (.agg [.int .i64 day,v]) (.nd (.nd (.nd .e b3 .e) b0 .e) (.int .i64 ((k:Nat):Int)) (.nd .e b1 .e))),(ext m [A9 [.int .i64 day,v]]),[],none⟩]∧x=(bif Q8 (okB xs) (j+1) i then bB.exit 0 else .ret):=by
   intro hok
   obtain⟨x,k,b0,b1,b2,b3,g1,g2⟩:=ih (i+1) (by omega) N (by omega) (.bool true) ((.int .i64 xs[i])) ((.int .i64 (i:Nat))) (.bool false)
   refine⟨x,k,b0,b1,b2,b3,?_,by rw [g2];simp [Q8,hok]⟩
   rw [G5,← g1]
   simp only [okB,hg,avv,awO,decide_eq_true_eq] at hok
   obtain⟨⟨h1,h2⟩,h3⟩:=hok
   by_cases h0:i=0
   ·have h4:¬ 0<i:=by omega
    simp [rQ,C8,trD,G9,o9,l6,j3,h,l1,e1,e2,h1,h2,h4,kI,U6 (i:=i) (by omega),l5 hm]
   ·have hp:i-1<xs.length:=by omega
    obtain⟨q,e3,_,e4⟩:=hv.at hp
    have h3:=h3.resolve_left h0
    rw [iy hp] at h3
    have h4:0<i:=by omega
    have h5:¬ xs[i]≤xs[i-1]:=by omega
    simp [rQ,C8,trD,G9,o9,l6,j3,h,l1,e1,e2,e3,e4,h1,h2,h4,h5,kI,U6 (i:=i) (by omega),jY (i:=i) h4 (by omega),l5 hm]
  cases hok:okB xs i with
  | true=>exact good hok
  | false=>
   refine⟨.ret,i,.bool true,.int .i64 xs[i],.int .i64 (i:Nat),.bool true,?_,by simp [Q8,hok]⟩
   rw [G5]
   simp only [okB,hg] at hok
   by_cases h0:i=0
   ·have hr:(decide (1≤xs[i])&&decide (xs[i]≤1099511627776))=false:=by simpa [h0] using hok
    simp [rQ,C8,trD,G9,o9,l6,j3,h,l1,e1,e2,hr,kI,l5 hm]
   ·have hp:i-1<xs.length:=by omega
    obtain⟨q,e3,_,e4⟩:=hv.at hp
    have h4:0<i:=by omega
    rw [iy hp,show decide (i=0)=false from decide_eq_false h0,aw5] at hok
    cases hr:(decide (1≤xs[i])&&decide (xs[i]≤1099511627776)) with
    | false=>simp [rQ,C8,trD,G9,o9,l6,j3,h,l1,e1,e2,hr,kI,l5 hm]
    | true=>
     rw [hr,awQ] at hok
     have h5:xs[i]≤xs[i-1]:=by simpa using hok
     simp [rQ,C8,trD,G9,o9,l6,j3,h,l1,e1,e2,e3,e4,hr,h4,h5,kI,jY (i:=i) h4 (by omega),l5 hm]
theorem TI {m:Mem}(hm:m.Ok){v:j5}{day:Int}{xs:List Int}(hv:bW m v xs)(hb:xs.length<1000)(n fu:Nat)(hfu:1000≤fu):
  D6 KW fu (n+3) (.func 143) [.agg [.int .i64 day,v]] m=some [⟨.bool (Q8 (okB xs) xs.length 0&&((decide (0≤day)&&decide (day≤19999))&&(decide (2≤xs.length)&&decide (xs.length≤5)))),ext m [A9 [.int .i64 day,v]]⟩]:=by
 rw [enter (sf:=f143) rfl rfl]
 have hv:=hv.ext (D8 hm [A9 [.int .i64 day,v]])
 have l1:=hv.len
 have hz:v.cells=[v]:=hv.cells
 obtain⟨x,k,b0,b1,b2,b3,g1,g2⟩:=OG hm hv (by omega) n fu xs.length 0 (by omega) fu (by omega) .undef .undef .undef .undef
 have c2:decide (2≤((xs.length:Nat):Int))=decide (2≤xs.length):=by rw [avV];simp;omega
 have c3:decide (((xs.length:Nat):Int)≤5)=decide (xs.length≤5):=by rw [avV];simp;omega
 cases ha:Q8 (okB xs) xs.length 0<;>rw [ha] at g2<;>simp only [cond_true,cond_false] at g2<;>subst g2<;>simp [f143,C8,trD,G9,o9,l6,j3,l1,x9,l5 hm,hz] at g1 ⊢
 ·simp [g1]
 ·simp +contextual [g1,l1,l5 hm,C8,trD,G9,o9,l6,j3,O9,c2,c3]
@[simp] theorem TJ:ku .nilSlice .nilSlice=some true:=id rfl
@[simp] theorem OH (a b c d:Nat):ku (.slice a b c d) .nilSlice=some false:=id rfl
@[simp] theorem Nt (a b c d:Nat):ku (.sliceU a b c d) .nilSlice=some false:=id rfl
theorem OI (x:Int)(n fu:Nat)(hfu:1000≤fu)(m:Mem):D6 KW fu (n+1) (.func 210) [.nilSlice,.int .i64 x] m=some [⟨.int .i64 (.negSucc 0),m⟩]:=by
 rw [enter (sf:=f210) rfl rfl]
 obtain⟨N,rfl⟩:∃M,fu=M+1:=⟨fu-1,by omega⟩
 simp [f210,C8,trD,G9,o9,l6,j3,G5,QG]
theorem OJ (x:Int)(n fu:Nat)(hfu:1000≤fu)(m:Mem):D6 KW fu (n+2) (.func 223) [.nilSlice,.int .i64 x] m=some [⟨.bool false,m⟩]:=by
 rw [enter (sf:=f223) rfl rfl]
 simp [f223,C8,trD,G9,o9,l6,j3,OI x n fu hfu]
theorem OL (x:Int)(n fu:Nat)(hfu:1000≤fu){m:Mem}{p:Nat}(hp:m.get p=some (A9 [.nilSlice])):D6 KW fu (n+3) (.func 307) [.int .i64 x,.ptr p 0] m=some [⟨.bool false,m⟩]:=by
 rw [enter (sf:=f307) rfl rfl]
 simp [f307,C8,trD,G9,o9,l6,j3,hp,OJ x n fu hfu]
theorem OM {m:Mem}{v:j5}{xs:List Int}{p:Nat}(hv:bW m v xs)(hp:m.get p=some (A9 [.nilSlice]))(hb:xs.length<1000000)(n fu:Nat)(hfu:1000≤fu):
  ∀(j i:Nat),i+j=xs.length→∀(N:Nat),j<N→∀(a0 a1 a2:j5),
   ∃k b0 b1 b2,aj (fun env m k=>DJ (D6 KW fu (n+3)) fu none env m k) N (.nd (.nd (.nd (.nd .e (.int .i64 0) .e) a0 .e) (.int .i64 ((i:Nat):Int)) (.nd .e a1 .e)) v (.nd (.nd .e (.func (.func 307) [] [.ptr p 0]) .e) (.int .i64 ((xs.length:Nat):Int)) (.nd .e a2 .e))) m []=some [⟨.exit 0,(.nd (.nd (.nd (.nd .e (.int .i64 0) .e) b0 .e) (.int .i64 ((k:Nat):Int)) (.nd .e b1 .e)) v (.nd (.nd .e (.func (.func 307) [] [.ptr p 0]) .e) (.int .i64 ((xs.length:Nat):Int)) (.nd .e b2 .e))),m,[],none⟩]:=by
 intro j
 induction j with
 | zero=>
  intro i hi N hN a0 a1 a2
  obtain⟨N,rfl⟩:∃M,N=M+1:=⟨N-1,by omega⟩
  refine⟨i,.bool false,a1,a2,?_⟩
  rw [G5]
  have h:¬ i<xs.length:=by omega
  simp [DJ,C8,trD,G9,o9,l6,j3,h]
 | succ j ih=>
  intro i hi N hN a0 a1 a2
  obtain⟨N,rfl⟩:∃M,N=M+1:=⟨N-1,by omega⟩
  have h:i<xs.length:=by omega
  obtain⟨q,e1,_,e2⟩:=hv.at h
  obtain⟨k,b0,b1,b2,g1⟩:=ih (i+1) (by omega) N (by omega) (.bool true) (.int .i64 i) (.bool false)
  refine⟨k,b0,b1,b2,?_⟩
  rw [G5,← g1]
  simp [DJ,C8,trD,G9,o9,l6,j3,h,e1,e2,OL _ n fu hfu hp,U6 (i:=i) (by omega)]
theorem OO {m:Mem}{v:j5}{xs:List Int}{p:Nat}(hv:bW m v xs)(hp:m.get p=some (A9 [.nilSlice]))(hb:xs.length<1000)(n fu:Nat)(hfu:1000≤fu):
  D6 KW fu (n+4) (.func 127) [v,.func (.func 307) [] [.ptr p 0]] m=some [⟨.int .i64 (.negSucc 0),m⟩]:=by
 rw [enter (sf:=f127) rfl rfl]
 have l1:=hv.len
 obtain⟨k,b0,b1,b2,g1⟩:=OM hv hp (by omega) n fu hfu xs.length 0 (by omega) fu (by omega) .undef .undef .undef
 simp [f127,C8,trD,G9,o9,l6,j3,l1] at g1 ⊢
 simp [g1]
theorem OP {m:Mem}{v:j5}{xs:List Int}{p:Nat}(hv:bW m v xs)(hp:m.get p=some (A9 [.nilSlice]))(hb:xs.length<1000)(n fu:Nat)(hfu:1000≤fu):
  D6 KW fu (n+5) (.func 306) [v,.func (.func 307) [] [.ptr p 0]] m=some [⟨v,m⟩]:=by
 rw [enter (sf:=f306) rfl rfl]
 simp [f306,C8,trD,G9,o9,l6,j3,OO hv hp hb n fu hfu]
theorem TK {m:Mem}{v:j5}{xs:List Int}(hm:m.Ok)(hl:m.lim≤m.next)(hv:bW m v xs)(hb:xs.length<1000)(n fu:Nat):
  ∃v' m',D6 KW fu (n+1) (.func 183) [v] m=some [⟨v',m'⟩]∧Ext m m'∧bW m' v' xs:=by
 rw [enter (sf:=f183) rfl rfl]
 rcases hv with⟨rfl,rfl⟩ | hv
 ·refine⟨.nilSlice,m,?_,Ext.refl hm,.inl ⟨rfl,rfl⟩⟩
  simp [f183,C8,trD,G9,o9,l6,j3]
 ·have hv':bW m v xs:=.inr hv
  have hne:ku v .nilSlice=some false:=by
   obtain⟨id,⟨c,rfl⟩ | ⟨c,rfl⟩,_⟩:=hv<;>rfl
  have hz:iO 1 0 [] (fun b=>some (j5.slice m.next 0 0 0,some b))=some (.slice m.next 0 0 0,some (.cells 1 0 (T.ofList []))):=rfl
  have hL:∀z env,J2 1 0 z [] [] env m.next=some (.slice m.next 0 0 0,some (.cells 1 0 (T.ofList []))):=fun z env=>rfl
  have hv1:bW (m.new (.cells 1 0 (T.ofList []))) v xs:=hv'.ext ((Ext.refl hm).new _)
  cases hx:xs with
  | nil=>
   subst hx
   refine⟨.slice m.next 0 0 0,m.new (.cells 1 0 (T.ofList [])),?_,(Ext.refl hm).new _,.inr ⟨(m.next,0),.inl ⟨0,rfl⟩,by simp,.inl rfl⟩⟩
   have hA':∀(l r:T j5) cf,lC 1 8 oL0 (dF gH) cf [.slice m.next 0 0 0] (.nd l v r) (m.new (.cells 1 0 (T.ofList [])))=some [⟨.slice m.next 0 0 0,m.new (.cells 1 0 (T.ofList []))⟩]:=by
    intro l r cf
    show ob (Go.AM.lenOf v) (fun n=>ob (ah _ 1 n v) fun new=>pR _ 1 8 n new (.slice m.next 0 0 0))=_
    rw [hv'.lenOf];simp only [O0,aw8]
    have:=hv1.read
    rw [aw8] at this
    rw [this];rfl
   simp [f183,C8,trD,G9,o9,l6,j3,hne,hL,hA']
  | cons x xs'=>
   obtain⟨m',g1,g2,g3⟩:=IL (m:=m.new (.cells 1 0 (T.ofList []))) (Mem.Ok.new hm _) xs
   refine⟨_,m',?_,((Ext.refl hm).new _).trans g2,by rw [← hx];exact g3⟩
   have hA':∀(l r:T j5) cf,lC 1 8 oL0 (dF gH) cf [.slice m.next 0 0 0] (.nd l v r) (m.new (.cells 1 0 (T.ofList [])))=some [⟨.sliceU (m.new (.cells 1 0 (T.ofList []))).next 0 xs.length 1,m'⟩]:=by
    intro l r cf
    show ob (Go.AM.lenOf v) (fun n=>ob (ah _ 1 n v) fun new=>pR _ 1 8 n new (.slice m.next 0 0 0))=_
    rw [hv'.lenOf];simp only [O0]
    rw [hv1.read];simp only [O0]
    show lu _ 1 8 xs.length (ints xs) m.next 0 0 0=_
    unfold lu
    have hp:0<xs.length:=by rw [hx];simp
    rw [show Nat.ble (Nat.add 0 xs.length) 0=false from by
     cases hb':Nat.ble (Nat.add 0 xs.length) 0 with
     | false=>rfl
     | true=>
      have h1:=avC hb'
      have e0:Nat.add 0 xs.length=xs.length:=avS _
      rw [e0] at h1
      omega]
    rw [aY]
    have hbig:big (Nat.add 0 xs.length) 8 1=true:=by
     have e:Nat.add 0 xs.length=xs.length:=avS _
     unfold big
     rw [e,show Nat.ble (Nat.mul (Nat.add (Nat.mul 2 xs.length) 2048) 8) 281474976710656=true from avB (by show (2*xs.length+2048)*8≤281474976710656;omega)]
     rfl
    rw [hbig,aJ]
    show ob (R4 _ m.next 0 (Nat.mul 0 1)) _=_
    have e:Nat.mul 0 1=0:=rfl
    rw [e]
    show grown (m.new (.cells 1 0 (T.ofList []))) 1 (Nat.add 0 xs.length) (jl [] (ints xs))=_
    have e2:Nat.add 0 xs.length=xs.length:=avS _
    rw [e2,ak,avT,g1]
   simp [f183,C8,trD,G9,o9,l6,j3,hne,hL,hA']
theorem LM {m:Mem}{v:j5}{xs:List Int}(hm:m.Ok)(hl:m.lim≤m.next)(hv:bW m v xs)(hb:xs.length<1000)(n fu:Nat)(hfu:1000≤fu):
  ∃v' m',D6 KW fu (n+6) (.func 240) [v,.nilSlice] m=some [⟨v',m'⟩]∧Ext m m'∧bW m' v' xs:=by
 rw [enter (sf:=f240) rfl rfl]
 have hv1:=hv.ext (D8 hm [A9 [.nilSlice]])
 obtain⟨v',m',g1,g2,g3⟩:=TK (m:=ext m [A9 [.nilSlice]]) (J4 hm _) (by simp;omega) hv1 hb (n+4) fu
 have hp:m'.get m.next=some (A9 [.nilSlice]):=by
  rw [g2.old _ (by simp)]
  rw [l5 hm];rfl
 refine⟨v',m',?_,(D8 hm _).trans g2,g3⟩
 simp [f240,C8,trD,G9,o9,l6,j3,x9,g1,g3.pan,OP g3 hp hb n fu hfu]
theorem IZ {m:Mem}{v:j5}{xs:List Int}(hm:m.Ok)(hl:m.lim≤m.next)(hv:bW m v xs)(n fu:Nat)(hfu:1000≤fu):
  D6 KW fu (n+6) (.func 240) [.nilSlice,v] m=some [⟨.nilSlice,ext m [A9 [v]]⟩]:=by
 rw [enter (sf:=f240) rfl rfl]
 obtain⟨N,rfl⟩:∃M,fu=M+1:=⟨fu-1,by omega⟩
 have hz:=hv.cells
 have c153:D6 KW (N+1) (n+5) (.func 183) [.nilSlice] (ext m [A9 [v]])=some [⟨.nilSlice,ext m [A9 [v]]⟩]:=by
  rw [enter (sf:=f183) rfl rfl]
  simp [f183,C8,trD,G9,o9,l6,j3]
 have c130:D6 KW (N+1) (n+4) (.func 127) [.nilSlice,.func (.func 307) [] [.ptr m.next 0]] (ext m [A9 [v]])=some [⟨.int .i64 (.negSucc 0),ext m [A9 [v]]⟩]:=by
  rw [enter (sf:=f127) rfl rfl]
  simp [f127,C8,trD,G9,o9,l6,j3,G5,DJ]
 have c299:D6 KW (N+1) (n+5) (.func 306) [.nilSlice,.func (.func 307) [] [.ptr m.next 0]] (ext m [A9 [v]])=some [⟨.nilSlice,ext m [A9 [v]]⟩]:=by
  rw [enter (sf:=f306) rfl rfl]
  simp [f306,C8,trD,G9,o9,l6,j3,c130]
 simp [f240,C8,trD,G9,o9,l6,j3,x9,hz,c153,c299]
theorem TL {m:Mem}{v:j5}{xs:List Int}(hm:m.Ok)(hl:m.lim≤m.next)(hv:bW m v xs)(hb:xs.length<1000)(n fu:Nat)(hfu:1000≤fu):
  ∃v1 v2 m',D6 KW fu (n+7) (.func 313) [v,.nilSlice] m=some [⟨.tuple [v1,v2,.int .i64 (bif (Q8 (okB xs) xs.length 0&&decide (xs.length≤6)) then 0 else 1)],m'⟩]∧Ext m m':=by
 rw [enter (sf:=f313) rfl rfl]
 have c1:=LK hv hb (n+4) fu hfu
 have c2:D6 KW fu (n+6) (.func 394) [.nilSlice] m=some [⟨.bool true,m⟩]:=LK (m:=m) (v:=.nilSlice) (xs:=[]) (.inl ⟨rfl,rfl⟩) (by simp) (n+4) fu hfu
 cases ha:(Q8 (okB xs) xs.length 0&&decide (xs.length≤6)) with
 | false=>
  rw [ha] at c1
  refine⟨.nilSlice,.nilSlice,m,?_,Ext.refl hm⟩
  simp [f313,C8,trD,G9,o9,l6,j3,c1]
 | true=>
  rw [ha] at c1
  obtain⟨v',m',g1,g2,g3⟩:=LM hm hl hv hb n fu hfu
  have hv2:=hv.ext g2
  have c3:=IZ (m:=m') g2.ok (by have h1:=g2.lim;have h2:=g2.next;omega) hv2 n fu hfu
  refine⟨v',.nilSlice,ext m' [A9 [v]],?_,g2.trans (D8 g2.ok _)⟩
  simp [f313,C8,trD,G9,o9,l6,j3,c1,c2,g1,g3.pan,c3]
theorem LP {m:Mem}{v:j5}{xs:List Int}(hm:m.Ok)(hl:m.lim≤m.next)(hv:bW m v xs)(hb:xs.length<1000)(n fu:Nat)(hfu:1000≤fu):
  ∃m',D6 KW fu (n+8) (.func 243) [v] m=some [⟨.bool (Q8 (okB xs) xs.length 0&&decide (xs.length≤6)),m'⟩]∧Ext m m':=by
 rw [enter (sf:=f243) rfl rfl]
 obtain⟨v1,v2,m',g1,g2⟩:=TL hm hl hv hb n fu hfu
 refine⟨m',?_,g2⟩
 cases ha:(Q8 (okB xs) xs.length 0&&decide (xs.length≤6))<;>rw [ha] at g1<;>simp [f243,C8,trD,G9,o9,l6,j3,g1]
theorem TM {m:Mem}{v w:j5}{xs ys:List Int}(hv:bW m v xs)(hw:bW m w ys)(hxy:ys.length=xs.length)(hb:xs.length<1000000)(cf:K8)(fu:Nat)(a2:j5):
  ∀(j i:Nat),i+j=xs.length→∀(N:Nat),j<N→∀(a4 a5:j5),
   ∃x k b4 b5,aj (fun env m k=>Lh cf fu none env m k) N (.nd (.nd (.nd .e (.int .i64 ((i:Nat):Int)) .e) w (.nd .e a5 .e)) v (.nd (.nd .e a4 .e) a2 (.nd .e (.bool false) .e))) m []=some [⟨x,(.nd (.nd (.nd .e (.int .i64 ((k:Nat):Int)) .e) w (.nd .e b5 .e)) v (.nd (.nd .e b4 .e) a2 (.nd .e (.bool false) .e))),m,[],none⟩]∧
    x=(if xs.drop i=ys.drop i then bB.exit 0 else .ret):=by
 have l1:=hv.len
 intro j
 induction j with
 | zero=>
  intro i hi N hN a4 a5
  obtain⟨N,rfl⟩:∃M,N=M+1:=⟨N-1,by omega⟩
  refine⟨.exit 0,i,.bool false,a5,?_,?_⟩
  ·rw [G5]
   have h:¬ i<xs.length:=by omega
   simp [Lh,C8,trD,G9,h,l1]
  ·rw [avD (by omega),avD (by omega)];rfl
 | succ j ih=>
  intro i hi N hN a4 a5
  obtain⟨N,rfl⟩:∃M,N=M+1:=⟨N-1,by omega⟩
  have h:i<xs.length:=by omega
  have h':i<ys.length:=by omega
  obtain⟨p,e1,_,e2⟩:=hv.at h
  obtain⟨q,e3,_,e4⟩:=hw.at h'
  by_cases he:xs[i]=ys[i]
  ·obtain⟨x,k,b4,b5,g1,g2⟩:=ih (i+1) (by omega) N (by omega) (.bool true) (.bool false)
   refine⟨x,k,b4,b5,?_,?_⟩
   ·rw [G5,← g1]
    simp [Lh,trD,G9,h,l1,e1,e2,e3,e4,he,U6 (i:=i) (by omega)]
   ·rw [g2]
    have hd:(xs.drop i=ys.drop i)↔(xs.drop (i+1)=ys.drop (i+1)):=by
     rw [avJ h,avJ h',he]
     exact⟨fun hh=>(axO hh).2,fun hh=>by rw [hh]⟩
    simp only [hd]
  ·refine⟨.ret,i,.bool true,.bool true,?_,?_⟩
   ·rw [G5]
    simp [Lh,trD,G9,h,l1,e1,e2,e3,e4,he]
   ·rw [if_neg]
    intro hh
    rw [avJ h,avJ h'] at hh
    exact he (axO hh).1
theorem LQ {m:Mem}{v w:j5}{xs ys:List Int}(hv:bW m v xs)(hw:bW m w ys)(hb:xs.length<1000)(n fu:Nat)(hfu:1000≤fu):
  D6 KW fu (n+1) (.func 34) [v,w] m=some [⟨.bool (decide (xs=ys)),m⟩]:=by
 rw [enter (sf:=f34) rfl rfl]
 have l1:=hv.len
 have l2:=hw.len
 by_cases hxy:ys.length=xs.length
 ·obtain⟨x,k,b4,b5,g1,g2⟩:=TM hv hw hxy (by omega) (D6 KW fu n) fu (.bool false) xs.length 0 (by omega) fu (by omega) .undef .undef
  have g2:x=if xs=ys then bB.exit 0 else .ret:=g2
  by_cases he:xs=ys
  ·rw [if_pos he] at g2
   subst g2
   simp [C8,f34,trD,G9,l1,l2,hxy,he] at g1 ⊢
   simp [g1]
  ·rw [if_neg he] at g2
   subst g2
   simp [C8,f34,trD,G9,l1,l2,hxy,he] at g1 ⊢
   simp [g1]
 ·have h1:¬ xs.length=ys.length:=fun h=>hxy h.symm
  have h2:¬ xs=ys:=fun h=>h1 (by rw [h])
  have h3:¬ ((xs.length:Nat):Int)=((ys.length:Nat):Int):=by omega
  simp [C8,f34,trD,G9,l1,l2,h3,h2]
structure aT (m:Mem)(f:Fct)(xa xb xl:List Int):Prop where
 a:bW m f.A xa
 b:bW m f.B xb
 l:bW m f.L xl
 la:xa.length<1000
 lb:xb.length<1000
 ll:xl.length<1000
theorem aT.ext {m m':Mem}(h:Ext m m'){f:Fct}{a b l:List Int}(k:aT m f a b l):aT m' f a b l:=⟨k.a.ext h,k.b.ext h,k.l.ext h,k.la,k.lb,k.ll⟩
theorem aT.same {m:Mem}{f:Fct}{a b l:List Int}(k:aT m f a b l):dH 100 (.agg f.cells) (.agg f.cells)=true:=by
 rw [Dt]
 simp [Fct.cells,Dr,GA,I6,gF k.a,gF k.b,gF k.l]
def tL (f g:Fct)(a b a' b':List Int):Bool:=
 decide (f.cid=g.cid)&&(decide (f.cday=g.cday)&&(decide (f.diff=g.diff)&&(decide (f.err=g.err)&&(decide (f.hlo=g.hlo)&&(decide (f.hhi=g.hhi)&&(decide (a=a')&&decide (b=b')))))))
def Fct.cmp (f:Fct):List j5:=[.int .i64 f.cid,.int .i64 f.cday,f.A,f.B,.int .i64 f.diff,.int .i64 f.err,.int .i64 f.hlo,.int .i64 f.hhi]
@[simp] theorem Fct.akm (f:Fct):f.cmp.length=8:=id rfl
@[simp] theorem Fct.akn (f:Fct):(f.cmp.drop 6).take 2=[.int .i64 f.hlo,.int .i64 f.hhi]:=id rfl
@[simp] theorem Fct.Q0 (f:Fct):[.int .i64 f.cid,.int .i64 f.cday,f.A,f.B,.int .i64 f.diff,.int .i64 f.err,.int .i64 f.hlo,.int .i64 f.hhi]=f.cmp:=id rfl
@[simp] theorem Fct.k0 (f:Fct)(h:0<f.cmp.length):f.cmp[0]'h=j5.int .i64 f.cid:=id rfl
@[simp] theorem Fct.kk0 (f:Fct):f.cmp[0]?=some (j5.int .i64 f.cid):=id rfl
@[simp] theorem Fct.k1 (f:Fct)(h:1<f.cmp.length):f.cmp[1]'h=j5.int .i64 f.cday:=id rfl
@[simp] theorem Fct.kk1 (f:Fct):f.cmp[1]?=some (j5.int .i64 f.cday):=id rfl
@[simp] theorem Fct.k2 (f:Fct)(h:2<f.cmp.length):f.cmp[2]'h=f.A:=id rfl
@[simp] theorem Fct.kk2 (f:Fct):f.cmp[2]?=some (f.A):=id rfl
@[simp] theorem Fct.k3 (f:Fct)(h:3<f.cmp.length):f.cmp[3]'h=f.B:=id rfl
@[simp] theorem Fct.kk3 (f:Fct):f.cmp[3]?=some (f.B):=id rfl
@[simp] theorem Fct.k4 (f:Fct)(h:4<f.cmp.length):f.cmp[4]'h=j5.int .i64 f.diff:=id rfl
@[simp] theorem Fct.kk4 (f:Fct):f.cmp[4]?=some (j5.int .i64 f.diff):=id rfl
@[simp] theorem Fct.k5 (f:Fct)(h:5<f.cmp.length):f.cmp[5]'h=j5.int .i64 f.err:=id rfl
@[simp] theorem Fct.kk5 (f:Fct):f.cmp[5]?=some (j5.int .i64 f.err):=id rfl
@[simp] theorem Fct.k6 (f:Fct)(h:6<f.cmp.length):f.cmp[6]'h=j5.int .i64 f.hlo:=id rfl
@[simp] theorem Fct.kk6 (f:Fct):f.cmp[6]?=some (j5.int .i64 f.hlo):=id rfl
@[simp] theorem Fct.k7 (f:Fct)(h:7<f.cmp.length):f.cmp[7]'h=j5.int .i64 f.hhi:=id rfl
@[simp] theorem Fct.kk7 (f:Fct):f.cmp[7]?=some (j5.int .i64 f.hhi):=id rfl
theorem aaF {m:Mem}{f g:Fct}{a b l a' b' l':List Int}(hm:m.Ok)(hf:aT m f a b l)(hg:aT m g a' b' l')(n fu:Nat)(hfu:1000≤fu):
  D6 KW fu (n+2) (.func 52) [.agg f.cmp,.agg g.cmp] m=some [⟨.bool (tL f g a b a' b'),ext m [A9 f.cmp,A9 g.cmp]⟩]:=by
 rw [enter (sf:=f52) rfl rfl]
 have hf:=hf.ext (D8 hm [A9 f.cmp,A9 g.cmp])
 have hg:=hg.ext (D8 hm [A9 f.cmp,A9 g.cmp])
 have c1:=LJ hf.a hg.a hf.la n fu hfu
 have c2:=LJ hf.b hg.b hf.lb n fu hfu
 by_cases h0:f.cid=g.cid
 ·by_cases h1:f.cday=g.cday
  ·by_cases h2:f.diff=g.diff
   ·by_cases h3:f.err=g.err
    ·by_cases h4:f.hlo=g.hlo
     ·by_cases h5:f.hhi=g.hhi
      ·by_cases h6:a=a'
       ·by_cases h7:b=b'
        ·simp [f52,C8,trD,G9,o9,l6,j3,x9,z8,l5 hm,l8 hm,A8 hm,w9 hm,C9,j6,o7,o8,J5,c1,c2,tL,h0,h1,h2,h3,h4,h5,h6,h7]
        ·simp [f52,C8,trD,G9,o9,l6,j3,x9,z8,l5 hm,l8 hm,A8 hm,w9 hm,C9,j6,o7,o8,J5,c1,c2,tL,h0,h1,h2,h3,h4,h5,h6,h7]
       ·simp [f52,C8,trD,G9,o9,l6,j3,x9,z8,l5 hm,l8 hm,A8 hm,w9 hm,C9,j6,o7,o8,J5,c1,c2,tL,h0,h1,h2,h3,h4,h5,h6]
      ·simp [f52,C8,trD,G9,o9,l6,j3,x9,z8,l5 hm,l8 hm,A8 hm,w9 hm,C9,j6,o7,o8,J5,c1,c2,tL,h0,h1,h2,h3,h4,h5]
     ·simp [f52,C8,trD,G9,o9,l6,j3,x9,z8,l5 hm,l8 hm,A8 hm,w9 hm,C9,j6,o7,o8,J5,c1,c2,tL,h0,h1,h2,h3,h4]
    ·simp [f52,C8,trD,G9,o9,l6,j3,x9,z8,l5 hm,l8 hm,A8 hm,w9 hm,C9,j6,o7,o8,J5,c1,c2,tL,h0,h1,h2,h3]
   ·simp [f52,C8,trD,G9,o9,l6,j3,x9,z8,l5 hm,l8 hm,A8 hm,w9 hm,C9,j6,o7,o8,J5,c1,c2,tL,h0,h1,h2]
  ·simp [f52,C8,trD,G9,o9,l6,j3,x9,z8,l5 hm,l8 hm,A8 hm,w9 hm,C9,j6,o7,o8,J5,c1,c2,tL,h0,h1]
 ·simp [f52,C8,trD,G9,o9,l6,j3,x9,z8,l5 hm,l8 hm,A8 hm,w9 hm,C9,j6,o7,o8,J5,c1,c2,tL,h0]
theorem aaG {m:Mem}{f g:Fct}{a b l a' b' l':List Int}(hm:m.Ok)(hf:aT m f a b l)(hg:aT m g a' b' l')(n fu:Nat)(hfu:1000≤fu):
  D6 KW fu (n+2) (.func 45) [.agg f.cmp,.agg g.cmp] m=some [⟨.bool (tL f g a b a' b'),ext m [A9 f.cmp,A9 g.cmp]⟩]:=by
 rw [enter (sf:=f45) rfl rfl]
 have hf:=hf.ext (D8 hm [A9 f.cmp,A9 g.cmp])
 have hg:=hg.ext (D8 hm [A9 f.cmp,A9 g.cmp])
 have c1:=LQ hf.a hg.a hf.la n fu hfu
 have c2:=LQ hf.b hg.b hf.lb n fu hfu
 by_cases h0:a=a'
 ·by_cases h1:b=b'
  ·by_cases h2:f.cid=g.cid
   ·by_cases h3:f.cday=g.cday
    ·by_cases h4:f.diff=g.diff
     ·by_cases h5:f.err=g.err
      ·by_cases h6:f.hlo=g.hlo
       ·by_cases h7:f.hhi=g.hhi
        ·simp [f45,C8,trD,G9,o9,l6,j3,x9,z8,l5 hm,l8 hm,A8 hm,w9 hm,C9,j6,o7,o8,J5,c1,c2,tL,h0,h1,h2,h3,h4,h5,h6,h7]
        ·simp [f45,C8,trD,G9,o9,l6,j3,x9,z8,l5 hm,l8 hm,A8 hm,w9 hm,C9,j6,o7,o8,J5,c1,c2,tL,h0,h1,h2,h3,h4,h5,h6,h7]
       ·simp [f45,C8,trD,G9,o9,l6,j3,x9,z8,l5 hm,l8 hm,A8 hm,w9 hm,C9,j6,o7,o8,J5,c1,c2,tL,h0,h1,h2,h3,h4,h5,h6]
      ·simp [f45,C8,trD,G9,o9,l6,j3,x9,z8,l5 hm,l8 hm,A8 hm,w9 hm,C9,j6,o7,o8,J5,c1,c2,tL,h0,h1,h2,h3,h4,h5]
     ·simp [f45,C8,trD,G9,o9,l6,j3,x9,z8,l5 hm,l8 hm,A8 hm,w9 hm,C9,j6,o7,o8,J5,c1,c2,tL,h0,h1,h2,h3,h4]
    ·simp [f45,C8,trD,G9,o9,l6,j3,x9,z8,l5 hm,l8 hm,A8 hm,w9 hm,C9,j6,o7,o8,J5,c1,c2,tL,h0,h1,h2,h3]
   ·simp [f45,C8,trD,G9,o9,l6,j3,x9,z8,l5 hm,l8 hm,A8 hm,w9 hm,C9,j6,o7,o8,J5,c1,c2,tL,h0,h1,h2]
  ·simp [f45,C8,trD,G9,o9,l6,j3,x9,z8,l5 hm,l8 hm,A8 hm,w9 hm,C9,j6,o7,o8,J5,c1,c2,tL,h0,h1]
 ·simp [f45,C8,trD,G9,o9,l6,j3,x9,z8,l5 hm,l8 hm,A8 hm,w9 hm,C9,j6,o7,o8,J5,c1,c2,tL,h0]
set_option maxRecDepth 100000
set_option maxHeartbeats 2000000
def bQ (f g:Fct):Bool:=(decide (f.room=g.room)&&decide (f.no=g.no))&&(decide (f.known=g.known)&&(decide (f.kind=g.kind)&&((decide (f.flo=g.flo)&&decide (f.fhi=g.fhi))&&((decide (f.gid=g.gid)&&(decide (f.made=g.made)&&(decide (f.nom=g.nom)&&(decide (f.tlo=g.tlo)&&(decide (f.thi=g.thi)&&(decide (f.gn=g.gn)&&(decide (f.gd=g.gd)&&decide (f.wear=g.wear))))))))&&((decide (f.ug=g.ug)&&decide (f.ud=g.ud))&&((decide (f.lg=g.lg)&&(decide (f.ll=g.ll)&&(decide (f.lh=g.lh)&&decide (f.lw=g.lw))))&&((decide (f.tr=g.tr)&&decide (f.tn=g.tn)))))))))
def bD (f g:Fct)(a b l a' b' l':List Int):Bool:=bQ f g&&(tL f g a b a' b'&&(decide (f.mday=g.mday)&&decide (l=l')))
def Fct.nm (f:Fct):Blk:=A9 [.int .i64 f.room,.int .i64 f.no]
theorem xg {m:Mem}{f g:Fct}{a b l a' b' l':List Int}(hm:m.Ok)(hl:m.lim≤m.next)(hf:aT m f a b l)(hg:aT m g a' b' l')(n fu:Nat)(hfu:1000≤fu):
  D6 KW fu (n+3) (.func 19) [.agg f.cells,.agg g.cells] m=some [⟨.bool (bD f g a b l a' b' l'),ext m ([A9 f.cells,A9 g.cells,A9 f.cells,f.nm,A9 g.cells,g.nm]++(bif bQ f g then [A9 f.cmp,A9 g.cmp] else []))⟩]:=by
 rw [enter (sf:=f19) rfl rfl]
 have s1:=hf.same
 have s2:=hg.same
 have c1:=LH (n+1) fu f (ext m [A9 f.cells,A9 g.cells]) (J4 hm _) (by simp;omega)
 have c2:=LH (n+1) fu g (ext m [A9 f.cells,A9 g.cells,A9 f.cells,f.nm]) (J4 hm _) (by simp;omega)
 have hf2:=hf.ext (D8 hm [A9 f.cells,A9 g.cells,A9 f.cells,f.nm,A9 g.cells,g.nm])
 have hg2:=hg.ext (D8 hm [A9 f.cells,A9 g.cells,A9 f.cells,f.nm,A9 g.cells,g.nm])
 have c3:=aaF (J4 hm _) hf2 hg2 n fu hfu
 have hf3:=hf.ext (D8 hm [A9 f.cells,A9 g.cells,A9 f.cells,f.nm,A9 g.cells,g.nm,A9 f.cmp,A9 g.cmp])
 have hg3:=hg.ext (D8 hm [A9 f.cells,A9 g.cells,A9 f.cells,f.nm,A9 g.cells,g.nm,A9 f.cmp,A9 g.cmp])
 have c4:=LJ hf3.l hg3.l hf.ll (n+1) fu hfu
 simp only [Fct.nm] at c1 c2 c3 c4 ⊢
 cases h0:(decide (f.room=g.room)&&decide (f.no=g.no)) with
 | true=>
  cases h1:decide (f.known=g.known) with
  | true=>
   cases h2:decide (f.kind=g.kind) with
   | true=>
    cases h3:(decide (f.flo=g.flo)&&decide (f.fhi=g.fhi)) with
    | true=>
     cases h4:(decide (f.gid=g.gid)&&(decide (f.made=g.made)&&(decide (f.nom=g.nom)&&(decide (f.tlo=g.tlo)&&(decide (f.thi=g.thi)&&(decide (f.gn=g.gn)&&(decide (f.gd=g.gd)&&decide (f.wear=g.wear)))))))) with
     | true=>
      cases h5:(decide (f.ug=g.ug)&&decide (f.ud=g.ud)) with
      | true=>
       cases h6:(decide (f.lg=g.lg)&&(decide (f.ll=g.ll)&&(decide (f.lh=g.lh)&&decide (f.lw=g.lw)))) with
       | true=>
        cases h7:(decide (f.tr=g.tr)&&decide (f.tn=g.tn)) with
        | true=>
         cases h8:tL f g a b a' b' with
         | true=>
          cases h9:decide (f.mday=g.mday) with
          | true=>
           cases h10:decide (l=l') with
           | true=>
            simp [f19,C8,trD,G9,o9,l6,j3,x9,z8,l5 hm,l8 hm,A8 hm,w9 hm,C9,j6,o7,o8,J5,c1,c2,c3,c4,s1,s2,bD,bQ,h0,h1,h2,h3,h4,h5,h6,h7,h8,h9,h10]
           | false=>simp [f19,C8,trD,G9,o9,l6,j3,x9,z8,l5 hm,l8 hm,A8 hm,w9 hm,C9,j6,o7,o8,J5,c1,c2,c3,c4,s1,s2,bD,bQ,h0,h1,h2,h3,h4,h5,h6,h7,h8,h9,h10]
          | false=>simp [f19,C8,trD,G9,o9,l6,j3,x9,z8,l5 hm,l8 hm,A8 hm,w9 hm,C9,j6,o7,o8,J5,c1,c2,c3,c4,s1,s2,bD,bQ,h0,h1,h2,h3,h4,h5,h6,h7,h8,h9]
         | false=>simp [f19,C8,trD,G9,o9,l6,j3,x9,z8,l5 hm,l8 hm,A8 hm,w9 hm,C9,j6,o7,o8,J5,c1,c2,c3,c4,s1,s2,bD,bQ,h0,h1,h2,h3,h4,h5,h6,h7,h8]
        | false=>simp [f19,C8,trD,G9,o9,l6,j3,x9,z8,l5 hm,l8 hm,A8 hm,w9 hm,C9,j6,o7,o8,J5,c1,c2,c3,c4,s1,s2,bD,bQ,h0,h1,h2,h3,h4,h5,h6,h7]
       | false=>simp [f19,C8,trD,G9,o9,l6,j3,x9,z8,l5 hm,l8 hm,A8 hm,w9 hm,C9,j6,o7,o8,J5,c1,c2,c3,c4,s1,s2,bD,bQ,h0,h1,h2,h3,h4,h5,h6]
      | false=>simp [f19,C8,trD,G9,o9,l6,j3,x9,z8,l5 hm,l8 hm,A8 hm,w9 hm,C9,j6,o7,o8,J5,c1,c2,c3,c4,s1,s2,bD,bQ,h0,h1,h2,h3,h4,h5]
     | false=>simp [f19,C8,trD,G9,o9,l6,j3,x9,z8,l5 hm,l8 hm,A8 hm,w9 hm,C9,j6,o7,o8,J5,c1,c2,c3,c4,s1,s2,bD,bQ,h0,h1,h2,h3,h4]
    | false=>simp [f19,C8,trD,G9,o9,l6,j3,x9,z8,l5 hm,l8 hm,A8 hm,w9 hm,C9,j6,o7,o8,J5,c1,c2,c3,c4,s1,s2,bD,bQ,h0,h1,h2,h3]
   | false=>simp [f19,C8,trD,G9,o9,l6,j3,x9,z8,l5 hm,l8 hm,A8 hm,w9 hm,C9,j6,o7,o8,J5,c1,c2,c3,c4,s1,s2,bD,bQ,h0,h1,h2]
  | false=>simp [f19,C8,trD,G9,o9,l6,j3,x9,z8,l5 hm,l8 hm,A8 hm,w9 hm,C9,j6,o7,o8,J5,c1,c2,c3,c4,s1,s2,bD,bQ,h0,h1]
 | false=>simp [f19,C8,trD,G9,o9,l6,j3,x9,z8,l5 hm,l8 hm,A8 hm,w9 hm,C9,j6,o7,o8,J5,c1,c2,c3,c4,s1,s2,bD,bQ,h0]
theorem QX {m:Mem}{f g:Fct}{a b l a' b' l':List Int}(hm:m.Ok)(hf:aT m f a b l)(hg:aT m g a' b' l')(n fu:Nat)(hfu:1000≤fu):
  D6 KW fu (n+3) (.func 13) [.agg f.cells,.agg g.cells] m=some [⟨.bool (bD f g a b l a' b' l'),ext m [A9 f.cells,A9 g.cells,A9 f.cmp,A9 g.cmp]⟩]:=by
 rw [enter (sf:=f13) rfl rfl]
 have hf2:=hf.ext (D8 hm [A9 f.cells,A9 g.cells])
 have hg2:=hg.ext (D8 hm [A9 f.cells,A9 g.cells])
 have c3:=aaG (J4 hm _) hf2 hg2 n fu hfu
 have hf3:=hf.ext (D8 hm [A9 f.cells,A9 g.cells,A9 f.cmp,A9 g.cmp])
 have hg3:=hg.ext (D8 hm [A9 f.cells,A9 g.cells,A9 f.cmp,A9 g.cmp])
 have c4:=LQ hf3.l hg3.l hf.ll (n+1) fu hfu
 cases h0:decide (f.room=g.room) with
 | true=>
  cases h1:decide (f.no=g.no) with
  | true=>
   cases h2:decide (f.known=g.known) with
   | true=>
    cases h3:decide (f.kind=g.kind) with
    | true=>
     cases h4:(decide (f.flo=g.flo)&&decide (f.fhi=g.fhi)) with
     | true=>
      cases h5:(decide (f.gid=g.gid)&&(decide (f.made=g.made)&&(decide (f.nom=g.nom)&&(decide (f.tlo=g.tlo)&&(decide (f.thi=g.thi)&&(decide (f.gn=g.gn)&&(decide (f.gd=g.gd)&&decide (f.wear=g.wear)))))))) with
      | true=>
       cases h6:(decide (f.ug=g.ug)&&decide (f.ud=g.ud)) with
       | true=>
        cases h7:(decide (f.lg=g.lg)&&(decide (f.ll=g.ll)&&(decide (f.lh=g.lh)&&decide (f.lw=g.lw)))) with
        | true=>
         cases h8:tL f g a b a' b' with
         | true=>
          cases h9:decide (f.mday=g.mday) with
          | true=>
           cases h10:decide (l=l') with
           | true=>
            cases h11:(decide (f.tr=g.tr)&&decide (f.tn=g.tn)) with
            | true=>
             simp [f13,C8,trD,G9,o9,l6,j3,x9,z8,l5 hm,l8 hm,A8 hm,w9 hm,C9,j6,o7,o8,J5,c3,c4,bD,bQ,h0,h1,h2,h3,h4,h5,h6,h7,h8,h9,h10,h11]
            | false=>simp [f13,C8,trD,G9,o9,l6,j3,x9,z8,l5 hm,l8 hm,A8 hm,w9 hm,C9,j6,o7,o8,J5,c3,c4,bD,bQ,h0,h1,h2,h3,h4,h5,h6,h7,h8,h9,h10,h11]
           | false=>simp [f13,C8,trD,G9,o9,l6,j3,x9,z8,l5 hm,l8 hm,A8 hm,w9 hm,C9,j6,o7,o8,J5,c3,c4,bD,bQ,h0,h1,h2,h3,h4,h5,h6,h7,h8,h9,h10]
          | false=>simp [f13,C8,trD,G9,o9,l6,j3,x9,z8,l5 hm,l8 hm,A8 hm,w9 hm,C9,j6,o7,o8,J5,c3,c4,bD,bQ,h0,h1,h2,h3,h4,h5,h6,h7,h8,h9]
         | false=>simp [f13,C8,trD,G9,o9,l6,j3,x9,z8,l5 hm,l8 hm,A8 hm,w9 hm,C9,j6,o7,o8,J5,c3,c4,bD,bQ,h0,h1,h2,h3,h4,h5,h6,h7,h8]
        | false=>simp [f13,C8,trD,G9,o9,l6,j3,x9,z8,l5 hm,l8 hm,A8 hm,w9 hm,C9,j6,o7,o8,J5,c3,c4,bD,bQ,h0,h1,h2,h3,h4,h5,h6,h7]
       | false=>simp [f13,C8,trD,G9,o9,l6,j3,x9,z8,l5 hm,l8 hm,A8 hm,w9 hm,C9,j6,o7,o8,J5,c3,c4,bD,bQ,h0,h1,h2,h3,h4,h5,h6]
      | false=>simp [f13,C8,trD,G9,o9,l6,j3,x9,z8,l5 hm,l8 hm,A8 hm,w9 hm,C9,j6,o7,o8,J5,c3,c4,bD,bQ,h0,h1,h2,h3,h4,h5]
     | false=>simp [f13,C8,trD,G9,o9,l6,j3,x9,z8,l5 hm,l8 hm,A8 hm,w9 hm,C9,j6,o7,o8,J5,c3,c4,bD,bQ,h0,h1,h2,h3,h4]
    | false=>simp [f13,C8,trD,G9,o9,l6,j3,x9,z8,l5 hm,l8 hm,A8 hm,w9 hm,C9,j6,o7,o8,J5,c3,c4,bD,bQ,h0,h1,h2,h3]
   | false=>simp [f13,C8,trD,G9,o9,l6,j3,x9,z8,l5 hm,l8 hm,A8 hm,w9 hm,C9,j6,o7,o8,J5,c3,c4,bD,bQ,h0,h1,h2]
  | false=>simp [f13,C8,trD,G9,o9,l6,j3,x9,z8,l5 hm,l8 hm,A8 hm,w9 hm,C9,j6,o7,o8,J5,c3,c4,bD,bQ,h0,h1]
 | false=>simp [f13,C8,trD,G9,o9,l6,j3,x9,z8,l5 hm,l8 hm,A8 hm,w9 hm,C9,j6,o7,o8,J5,c3,c4,bD,bQ,h0]
def M0 (f:Fct):Fct:={room:=f.room,no:=f.no,known:=f.known,kind:=f.kind,flo:=0,fhi:=0,gid:=0,made:=0,nom:=0,tlo:=0,thi:=0,gn:=0,gd:=0,wear:=0,ug:=0,ud:=0,lg:=0,ll:=0,lh:=0,lw:=0,cid:=0,cday:=0,A:=.nilSlice,B:=.nilSlice,diff:=0,err:=0,hlo:=0,hhi:=0,mday:=0,L:=.nilSlice,tr:=0,tn:=0}
def M6 (f:Fct):Fct:=if f.kind=1 then {M0 f with flo:=f.flo,fhi:=f.fhi} else if f.kind=2 then {M0 f with gid:=f.gid,made:=f.made,nom:=f.nom,tlo:=f.tlo,thi:=f.thi,gn:=f.gn,gd:=f.gd,wear:=f.wear} else if f.kind=3 then {M0 f with ug:=f.ug,ud:=f.ud} else if f.kind=4 then {M0 f with lg:=f.lg,ll:=f.ll,lh:=f.lh,lw:=f.lw} else if f.kind=5 then {M0 f with cid:=f.cid,cday:=f.cday,A:=f.A,B:=f.B,diff:=f.diff,err:=f.err,hlo:=f.hlo,hhi:=f.hhi} else if f.kind=6 then {M0 f with mday:=f.mday,L:=f.L} else if f.kind=7 then {M0 f with tr:=f.tr,tn:=f.tn} else M0 f
theorem nN {m:Mem}{f:Fct}{a b l:List Int}(hf:aT m f a b l):aT m (M6 f) (if f.kind=5 then a else []) (if f.kind=5 then b else []) (if f.kind=6 then l else []):=by
 have hn:bW m .nilSlice []:=.inl ⟨rfl,rfl⟩
 by_cases h5:f.kind=5
 ·refine⟨?_,?_,?_,?_,?_,?_⟩<;>simp [M6,h5,M0,hf.a,hf.b,hf.la,hf.lb,hn]
 ·by_cases h6:f.kind=6
  ·refine⟨?_,?_,?_,?_,?_,?_⟩<;>simp [M6,h6,M0,hf.l,hf.ll,hn]
  ·have e:(M6 f).A=.nilSlice∧(M6 f).B=.nilSlice∧(M6 f).L=.nilSlice:=by
    unfold M6
    simp only [h5,h6,if_false]
    repeat' split
    all_goals exact⟨rfl,rfl,rfl⟩
   simp only [h5,h6,if_false]
   exact⟨by rw [e.1];exact hn,by rw [e.2.1];exact hn,by rw [e.2.2];exact hn,by simp,by simp,by simp⟩
theorem aaH {m:Mem}{f:Fct}(hm:m.Ok)(hl:m.lim≤m.next){a b l:List Int}(hf:aT m f a b l)(n fu:Nat):
  D6 KW fu (n+1) (.func 48) [.agg f.cells] m=some [⟨.agg (M6 f).cells,ext m [A9 f.cells,A9 (M6 f).cells,A9 (M6 f).cells]⟩]:=by
 rw [enter (sf:=f48) rfl rfl]
 have o1:=hf.a.J5
 have o2:=hf.b.J5
 have o3:=hf.l.J5
 have hn:J5 .nilSlice=true:=rfl
 have hi:∀i,J5 (.int .i64 i)=true:=fun _=>rfl
 by_cases k1:f.kind=1
 ·simp [-Fct.Q0,f48,C8,trD,G9,o9,l6,j3,x9,z8,O6 hm hl,C9,j6,o7,o8,o1,o2,o3,hn,hi,M6,M0,Fct.cells,k1]
 by_cases k2:f.kind=2
 ·simp [-Fct.Q0,f48,C8,trD,G9,o9,l6,j3,x9,z8,O6 hm hl,C9,j6,o7,o8,o1,o2,o3,hn,hi,M6,M0,Fct.cells,k2]
 by_cases k3:f.kind=3
 ·simp [-Fct.Q0,f48,C8,trD,G9,o9,l6,j3,x9,z8,O6 hm hl,C9,j6,o7,o8,o1,o2,o3,hn,hi,M6,M0,Fct.cells,k3]
 by_cases k4:f.kind=4
 ·simp [-Fct.Q0,f48,C8,trD,G9,o9,l6,j3,x9,z8,O6 hm hl,C9,j6,o7,o8,o1,o2,o3,hn,hi,M6,M0,Fct.cells,k4]
 by_cases k5:f.kind=5
 ·simp [-Fct.Q0,f48,C8,trD,G9,o9,l6,j3,x9,z8,O6 hm hl,C9,j6,o7,o8,o1,o2,o3,hn,hi,M6,M0,Fct.cells,k5]
 by_cases k6:f.kind=6
 ·simp [-Fct.Q0,f48,C8,trD,G9,o9,l6,j3,x9,z8,O6 hm hl,C9,j6,o7,o8,o1,o2,o3,hn,hi,M6,M0,Fct.cells,k6]
 by_cases k7:f.kind=7
 ·simp [-Fct.Q0,f48,C8,trD,G9,o9,l6,j3,x9,z8,O6 hm hl,C9,j6,o7,o8,o1,o2,o3,hn,hi,M6,M0,Fct.cells,k7]
 simp [-Fct.Q0,f48,C8,trD,G9,o9,l6,j3,x9,z8,O6 hm hl,C9,j6,o7,o8,o1,o2,o3,hn,hi,M6,M0,Fct.cells,k1,k2,k3,k4,k5,k6,k7]
def qo (xs:List Int):Bool:=Q8 (okB xs) xs.length 0&&decide (xs.length≤6)
def DL (f:Fct):Bool:=(decide (0≤f.flo)&&decide (f.flo≤f.fhi)&&decide (f.fhi≤1000000))
def Nu (f:Fct):Bool:=(decide (1≤f.ug)&&decide (f.ug≤1099511627776))&&(decide (0≤f.ud)&&decide (f.ud≤20000))
def oO (f:Fct):Bool:=(decide (1≤f.lg)&&decide (f.lg≤1099511627776))&&((decide (0≤f.ll)&&decide (f.ll≤f.lh)&&decide (f.lh≤20000))&&(decide (0≤f.lw)&&decide (f.lw≤1048576)))
def bR (f:Fct)(a b:List Int):Bool:=decide (f.cid=0)&&((decide (0≤f.cday)&&decide (f.cday≤20000))&&((decide (-1125899906842624≤f.diff)&&decide (f.diff≤1125899906842624))&&((decide (0≤f.err)&&decide (f.err≤1073741824))&&((decide (-10000≤f.hlo)&&decide (f.hlo≤f.hhi)&&decide (f.hhi≤10000))&&(qo a&&qo b)))))
def Jt (f:Fct)(l:List Int):Bool:=Q8 (okB l) l.length 0&&((decide (0≤f.mday)&&decide (f.mday≤19999))&&(decide (2≤l.length)&&decide (l.length≤5)))
def wdB (f:Fct):Bool:=(decide (1≤f.tr)&&decide (f.tr≤6))&&((decide (1≤f.tn)&&decide (f.tn≤60)) && !(decide (f.tr=f.room)&&decide (f.tn=f.no)))
theorem TN (n fu:Nat)(f:Fct)(m:Mem)(hm:m.Ok)(hl:m.lim≤m.next):∃m',D6 KW fu (n+3) (.func 137) [.agg f.cells] m=some [⟨.bool (oO f),m'⟩]∧Ext m m':=by
 rw [enter (sf:=f137) rfl rfl]
 have c1:=FB (n+1) fu f.ll f.lh 0 20000 (ext m [A9 f.cells]) (J4 hm _)
 cases h0:(decide (1≤f.lg)&&decide (f.lg≤1099511627776)) with
 | true=>
  cases h1:(decide (0≤f.ll)&&decide (f.ll≤f.lh)&&decide (f.lh≤20000)) with
  | true=>
   cases h2:(decide (0≤f.lw)&&decide (f.lw≤1048576)) with
   | true=>
    exact⟨ext m [A9 f.cells,A9 [.int .i64 f.ll,.int .i64 f.lh]],by simp [f137,C8,trD,G9,o9,l6,j3,x9,z8,l5 hm,l8 hm,A8 hm,w9 hm,C9,j6,o7,o8,J5,kI,O9,c1,oO,h0,h1,h2],D8 hm _⟩
   | false=>exact⟨ext m [A9 f.cells,A9 [.int .i64 f.ll,.int .i64 f.lh]],by simp [f137,C8,trD,G9,o9,l6,j3,x9,z8,l5 hm,l8 hm,A8 hm,w9 hm,C9,j6,o7,o8,J5,kI,O9,c1,oO,h0,h1,h2],D8 hm _⟩
  | false=>exact⟨ext m [A9 f.cells,A9 [.int .i64 f.ll,.int .i64 f.lh]],by simp [f137,C8,trD,G9,o9,l6,j3,x9,z8,l5 hm,l8 hm,A8 hm,w9 hm,C9,j6,o7,o8,J5,kI,O9,c1,oO,h0,h1],D8 hm _⟩
 | false=>exact⟨ext m [A9 f.cells],by simp [f137,C8,trD,G9,o9,l6,j3,x9,z8,l5 hm,l8 hm,A8 hm,w9 hm,C9,j6,o7,o8,J5,kI,O9,c1,oO,h0],D8 hm _⟩
theorem TP {m:Mem}{f:Fct}{a b l:List Int}(hm:m.Ok)(hl:m.lim≤m.next)(hf:aT m f a b l)(n fu:Nat)(hfu:1000≤fu):
  ∃m',D6 KW fu (n+9) (.func 140) [.agg f.cmp] m=some [⟨.bool (bR f a b),m'⟩]∧Ext m m':=by
 rw [enter (sf:=f140) rfl rfl]
 have c1:=FB (n+7) fu f.hlo f.hhi (-10000) 10000 (ext m [A9 f.cmp]) (J4 hm _)
 have E2:=D8 hm [A9 f.cmp,A9 [.int .i64 f.hlo,.int .i64 f.hhi]]
 obtain⟨m3,g3,E3⟩:=LP (J4 hm _) (by simp;omega) (hf.a.ext E2) hf.la n fu hfu
 have q3:m3.get m.next=some (A9 f.cmp):=by rw [E3.old _ (by simp),l5 hm];rfl
 have E23:=E2.trans E3
 obtain⟨m4,g4,E4⟩:=LP (m:=m3) E3.ok (by have h1:=E23.lim;have h2:=E23.next;omega) (hf.b.ext E23) hf.lb n fu hfu
 cases h0:decide (f.cid=0) with
 | true=>
  cases h1:(decide (0≤f.cday)&&decide (f.cday≤20000)) with
  | true=>
   cases h2:(decide (-1125899906842624≤f.diff)&&decide (f.diff≤1125899906842624)) with
   | true=>
    cases h3:(decide (0≤f.err)&&decide (f.err≤1073741824)) with
    | true=>
     cases h4:(decide (-10000≤f.hlo)&&decide (f.hlo≤f.hhi)&&decide (f.hhi≤10000)) with
     | true=>
      cases h5:Q8 (okB a) a.length 0&&decide (a.length≤6) with
      | true=>
       cases h6:Q8 (okB b) b.length 0&&decide (b.length≤6) with
       | true=>
        exact⟨m4,by rw [h5] at g3;rw [h6] at g4;simp [f140,C8,trD,G9,o9,l6,j3,x9,z8,l5 hm,l8 hm,A8 hm,w9 hm,C9,j6,o7,o8,J5,O9,c1,g3,q3,g4,bR,qo,h0,h1,h2,h3,h4,h5,h6],E23.trans E4⟩
       | false=>exact⟨m4,by rw [h5] at g3;rw [h6] at g4;simp [f140,C8,trD,G9,o9,l6,j3,x9,z8,l5 hm,l8 hm,A8 hm,w9 hm,C9,j6,o7,o8,J5,O9,c1,g3,q3,g4,bR,qo,h0,h1,h2,h3,h4,h5,h6],E23.trans E4⟩
      | false=>exact⟨m3,by rw [h5] at g3;simp [f140,C8,trD,G9,o9,l6,j3,x9,z8,l5 hm,l8 hm,A8 hm,w9 hm,C9,j6,o7,o8,J5,O9,c1,g3,q3,bR,qo,h0,h1,h2,h3,h4,h5],E23⟩
     | false=>exact⟨ext m [A9 f.cmp,A9 [.int .i64 f.hlo,.int .i64 f.hhi]],by simp [f140,C8,trD,G9,o9,l6,j3,x9,z8,l5 hm,l8 hm,A8 hm,w9 hm,C9,j6,o7,o8,J5,O9,c1,bR,qo,h0,h1,h2,h3,h4],D8 hm _⟩
    | false=>exact⟨ext m [A9 f.cmp],by simp [f140,C8,trD,G9,o9,l6,j3,x9,z8,l5 hm,l8 hm,A8 hm,w9 hm,C9,j6,o7,o8,J5,O9,c1,bR,qo,h0,h1,h2,h3],D8 hm _⟩
   | false=>exact⟨ext m [A9 f.cmp],by simp [f140,C8,trD,G9,o9,l6,j3,x9,z8,l5 hm,l8 hm,A8 hm,w9 hm,C9,j6,o7,o8,J5,O9,c1,bR,qo,h0,h1,h2],D8 hm _⟩
  | false=>exact⟨ext m [A9 f.cmp],by simp [f140,C8,trD,G9,o9,l6,j3,x9,z8,l5 hm,l8 hm,A8 hm,w9 hm,C9,j6,o7,o8,J5,O9,c1,bR,qo,h0,h1],D8 hm _⟩
 | false=>exact⟨ext m [A9 f.cmp],by simp [f140,C8,trD,G9,o9,l6,j3,x9,z8,l5 hm,l8 hm,A8 hm,w9 hm,C9,j6,o7,o8,J5,O9,c1,bR,qo,h0],D8 hm _⟩
theorem TQ {m:Mem}{f:Fct}{a b l:List Int}(hm:m.Ok)(hl:m.lim≤m.next)(hf:aT m f a b l)(n fu:Nat)(hfu:1000≤fu):
  ∃m',D6 KW fu (n+10) (.func 139) [.agg f.cells] m=some [⟨.bool (bR f a b),m'⟩]∧Ext m m':=by
 rw [enter (sf:=f139) rfl rfl]
 obtain⟨m3,g3,E3⟩:=TP (J4 hm [A9 f.cells]) (by simp;omega) (hf.ext (D8 hm _)) n fu hfu
 exact⟨m3,by simp [f139,C8,trD,G9,o9,l6,j3,x9,z8,l5 hm,l8 hm,A8 hm,w9 hm,C9,j6,o7,o8,J5,g3],(D8 hm _).trans E3⟩
theorem TR {m:Mem}{f:Fct}{a b l:List Int}(hm:m.Ok)(hl:m.lim≤m.next)(hf:aT m f a b l)(n fu:Nat)(hfu:1000≤fu):
  ∃m',D6 KW fu (n+4) (.func 142) [.agg f.cells] m=some [⟨.bool (Jt f l),m'⟩]∧Ext m m':=by
 rw [enter (sf:=f142) rfl rfl]
 have g3:=TI (J4 hm [A9 f.cells]) (day:=f.mday) (hf.l.ext (D8 hm _)) hf.ll n fu hfu
 exact⟨ext m [A9 f.cells,A9 [.int .i64 f.mday,f.L]],by simp [f142,C8,trD,G9,o9,l6,j3,x9,z8,l5 hm,l8 hm,A8 hm,w9 hm,C9,j6,o7,o8,J5,g3,Jt],D8 hm _⟩
theorem TS {m:Mem}{f:Fct}{a b l:List Int}(hm:m.Ok)(hl:m.lim≤m.next)(hf:aT m f a b l)(n fu:Nat):
  ∃m',D6 KW fu (n+2) (.func 145) [.agg f.cells] m=some [⟨.bool (wdB f),m'⟩]∧Ext m m':=by
 rw [enter (sf:=f145) rfl rfl]
 have s1:=hf.same
 have s2:dH 100 (.agg [.int .i64 f.tr,.int .i64 f.tn]) (.agg [.int .i64 f.tr,.int .i64 f.tn])=true:=by
  rw [Dt];simp [Dr,GA,I6]
 have c1:=LH n fu f (ext m [A9 f.cells]) (J4 hm _) (by simp;omega)
 cases h0:(decide (1≤f.tr)&&decide (f.tr≤6)) with
 | true=>
  cases h1:(decide (1≤f.tn)&&decide (f.tn≤60)) with
  | true=>
   cases h2:(decide (f.tr=f.room)&&decide (f.tn=f.no)) with
   | true=>
    exact⟨ext m [A9 f.cells,A9 f.cells,A9 [.int .i64 f.room,.int .i64 f.no]],by simp [f145,C8,trD,G9,o9,l6,j3,x9,z8,l5 hm,l8 hm,A8 hm,w9 hm,C9,j6,o7,o8,J5,O9,c1,s1,s2,wdB,eq_comm (a:=f.room),eq_comm (a:=f.no),h0,h1,h2],D8 hm _⟩
   | false=>exact⟨ext m [A9 f.cells,A9 f.cells,A9 [.int .i64 f.room,.int .i64 f.no]],by simp [f145,C8,trD,G9,o9,l6,j3,x9,z8,l5 hm,l8 hm,A8 hm,w9 hm,C9,j6,o7,o8,J5,O9,c1,s1,s2,wdB,eq_comm (a:=f.room),eq_comm (a:=f.no),h0,h1,h2],D8 hm _⟩
  | false=>exact⟨ext m [A9 f.cells],by simp [f145,C8,trD,G9,o9,l6,j3,x9,z8,l5 hm,l8 hm,A8 hm,w9 hm,C9,j6,o7,o8,J5,O9,c1,s1,s2,wdB,eq_comm (a:=f.room),eq_comm (a:=f.no),h0,h1],D8 hm _⟩
 | false=>exact⟨ext m [A9 f.cells],by simp [f145,C8,trD,G9,o9,l6,j3,x9,z8,l5 hm,l8 hm,A8 hm,w9 hm,C9,j6,o7,o8,J5,O9,c1,s1,s2,wdB,eq_comm (a:=f.room),eq_comm (a:=f.no),h0],D8 hm _⟩
theorem TU {m:Mem}{f g:Fct}{a b l:List Int}{p:Nat}(hm:m.Ok)(hl:m.lim≤p)(hp:p<m.next)(hf:aT m f a b l)(hg:m.get p=some (A9 g.cells))(n fu:Nat):
  ∃m',D6 KW fu (n+1) (.func 131) [.ptr p 0,.agg f.cells] m=some [⟨.tuple [],m'⟩]∧m'.Ok∧m'.lim=m.lim∧m.next≤m'.next∧(∀i,i<m.next→i≠p→m'.get i=m.get i)∧m'.get p=some (A9 ({g with flo:=f.flo,fhi:=f.fhi}:Fct).cells):=by
 rw [enter (sf:=f131) rfl rfl]
 have o1:=hf.a.J5
 have o2:=hf.b.J5
 have o3:=hf.l.J5
 have hi:∀i,J5 (.int .i64 i)=true:=fun _=>rfl
 have hg1:(ext m [A9 f.cells]).get p=some (A9 g.cells):=by rw [G6 hm _ hp];exact hg
 have hp1:p<(ext m [A9 f.cells]).next:=by simp;omega
 refine⟨(ext m [A9 f.cells]).set p (A9 ({g with flo:=f.flo,fhi:=f.fhi}:Fct).cells),?_,(J4 hm _).set hp1 _,by simp,by simp,fun i hi hne=>?_,bf (J4 hm _) _ hp1 rfl⟩
 ·simp only [Fct.cells] at hg1 ⊢
  simp [-Fct.Q0,f131,C8,trD,G9,o9,l6,j3,x9,z8,l5 hm,l8 hm,A8 hm,w9 hm,C9,j6,o7,o8,aW,hl,hg1,o1,o2,o3,hi]
 ·rw [dV (J4 hm _) _ hp1 hne,G6 hm _ hi]
theorem TV {m:Mem}{f g:Fct}{a b l:List Int}{p:Nat}(hm:m.Ok)(hl:m.lim≤p)(hp:p<m.next)(hf:aT m f a b l)(hg:m.get p=some (A9 g.cells))(n fu:Nat):
  ∃m',D6 KW fu (n+1) (.func 133) [.ptr p 0,.agg f.cells] m=some [⟨.tuple [],m'⟩]∧m'.Ok∧m'.lim=m.lim∧m.next≤m'.next∧(∀i,i<m.next→i≠p→m'.get i=m.get i)∧m'.get p=some (A9 ({g with gid:=f.gid,made:=f.made,nom:=f.nom,tlo:=f.tlo,thi:=f.thi,gn:=f.gn,gd:=f.gd,wear:=f.wear}:Fct).cells):=by
 rw [enter (sf:=f133) rfl rfl]
 have o1:=hf.a.J5
 have o2:=hf.b.J5
 have o3:=hf.l.J5
 have hi:∀i,J5 (.int .i64 i)=true:=fun _=>rfl
 have hg1:(ext m [A9 f.cells]).get p=some (A9 g.cells):=by rw [G6 hm _ hp];exact hg
 have hp1:p<(ext m [A9 f.cells]).next:=by simp;omega
 refine⟨(ext m [A9 f.cells]).set p (A9 ({g with gid:=f.gid,made:=f.made,nom:=f.nom,tlo:=f.tlo,thi:=f.thi,gn:=f.gn,gd:=f.gd,wear:=f.wear}:Fct).cells),?_,(J4 hm _).set hp1 _,by simp,by simp,fun i hi hne=>?_,bf (J4 hm _) _ hp1 rfl⟩
 ·simp only [Fct.cells] at hg1 ⊢
  simp [-Fct.Q0,f133,C8,trD,G9,o9,l6,j3,x9,z8,l5 hm,l8 hm,A8 hm,w9 hm,C9,j6,o7,o8,aW,hl,hg1,o1,o2,o3,hi]
 ·rw [dV (J4 hm _) _ hp1 hne,G6 hm _ hi]
theorem TW {m:Mem}{f g:Fct}{a b l:List Int}{p:Nat}(hm:m.Ok)(hl:m.lim≤p)(hp:p<m.next)(hf:aT m f a b l)(hg:m.get p=some (A9 g.cells))(n fu:Nat):
  ∃m',D6 KW fu (n+1) (.func 136) [.ptr p 0,.agg f.cells] m=some [⟨.tuple [],m'⟩]∧m'.Ok∧m'.lim=m.lim∧m.next≤m'.next∧(∀i,i<m.next→i≠p→m'.get i=m.get i)∧m'.get p=some (A9 ({g with ug:=f.ug,ud:=f.ud}:Fct).cells):=by
 rw [enter (sf:=f136) rfl rfl]
 have o1:=hf.a.J5
 have o2:=hf.b.J5
 have o3:=hf.l.J5
 have hi:∀i,J5 (.int .i64 i)=true:=fun _=>rfl
 have hg1:(ext m [A9 f.cells]).get p=some (A9 g.cells):=by rw [G6 hm _ hp];exact hg
 have hp1:p<(ext m [A9 f.cells]).next:=by simp;omega
 refine⟨(ext m [A9 f.cells]).set p (A9 ({g with ug:=f.ug,ud:=f.ud}:Fct).cells),?_,(J4 hm _).set hp1 _,by simp,by simp,fun i hi hne=>?_,bf (J4 hm _) _ hp1 rfl⟩
 ·simp only [Fct.cells] at hg1 ⊢
  simp [-Fct.Q0,f136,C8,trD,G9,o9,l6,j3,x9,z8,l5 hm,l8 hm,A8 hm,w9 hm,C9,j6,o7,o8,aW,hl,hg1,o1,o2,o3,hi]
 ·rw [dV (J4 hm _) _ hp1 hne,G6 hm _ hi]
theorem TY {m:Mem}{f g:Fct}{a b l:List Int}{p:Nat}(hm:m.Ok)(hl:m.lim≤p)(hp:p<m.next)(hf:aT m f a b l)(hg:m.get p=some (A9 g.cells))(n fu:Nat):
  ∃m',D6 KW fu (n+1) (.func 138) [.ptr p 0,.agg f.cells] m=some [⟨.tuple [],m'⟩]∧m'.Ok∧m'.lim=m.lim∧m.next≤m'.next∧(∀i,i<m.next→i≠p→m'.get i=m.get i)∧m'.get p=some (A9 ({g with lg:=f.lg,ll:=f.ll,lh:=f.lh,lw:=f.lw}:Fct).cells):=by
 rw [enter (sf:=f138) rfl rfl]
 have o1:=hf.a.J5
 have o2:=hf.b.J5
 have o3:=hf.l.J5
 have hi:∀i,J5 (.int .i64 i)=true:=fun _=>rfl
 have hg1:(ext m [A9 f.cells]).get p=some (A9 g.cells):=by rw [G6 hm _ hp];exact hg
 have hp1:p<(ext m [A9 f.cells]).next:=by simp;omega
 refine⟨(ext m [A9 f.cells]).set p (A9 ({g with lg:=f.lg,ll:=f.ll,lh:=f.lh,lw:=f.lw}:Fct).cells),?_,(J4 hm _).set hp1 _,by simp,by simp,fun i hi hne=>?_,bf (J4 hm _) _ hp1 rfl⟩
 ·simp only [Fct.cells] at hg1 ⊢
  simp [-Fct.Q0,f138,C8,trD,G9,o9,l6,j3,x9,z8,l5 hm,l8 hm,A8 hm,w9 hm,C9,j6,o7,o8,aW,hl,hg1,o1,o2,o3,hi]
 ·rw [dV (J4 hm _) _ hp1 hne,G6 hm _ hi]
theorem Ua {m:Mem}{f g:Fct}{a b l:List Int}{p:Nat}(hm:m.Ok)(hl:m.lim≤p)(hp:p<m.next)(hf:aT m f a b l)(hg:m.get p=some (A9 g.cells))(n fu:Nat):
  ∃m',D6 KW fu (n+1) (.func 141) [.ptr p 0,.agg f.cells] m=some [⟨.tuple [],m'⟩]∧m'.Ok∧m'.lim=m.lim∧m.next≤m'.next∧(∀i,i<m.next→i≠p→m'.get i=m.get i)∧m'.get p=some (A9 ({g with cid:=f.cid,cday:=f.cday,A:=f.A,B:=f.B,diff:=f.diff,err:=f.err,hlo:=f.hlo,hhi:=f.hhi}:Fct).cells):=by
 rw [enter (sf:=f141) rfl rfl]
 have o1:=hf.a.J5
 have o2:=hf.b.J5
 have o3:=hf.l.J5
 have hi:∀i,J5 (.int .i64 i)=true:=fun _=>rfl
 have hg1:(ext m [A9 f.cells]).get p=some (A9 g.cells):=by rw [G6 hm _ hp];exact hg
 have hp1:p<(ext m [A9 f.cells]).next:=by simp;omega
 refine⟨(ext m [A9 f.cells]).set p (A9 ({g with cid:=f.cid,cday:=f.cday,A:=f.A,B:=f.B,diff:=f.diff,err:=f.err,hlo:=f.hlo,hhi:=f.hhi}:Fct).cells),?_,(J4 hm _).set hp1 _,by simp,by simp,fun i hi hne=>?_,bf (J4 hm _) _ hp1 rfl⟩
 ·simp only [Fct.cells] at hg1 ⊢
  simp [-Fct.Q0,f141,C8,trD,G9,o9,l6,j3,x9,z8,l5 hm,l8 hm,A8 hm,w9 hm,C9,j6,o7,o8,aW,hl,hg1,o1,o2,o3,hi]
 ·rw [dV (J4 hm _) _ hp1 hne,G6 hm _ hi]
theorem Ub {m:Mem}{f g:Fct}{a b l:List Int}{p:Nat}(hm:m.Ok)(hl:m.lim≤p)(hp:p<m.next)(hf:aT m f a b l)(hg:m.get p=some (A9 g.cells))(n fu:Nat):
  ∃m',D6 KW fu (n+1) (.func 144) [.ptr p 0,.agg f.cells] m=some [⟨.tuple [],m'⟩]∧m'.Ok∧m'.lim=m.lim∧m.next≤m'.next∧(∀i,i<m.next→i≠p→m'.get i=m.get i)∧m'.get p=some (A9 ({g with mday:=f.mday,L:=f.L}:Fct).cells):=by
 rw [enter (sf:=f144) rfl rfl]
 have o1:=hf.a.J5
 have o2:=hf.b.J5
 have o3:=hf.l.J5
 have hi:∀i,J5 (.int .i64 i)=true:=fun _=>rfl
 have hg1:(ext m [A9 f.cells]).get p=some (A9 g.cells):=by rw [G6 hm _ hp];exact hg
 have hp1:p<(ext m [A9 f.cells]).next:=by simp;omega
 refine⟨(ext m [A9 f.cells]).set p (A9 ({g with mday:=f.mday,L:=f.L}:Fct).cells),?_,(J4 hm _).set hp1 _,by simp,by simp,fun i hi hne=>?_,bf (J4 hm _) _ hp1 rfl⟩
 ·simp only [Fct.cells] at hg1 ⊢
  simp [-Fct.Q0,f144,C8,trD,G9,o9,l6,j3,x9,z8,l5 hm,l8 hm,A8 hm,w9 hm,C9,j6,o7,o8,aW,hl,hg1,o1,o2,o3,hi]
 ·rw [dV (J4 hm _) _ hp1 hne,G6 hm _ hi]
theorem Uc {m:Mem}{f g:Fct}{a b l:List Int}{p:Nat}(hm:m.Ok)(hl:m.lim≤p)(hp:p<m.next)(hf:aT m f a b l)(hg:m.get p=some (A9 g.cells))(n fu:Nat):
  ∃m',D6 KW fu (n+1) (.func 146) [.ptr p 0,.agg f.cells] m=some [⟨.tuple [],m'⟩]∧m'.Ok∧m'.lim=m.lim∧m.next≤m'.next∧(∀i,i<m.next→i≠p→m'.get i=m.get i)∧m'.get p=some (A9 ({g with tr:=f.tr,tn:=f.tn}:Fct).cells):=by
 rw [enter (sf:=f146) rfl rfl]
 have o1:=hf.a.J5
 have o2:=hf.b.J5
 have o3:=hf.l.J5
 have hi:∀i,J5 (.int .i64 i)=true:=fun _=>rfl
 have hg1:(ext m [A9 f.cells]).get p=some (A9 g.cells):=by rw [G6 hm _ hp];exact hg
 have hp1:p<(ext m [A9 f.cells]).next:=by simp;omega
 refine⟨(ext m [A9 f.cells]).set p (A9 ({g with tr:=f.tr,tn:=f.tn}:Fct).cells),?_,(J4 hm _).set hp1 _,by simp,by simp,fun i hi hne=>?_,bf (J4 hm _) _ hp1 rfl⟩
 ·simp only [Fct.cells] at hg1 ⊢
  simp [-Fct.Q0,f146,C8,trD,G9,o9,l6,j3,x9,z8,l5 hm,l8 hm,A8 hm,w9 hm,C9,j6,o7,o8,aW,hl,hg1,o1,o2,o3,hi]
 ·rw [dV (J4 hm _) _ hp1 hne,G6 hm _ hi]
theorem OQ (cf:K8)(fu:Nat)(m:Mem):∀(k a b:Nat),b<2^k→∀(N:Nat),2*k+1≤N→∀(a1:j5),
  ∃ba1,aj (fun env m k=>wZ cf fu none env m k) N (.nd (.nd (.nd .e (.int .u64 0) .e) a1 .e) (.int .u64 ((b:Nat):Int)) (.nd .e (.int .u64 ((a:Nat):Int)) .e)) m []=some [⟨.exit 0,(.nd (.nd (.nd .e (.int .u64 0) .e) ba1 .e) (.int .u64 ((0:Nat):Int)) (.nd .e (.int .u64 (((Nat.gcd a b):Nat):Int)) .e)),m,[],none⟩]:=by
 have stop:∀(a N:Nat) (a1:j5),aj (fun env m k=>wZ cf fu none env m k) (N+1) (.nd (.nd (.nd .e (.int .u64 0) .e) a1 .e) (.int .u64 ((0:Nat):Int)) (.nd .e (.int .u64 ((a:Nat):Int)) .e)) m []=some [⟨.exit 0,(.nd (.nd (.nd .e (.int .u64 0) .e) (.bool false) .e) (.int .u64 ((0:Nat):Int)) (.nd .e (.int .u64 ((a:Nat):Int)) .e)),m,[],none⟩]:=by
  intro a N a1
  rw [G5]
  simp [wZ,C8,trD,G9,o9,l6,j3]
 have step:∀(a b N:Nat) (a1:j5),b≠0→aj (fun env m k=>wZ cf fu none env m k) (N+1) (.nd (.nd (.nd .e (.int .u64 0) .e) a1 .e) (.int .u64 ((b:Nat):Int)) (.nd .e (.int .u64 ((a:Nat):Int)) .e)) m []=aj (fun env m k=>wZ cf fu none env m k) N (.nd (.nd (.nd .e (.int .u64 0) .e) (.bool true) .e) (.int .u64 (((a%b):Nat):Int)) (.nd .e (.int .u64 ((b:Nat):Int)) .e)) m []:=by
  intro a b N a1 hb
  rw [G5]
  have h1:¬ ((b:Nat):Int)=0:=by omega
  simp [wZ,C8,trD,G9,o9,l6,j3,hb,rE _ a b hb]
 intro k
 induction k with
 | zero=>
  intro a b hb N hN a1
  obtain⟨N,rfl⟩:∃M,N=M+1:=⟨N-1,by omega⟩
  have hb0:b=0:=by simpa using hb
  subst hb0
  exact⟨(.bool false),by rw [stop,axe]⟩
 | succ k ih=>
  intro a b hb N hN a1
  obtain⟨N,rfl⟩:∃M,N=M+2:=⟨N-2,by omega⟩
  by_cases h0:b=0
  ·subst h0
   exact⟨(.bool false),by rw [stop,axe]⟩
  ·by_cases hc:a%b=0
   ·refine⟨(.bool false),?_⟩
    have e:Nat.gcd a b=b:=by rw [axf,axn,hc,Nat.gcd_zero_left]
    rw [step _ _ _ _ h0,hc,stop,e]
   ·have h1:a%b<b:=awr _ (by omega)
    have h2:b%(a%b)<a%b:=awr _ (by omega)
    have h3:b%(a%b)+a%b≤b:=by
     have:=aw7 b (a%b)
     have h4:1≤b / (a%b):=(axL (by omega)).2 (by omega)
     have h5:a%b*1≤a%b*(b / (a%b)):=axE _ h4
     omega
    have h6:b%(a%b)<2^k:=by rw [aw1] at hb;omega
    obtain⟨ca1,g⟩:=ih (a%b) (b%(a%b)) h6 N (by omega) ((.bool true))
    refine⟨ca1,?_⟩
    rw [step _ _ _ _ h0,step _ _ _ _ hc,g]
    have e:Nat.gcd (a%b) (b%(a%b))=Nat.gcd a b:=by
     rw [axf a b,axn b a,axn (a%b) b,axf]
    rw [e]
theorem Ud (a b:Nat)(hb:b<2^64)(n fu:Nat)(hfu:1000≤fu)(m:Mem):D6 KW fu (n+1) (.func 452) [.int .u64 a,.int .u64 b] m=some [⟨.int .u64 (Nat.gcd a b:Nat),m⟩]:=by
 rw [enter (sf:=akf) rfl rfl]
 obtain⟨b1,g⟩:=OQ (D6 KW fu n) fu m 64 a b hb fu (by omega) .undef
 simp [akf,C8,trD,G9,o9,l6,j3] at g ⊢
 simp [g]
theorem OT (cf:K8)(fu:Nat)(m:Mem):∀(k a b:Nat),b<2^k→∀(N:Nat),2*k+1≤N→∀(a1 a3:j5),
  ∃ba1 ba3,aj (fun env m k=>wY cf fu none env m k) N (.nd (.nd (.nd .e a3 .e) a1 .e) (.int .i64 ((b:Nat):Int)) (.nd (.nd .e (.int .i64 0) .e) (.int .i64 ((a:Nat):Int)) .e)) m []=some [⟨.exit 0,(.nd (.nd (.nd .e ba3 .e) ba1 .e) (.int .i64 ((0:Nat):Int)) (.nd (.nd .e (.int .i64 0) .e) (.int .i64 (((Nat.gcd a b):Nat):Int)) .e)),m,[],none⟩]:=by
 have stop:∀(a N:Nat) (a1 a3:j5),aj (fun env m k=>wY cf fu none env m k) (N+1) (.nd (.nd (.nd .e a3 .e) a1 .e) (.int .i64 ((0:Nat):Int)) (.nd (.nd .e (.int .i64 0) .e) (.int .i64 ((a:Nat):Int)) .e)) m []=some [⟨.exit 0,(.nd (.nd (.nd .e a3 .e) (.bool false) .e) (.int .i64 ((0:Nat):Int)) (.nd (.nd .e (.int .i64 0) .e) (.int .i64 ((a:Nat):Int)) .e)),m,[],none⟩]:=by
  intro a N a1 a3
  rw [G5]
  simp [wY,C8,trD,G9,o9,l6,j3]
 have step:∀(a b N:Nat) (a1 a3:j5),b≠0→aj (fun env m k=>wY cf fu none env m k) (N+1) (.nd (.nd (.nd .e a3 .e) a1 .e) (.int .i64 ((b:Nat):Int)) (.nd (.nd .e (.int .i64 0) .e) (.int .i64 ((a:Nat):Int)) .e)) m []=aj (fun env m k=>wY cf fu none env m k) N (.nd (.nd (.nd .e (.int .i64 ((a%b:Nat):Int)) .e) (.bool true) .e) (.int .i64 (((a%b):Nat):Int)) (.nd (.nd .e (.int .i64 0) .e) (.int .i64 ((b:Nat):Int)) .e)) m []:=by
  intro a b N a1 a3 hb
  rw [G5]
  have h1:¬ ((b:Nat):Int)=0:=by omega
  simp [wY,C8,trD,G9,o9,l6,j3,hb,rE _ a b hb]
 intro k
 induction k with
 | zero=>
  intro a b hb N hN a1 a3
  obtain⟨N,rfl⟩:∃M,N=M+1:=⟨N-1,by omega⟩
  have hb0:b=0:=by simpa using hb
  subst hb0
  exact⟨(.bool false),a3,by rw [stop,axe]⟩
 | succ k ih=>
  intro a b hb N hN a1 a3
  obtain⟨N,rfl⟩:∃M,N=M+2:=⟨N-2,by omega⟩
  by_cases h0:b=0
  ·subst h0
   exact⟨(.bool false),a3,by rw [stop,axe]⟩
  ·by_cases hc:a%b=0
   ·refine⟨(.bool false),(.int .i64 ((a%b:Nat):Int)),?_⟩
    have e:Nat.gcd a b=b:=by rw [axf,axn,hc,Nat.gcd_zero_left]
    rw [step _ _ _ _ _ h0,hc,stop,e]
   ·have h1:a%b<b:=awr _ (by omega)
    have h2:b%(a%b)<a%b:=awr _ (by omega)
    have h3:b%(a%b)+a%b≤b:=by
     have:=aw7 b (a%b)
     have h4:1≤b / (a%b):=(axL (by omega)).2 (by omega)
     have h5:a%b*1≤a%b*(b / (a%b)):=axE _ h4
     omega
    have h6:b%(a%b)<2^k:=by rw [aw1] at hb;omega
    obtain⟨ca1,ca3,g⟩:=ih (a%b) (b%(a%b)) h6 N (by omega) ((.bool true)) ((.int .i64 ((b%(a%b):Nat):Int)))
    refine⟨ca1,ca3,?_⟩
    rw [step _ _ _ _ _ h0,step _ _ _ _ _ hc,g]
    have e:Nat.gcd (a%b) (b%(a%b))=Nat.gcd a b:=by
     rw [axf a b,axn b a,axn (a%b) b,axf]
    rw [e]
theorem Ue (a b:Nat)(hb:b<2^64)(n fu:Nat)(hfu:1000≤fu)(m:Mem):D6 KW fu (n+1) (.func 317) [.int .i64 a,.int .i64 b] m=some [⟨.int .i64 (Nat.gcd a b:Nat),m⟩]:=by
 rw [enter (sf:=f317) rfl rfl]
 obtain⟨b1,b3,g⟩:=OT (D6 KW fu n) fu m 64 a b hb fu (by omega) .undef .undef
 simp [f317,C8,trD,G9,o9,l6,j3] at g ⊢
 simp [g]
theorem wrap_u64 {n:Int}(h:0≤n)(h':n<18446744073709551616):IntKind.u64.wrap n=n:=by
 simp [IntKind.wrap,IntKind.bits,IntKind.signed]
 omega
theorem LU (a:Int)(h:-9223372036854775808≤a)(h':a<9223372036854775808)(n fu:Nat)(m:Mem):D6 KW fu (n+1) (.func 451) [.int .i64 a] m=some [⟨.int .u64 (a.natAbs:Nat),m⟩]:=by
 rw [enter (sf:=af7) rfl rfl]
 by_cases h0:a<0
 ·have e:jL .u64 (0-jL .u64 a)=((a.natAbs:Nat):Int):=by
   show IntKind.u64.wrap (0-IntKind.u64.wrap a)=_
   simp [IntKind.wrap,IntKind.bits,IntKind.signed]
   omega
  simp only [Int.zero_sub] at e
  simp [af7,C8,trD,G9,o9,l6,j3,h0,e]
 ·have e:jL .u64 a=((a.natAbs:Nat):Int):=by
   show IntKind.u64.wrap a=_
   rw [wrap_u64 (by omega) (by omega)];omega
  simp [af7,C8,trD,G9,o9,l6,j3,h0,e]
theorem Uf (a:Int)(h:-9223372036854775808<a)(h':a<9223372036854775808)(n fu:Nat)(m:Mem):D6 KW fu (n+1) (.func 318) [.int .i64 a] m=some [⟨.int .i64 (a.natAbs:Nat),m⟩]:=by
 rw [enter (sf:=f318) rfl rfl]
 by_cases h0:a<0
 ·have e:w64 (-a)=((a.natAbs:Nat):Int):=by rw [aN (by omega) (by omega)];omega
  simp [f318,C8,trD,G9,o9,l6,j3,h0,e]
 ·have e:((a.natAbs:Nat):Int)=a:=by omega
  simp [f318,C8,trD,G9,o9,l6,j3,h0,e]
def Ja (a b:Int):Bool:=decide (1≤b)&&(decide (b≤2147483647)&&(decide (((a.natAbs:Nat):Int)≤2147483647)&&decide (Nat.gcd a.natAbs b.natAbs=1)))
def aR (a:Int):Prop:=-9223372036854775808≤a∧a<9223372036854775808
theorem Ug (a b:Int)(ha:aR a)(hb:aR b)(n fu:Nat)(hfu:1000≤fu)(m:Mem)(hm:m.Ok):D6 KW fu (n+2) (.func 388) [.agg [.int .i64 a,.int .i64 b]] m=some [⟨.bool (Ja a b),ext m [A9 [.int .i64 a,.int .i64 b]]⟩]:=by
 rw [enter (sf:=Tz) rfl rfl]
 have c1:=LU a ha.1 ha.2 n fu
 have c2:=LU b hb.1 hb.2 n fu
 have c3:=Ud a.natAbs b.natAbs (by have:=hb.1;have:=hb.2;omega) n fu hfu
 have s1:dH 100 (.int .i64 b) (.int .i64 b)=true:=I6 _ _ _
 have e1:decide (((Nat.gcd a.natAbs b.natAbs:Nat):Int)=1)=decide (Nat.gcd a.natAbs b.natAbs=1):=by rw [avV];simp;omega
 cases h0:decide (1≤b) with
 | true=>
  cases h1:decide (b≤2147483647) with
  | true=>
   cases h2:decide (((a.natAbs:Nat):Int)≤2147483647) with
   | true=>
    cases h3:decide (Nat.gcd a.natAbs b.natAbs=1) with
    | true=>
     simp [Tz,C8,trD,G9,o9,l6,j3,x9,z8,l5 hm,l8 hm,A8 hm,w9 hm,C9,j6,o7,o8,J5,c1,c2,c3,s1,e1,Ja,h0,h1,h2,h3]
    | false=>simp [Tz,C8,trD,G9,o9,l6,j3,x9,z8,l5 hm,l8 hm,A8 hm,w9 hm,C9,j6,o7,o8,J5,c1,c2,c3,s1,e1,Ja,h0,h1,h2,h3]
   | false=>simp [Tz,C8,trD,G9,o9,l6,j3,x9,z8,l5 hm,l8 hm,A8 hm,w9 hm,C9,j6,o7,o8,J5,c1,c2,c3,s1,e1,Ja,h0,h1,h2]
  | false=>simp [Tz,C8,trD,G9,o9,l6,j3,x9,z8,l5 hm,l8 hm,A8 hm,w9 hm,C9,j6,o7,o8,J5,c1,c2,c3,s1,e1,Ja,h0,h1]
 | false=>simp [Tz,C8,trD,G9,o9,l6,j3,x9,z8,l5 hm,l8 hm,A8 hm,w9 hm,C9,j6,o7,o8,J5,c1,c2,c3,s1,e1,Ja,h0]
def FC (a b:Int):Bool:=!(decide (b<1))&&(!(decide (2147483647<b))&&(!(decide (a < -2147483647))&&(!(decide (2147483647<a))&&decide (Nat.gcd a.natAbs b.natAbs=1))))
theorem Uh (a b:Int):FC a b=Ja a b:=by
 unfold FC Ja
 have e1:(!(decide (b<1)))=decide (1≤b):=by rw [avV];simp
 have e2:(!(decide (2147483647<b)))=decide (b≤2147483647):=by rw [avV];simp
 have e3:(!(decide (a < -2147483647)) && !(decide (2147483647<a)))=decide (((a.natAbs:Nat):Int)≤2147483647):=by rw [avV];simp;omega
 rw [e1,e2,← e3]
 simp [Bool.and_assoc]
theorem Ui (a b:Int)(ha:aR a)(hb:aR b)(n fu:Nat)(hfu:1000≤fu)(m:Mem)(hm:m.Ok):D6 KW fu (n+2) (.func 246) [.agg [.int .i64 a,.int .i64 b]] m=some [⟨.bool (Ja a b),ext m [A9 [.int .i64 a,.int .i64 b]]⟩]:=by
 rw [enter (sf:=f246) rfl rfl,← Uh]
 have c3:=Ue a.natAbs b.natAbs (by have:=hb.1;have:=hb.2;omega) n fu hfu
 have s1:dH 100 (.int .i64 b) (.int .i64 b)=true:=I6 _ _ _
 have e1:decide (((Nat.gcd a.natAbs b.natAbs:Nat):Int)=1)=decide (Nat.gcd a.natAbs b.natAbs=1):=by rw [avV];simp;omega
 cases h0:decide (b<1) with
 | true=>simp [f246,C8,trD,G9,o9,l6,j3,x9,z8,l5 hm,l8 hm,A8 hm,w9 hm,C9,j6,o7,o8,J5,FC,h0]
 | false=>
 cases h1:decide (2147483647<b) with
 | true=>simp [f246,C8,trD,G9,o9,l6,j3,x9,z8,l5 hm,l8 hm,A8 hm,w9 hm,C9,j6,o7,o8,J5,FC,h0,h1]
 | false=>
 cases h2:decide (a < -2147483647) with
 | true=>simp [f246,C8,trD,G9,o9,l6,j3,x9,z8,l5 hm,l8 hm,A8 hm,w9 hm,C9,j6,o7,o8,J5,FC,h0,h1,h2]
 | false=>
 cases h3:decide (2147483647<a) with
 | true=>simp [f246,C8,trD,G9,o9,l6,j3,x9,z8,l5 hm,l8 hm,A8 hm,w9 hm,C9,j6,o7,o8,J5,FC,h0,h1,h2,h3]
 | false=>
 have g0:¬ b<1:=by simpa using h0
 have g2:¬ a < -2147483647:=by simpa using h2
 have g3:¬ 2147483647<a:=by simpa using h3
 have eb:((b.natAbs:Nat):Int)=b:=by omega
 have c1:=Uf a (by omega) (by omega) n fu
 rw [eb] at c3
 cases h4:decide (Nat.gcd a.natAbs b.natAbs=1)<;>simp [f246,C8,trD,G9,o9,l6,j3,x9,z8,l5 hm,l8 hm,A8 hm,w9 hm,C9,j6,o7,o8,J5,FC,h0,h1,h2,h3,h4,c1,c3,s1,e1]
def Fct.gau (f:Fct):List j5:=[.int .i64 f.gid,.int .i64 f.made,.int .i64 f.nom,.int .i64 f.tlo,.int .i64 f.thi,.int .i64 f.gn,.int .i64 f.gd,.int .i64 f.wear]
def Q7 (f:Fct):Bool:=(Ja f.gn f.gd&&((decide (-1000≤f.gn)&&decide (f.gn≤1000))&&(decide (f.gd≤100)&&((decide (1≤f.gid)&&decide (f.gid≤1099511627776))&&((decide (0≤f.made)&&decide (f.made≤20000))&&((decide (1≤f.nom)&&decide (f.nom≤1125899906842624))&&((decide (-1073741824≤f.tlo)&&decide (f.tlo≤f.thi)&&decide (f.thi≤1073741824))&&(decide (0≤f.wear)&&decide (f.wear≤1048576)))))))))
theorem Uj (f:Fct)(ha:aR f.gn)(hb:aR f.gd)(n fu:Nat)(hfu:1000≤fu)(m:Mem)(hm:m.Ok):∃m',D6 KW fu (n+3) (.func 294) [.agg f.gau] m=some [⟨.bool (Q7 f),m'⟩]∧Ext m m':=by
 rw [enter (sf:=f294) rfl rfl]
 have c1:=Ug f.gn f.gd ha hb n fu hfu (ext m [A9 f.gau]) (J4 hm _)
 have c2:=LG (n+1) fu f.tlo f.thi (-1073741824) 1073741824 (ext m [A9 f.gau,A9 [.int .i64 f.gn,.int .i64 f.gd]]) (J4 hm _)
 have e1:decide (100<f.gd)=!decide (f.gd≤100):=by rw [avV];simp
 simp only [Fct.gau] at c1 c2
 cases h0:Ja f.gn f.gd with
 | true=>
  cases h1:(decide (-1000≤f.gn)&&decide (f.gn≤1000)) with
  | true=>
   cases h2:decide (f.gd≤100) with
   | true=>
    cases h3:(decide (1≤f.gid)&&decide (f.gid≤1099511627776)) with
    | true=>
     cases h4:(decide (0≤f.made)&&decide (f.made≤20000)) with
     | true=>
      cases h5:(decide (1≤f.nom)&&decide (f.nom≤1125899906842624)) with
      | true=>
       cases h6:(decide (-1073741824≤f.tlo)&&decide (f.tlo≤f.thi)&&decide (f.thi≤1073741824)) with
       | true=>
        cases h7:(decide (0≤f.wear)&&decide (f.wear≤1048576)) with
        | true=>
         exact⟨ext m [A9 f.gau,A9 [.int .i64 f.gn,.int .i64 f.gd],A9 [.int .i64 f.tlo,.int .i64 f.thi]],by simp [f294,Fct.gau,C8,trD,G9,o9,l6,j3,x9,z8,l5 hm,l8 hm,A8 hm,w9 hm,C9,j6,o7,o8,J5,c1,c2,e1,aB,bE,Q7,h0,h1,h2,h3,h4,h5,h6,h7],D8 hm _⟩
        | false=>exact⟨ext m [A9 f.gau,A9 [.int .i64 f.gn,.int .i64 f.gd],A9 [.int .i64 f.tlo,.int .i64 f.thi]],by simp [f294,Fct.gau,C8,trD,G9,o9,l6,j3,x9,z8,l5 hm,l8 hm,A8 hm,w9 hm,C9,j6,o7,o8,J5,c1,c2,e1,aB,bE,Q7,h0,h1,h2,h3,h4,h5,h6,h7],D8 hm _⟩
       | false=>exact⟨ext m [A9 f.gau,A9 [.int .i64 f.gn,.int .i64 f.gd],A9 [.int .i64 f.tlo,.int .i64 f.thi]],by simp [f294,Fct.gau,C8,trD,G9,o9,l6,j3,x9,z8,l5 hm,l8 hm,A8 hm,w9 hm,C9,j6,o7,o8,J5,c1,c2,e1,aB,bE,Q7,h0,h1,h2,h3,h4,h5,h6],D8 hm _⟩
      | false=>exact⟨ext m [A9 f.gau,A9 [.int .i64 f.gn,.int .i64 f.gd]],by simp [f294,Fct.gau,C8,trD,G9,o9,l6,j3,x9,z8,l5 hm,l8 hm,A8 hm,w9 hm,C9,j6,o7,o8,J5,c1,c2,e1,aB,bE,Q7,h0,h1,h2,h3,h4,h5],D8 hm _⟩
     | false=>exact⟨ext m [A9 f.gau,A9 [.int .i64 f.gn,.int .i64 f.gd]],by simp [f294,Fct.gau,C8,trD,G9,o9,l6,j3,x9,z8,l5 hm,l8 hm,A8 hm,w9 hm,C9,j6,o7,o8,J5,c1,c2,e1,aB,bE,Q7,h0,h1,h2,h3,h4],D8 hm _⟩
    | false=>exact⟨ext m [A9 f.gau,A9 [.int .i64 f.gn,.int .i64 f.gd]],by simp [f294,Fct.gau,C8,trD,G9,o9,l6,j3,x9,z8,l5 hm,l8 hm,A8 hm,w9 hm,C9,j6,o7,o8,J5,c1,c2,e1,aB,bE,Q7,h0,h1,h2,h3],D8 hm _⟩
   | false=>
    cases h3:(decide (1≤f.gid)&&decide (f.gid≤1099511627776)) with
    | true=>
     cases h4:(decide (0≤f.made)&&decide (f.made≤20000)) with
     | true=>
      cases h5:(decide (1≤f.nom)&&decide (f.nom≤1125899906842624)) with
      | true=>
       cases h6:(decide (-1073741824≤f.tlo)&&decide (f.tlo≤f.thi)&&decide (f.thi≤1073741824)) with
       | true=>
        exact⟨ext m [A9 f.gau,A9 [.int .i64 f.gn,.int .i64 f.gd],A9 [.int .i64 f.tlo,.int .i64 f.thi]],by simp [f294,Fct.gau,C8,trD,G9,o9,l6,j3,x9,z8,l5 hm,l8 hm,A8 hm,w9 hm,C9,j6,o7,o8,J5,c1,c2,e1,aB,bE,Q7,h0,h1,h2,h3,h4,h5,h6],D8 hm _⟩
       | false=>exact⟨ext m [A9 f.gau,A9 [.int .i64 f.gn,.int .i64 f.gd],A9 [.int .i64 f.tlo,.int .i64 f.thi]],by simp [f294,Fct.gau,C8,trD,G9,o9,l6,j3,x9,z8,l5 hm,l8 hm,A8 hm,w9 hm,C9,j6,o7,o8,J5,c1,c2,e1,aB,bE,Q7,h0,h1,h2,h3,h4,h5,h6],D8 hm _⟩
      | false=>exact⟨ext m [A9 f.gau,A9 [.int .i64 f.gn,.int .i64 f.gd]],by simp [f294,Fct.gau,C8,trD,G9,o9,l6,j3,x9,z8,l5 hm,l8 hm,A8 hm,w9 hm,C9,j6,o7,o8,J5,c1,c2,e1,aB,bE,Q7,h0,h1,h2,h3,h4,h5],D8 hm _⟩
     | false=>exact⟨ext m [A9 f.gau,A9 [.int .i64 f.gn,.int .i64 f.gd]],by simp [f294,Fct.gau,C8,trD,G9,o9,l6,j3,x9,z8,l5 hm,l8 hm,A8 hm,w9 hm,C9,j6,o7,o8,J5,c1,c2,e1,aB,bE,Q7,h0,h1,h2,h3,h4],D8 hm _⟩
    | false=>exact⟨ext m [A9 f.gau,A9 [.int .i64 f.gn,.int .i64 f.gd]],by simp [f294,Fct.gau,C8,trD,G9,o9,l6,j3,x9,z8,l5 hm,l8 hm,A8 hm,w9 hm,C9,j6,o7,o8,J5,c1,c2,e1,aB,bE,Q7,h0,h1,h2,h3],D8 hm _⟩
  | false=>
   cases h3:(decide (1≤f.gid)&&decide (f.gid≤1099511627776)) with
   | true=>
    cases h4:(decide (0≤f.made)&&decide (f.made≤20000)) with
    | true=>
     cases h5:(decide (1≤f.nom)&&decide (f.nom≤1125899906842624)) with
     | true=>
      cases h6:(decide (-1073741824≤f.tlo)&&decide (f.tlo≤f.thi)&&decide (f.thi≤1073741824)) with
      | true=>
       exact⟨ext m [A9 f.gau,A9 [.int .i64 f.gn,.int .i64 f.gd],A9 [.int .i64 f.tlo,.int .i64 f.thi]],by simp [f294,Fct.gau,C8,trD,G9,o9,l6,j3,x9,z8,l5 hm,l8 hm,A8 hm,w9 hm,C9,j6,o7,o8,J5,c1,c2,e1,aB,bE,Q7,h0,h1,h3,h4,h5,h6],D8 hm _⟩
      | false=>exact⟨ext m [A9 f.gau,A9 [.int .i64 f.gn,.int .i64 f.gd],A9 [.int .i64 f.tlo,.int .i64 f.thi]],by simp [f294,Fct.gau,C8,trD,G9,o9,l6,j3,x9,z8,l5 hm,l8 hm,A8 hm,w9 hm,C9,j6,o7,o8,J5,c1,c2,e1,aB,bE,Q7,h0,h1,h3,h4,h5,h6],D8 hm _⟩
     | false=>exact⟨ext m [A9 f.gau,A9 [.int .i64 f.gn,.int .i64 f.gd]],by simp [f294,Fct.gau,C8,trD,G9,o9,l6,j3,x9,z8,l5 hm,l8 hm,A8 hm,w9 hm,C9,j6,o7,o8,J5,c1,c2,e1,aB,bE,Q7,h0,h1,h3,h4,h5],D8 hm _⟩
    | false=>exact⟨ext m [A9 f.gau,A9 [.int .i64 f.gn,.int .i64 f.gd]],by simp [f294,Fct.gau,C8,trD,G9,o9,l6,j3,x9,z8,l5 hm,l8 hm,A8 hm,w9 hm,C9,j6,o7,o8,J5,c1,c2,e1,aB,bE,Q7,h0,h1,h3,h4],D8 hm _⟩
   | false=>exact⟨ext m [A9 f.gau,A9 [.int .i64 f.gn,.int .i64 f.gd]],by simp [f294,Fct.gau,C8,trD,G9,o9,l6,j3,x9,z8,l5 hm,l8 hm,A8 hm,w9 hm,C9,j6,o7,o8,J5,c1,c2,e1,aB,bE,Q7,h0,h1,h3],D8 hm _⟩
 | false=>
  cases h3:(decide (1≤f.gid)&&decide (f.gid≤1099511627776)) with
  | true=>
   cases h4:(decide (0≤f.made)&&decide (f.made≤20000)) with
   | true=>
    cases h5:(decide (1≤f.nom)&&decide (f.nom≤1125899906842624)) with
    | true=>
     cases h6:(decide (-1073741824≤f.tlo)&&decide (f.tlo≤f.thi)&&decide (f.thi≤1073741824)) with
     | true=>
      exact⟨ext m [A9 f.gau,A9 [.int .i64 f.gn,.int .i64 f.gd],A9 [.int .i64 f.tlo,.int .i64 f.thi]],by simp [f294,Fct.gau,C8,trD,G9,o9,l6,j3,x9,z8,l5 hm,l8 hm,A8 hm,w9 hm,C9,j6,o7,o8,J5,c1,c2,e1,aB,bE,Q7,h0,h3,h4,h5,h6],D8 hm _⟩
     | false=>exact⟨ext m [A9 f.gau,A9 [.int .i64 f.gn,.int .i64 f.gd],A9 [.int .i64 f.tlo,.int .i64 f.thi]],by simp [f294,Fct.gau,C8,trD,G9,o9,l6,j3,x9,z8,l5 hm,l8 hm,A8 hm,w9 hm,C9,j6,o7,o8,J5,c1,c2,e1,aB,bE,Q7,h0,h3,h4,h5,h6],D8 hm _⟩
    | false=>exact⟨ext m [A9 f.gau,A9 [.int .i64 f.gn,.int .i64 f.gd]],by simp [f294,Fct.gau,C8,trD,G9,o9,l6,j3,x9,z8,l5 hm,l8 hm,A8 hm,w9 hm,C9,j6,o7,o8,J5,c1,c2,e1,aB,bE,Q7,h0,h3,h4,h5],D8 hm _⟩
   | false=>exact⟨ext m [A9 f.gau,A9 [.int .i64 f.gn,.int .i64 f.gd]],by simp [f294,Fct.gau,C8,trD,G9,o9,l6,j3,x9,z8,l5 hm,l8 hm,A8 hm,w9 hm,C9,j6,o7,o8,J5,c1,c2,e1,aB,bE,Q7,h0,h3,h4],D8 hm _⟩
  | false=>exact⟨ext m [A9 f.gau,A9 [.int .i64 f.gn,.int .i64 f.gd]],by simp [f294,Fct.gau,C8,trD,G9,o9,l6,j3,x9,z8,l5 hm,l8 hm,A8 hm,w9 hm,C9,j6,o7,o8,J5,c1,c2,e1,aB,bE,Q7,h0,h3],D8 hm _⟩
theorem Uk (f:Fct)(ha:aR f.gn)(hb:aR f.gd)(n fu:Nat)(hfu:1000≤fu)(m:Mem)(hm:m.Ok):∃m',D6 KW fu (n+3) (.func 168) [.agg f.gau] m=some [⟨.bool (Q7 f),m'⟩]∧Ext m m':=by
 rw [enter (sf:=f168) rfl rfl]
 have c1:=Ui f.gn f.gd ha hb n fu hfu (ext m [A9 f.gau]) (J4 hm _)
 have c2:=LD (n+1) fu f.tlo f.thi (-1073741824) 1073741824 (ext m [A9 f.gau,A9 [.int .i64 f.gn,.int .i64 f.gd]]) (J4 hm _)
 have e1:decide (100<f.gd)=!decide (f.gd≤100):=by rw [avV];simp
 simp only [Fct.gau] at c1 c2
 cases h0:Ja f.gn f.gd with
 | true=>
  cases h1:(decide (-1000≤f.gn)&&decide (f.gn≤1000)) with
  | true=>
   cases h2:decide (f.gd≤100) with
   | true=>
    cases h3:(decide (1≤f.gid)&&decide (f.gid≤1099511627776)) with
    | true=>
     cases h4:(decide (0≤f.made)&&decide (f.made≤20000)) with
     | true=>
      cases h5:(decide (1≤f.nom)&&decide (f.nom≤1125899906842624)) with
      | true=>
       cases h6:(decide (-1073741824≤f.tlo)&&decide (f.tlo≤f.thi)&&decide (f.thi≤1073741824)) with
       | true=>
        cases h7:(decide (0≤f.wear)&&decide (f.wear≤1048576)) with
        | true=>
         exact⟨ext m [A9 f.gau,A9 [.int .i64 f.gn,.int .i64 f.gd],A9 [.int .i64 f.tlo,.int .i64 f.thi]],by simp [f168,Fct.gau,C8,trD,G9,o9,l6,j3,x9,z8,l5 hm,l8 hm,A8 hm,w9 hm,C9,j6,o7,o8,J5,c1,c2,e1,fA,fG,Q7,h0,h1,h2,h3,h4,h5,h6,h7],D8 hm _⟩
        | false=>exact⟨ext m [A9 f.gau,A9 [.int .i64 f.gn,.int .i64 f.gd],A9 [.int .i64 f.tlo,.int .i64 f.thi]],by simp [f168,Fct.gau,C8,trD,G9,o9,l6,j3,x9,z8,l5 hm,l8 hm,A8 hm,w9 hm,C9,j6,o7,o8,J5,c1,c2,e1,fA,fG,Q7,h0,h1,h2,h3,h4,h5,h6,h7],D8 hm _⟩
       | false=>exact⟨ext m [A9 f.gau,A9 [.int .i64 f.gn,.int .i64 f.gd],A9 [.int .i64 f.tlo,.int .i64 f.thi]],by simp [f168,Fct.gau,C8,trD,G9,o9,l6,j3,x9,z8,l5 hm,l8 hm,A8 hm,w9 hm,C9,j6,o7,o8,J5,c1,c2,e1,fA,fG,Q7,h0,h1,h2,h3,h4,h5,h6],D8 hm _⟩
      | false=>exact⟨ext m [A9 f.gau,A9 [.int .i64 f.gn,.int .i64 f.gd]],by simp [f168,Fct.gau,C8,trD,G9,o9,l6,j3,x9,z8,l5 hm,l8 hm,A8 hm,w9 hm,C9,j6,o7,o8,J5,c1,c2,e1,fA,fG,Q7,h0,h1,h2,h3,h4,h5],D8 hm _⟩
     | false=>exact⟨ext m [A9 f.gau,A9 [.int .i64 f.gn,.int .i64 f.gd]],by simp [f168,Fct.gau,C8,trD,G9,o9,l6,j3,x9,z8,l5 hm,l8 hm,A8 hm,w9 hm,C9,j6,o7,o8,J5,c1,c2,e1,fA,fG,Q7,h0,h1,h2,h3,h4],D8 hm _⟩
    | false=>exact⟨ext m [A9 f.gau,A9 [.int .i64 f.gn,.int .i64 f.gd]],by simp [f168,Fct.gau,C8,trD,G9,o9,l6,j3,x9,z8,l5 hm,l8 hm,A8 hm,w9 hm,C9,j6,o7,o8,J5,c1,c2,e1,fA,fG,Q7,h0,h1,h2,h3],D8 hm _⟩
   | false=>exact⟨ext m [A9 f.gau,A9 [.int .i64 f.gn,.int .i64 f.gd]],by simp [f168,Fct.gau,C8,trD,G9,o9,l6,j3,x9,z8,l5 hm,l8 hm,A8 hm,w9 hm,C9,j6,o7,o8,J5,c1,c2,e1,fA,fG,Q7,h0,h1,h2],D8 hm _⟩
  | false=>exact⟨ext m [A9 f.gau,A9 [.int .i64 f.gn,.int .i64 f.gd]],by simp [f168,Fct.gau,C8,trD,G9,o9,l6,j3,x9,z8,l5 hm,l8 hm,A8 hm,w9 hm,C9,j6,o7,o8,J5,c1,c2,e1,fA,fG,Q7,h0,h1],D8 hm _⟩
 | false=>exact⟨ext m [A9 f.gau,A9 [.int .i64 f.gn,.int .i64 f.gd]],by simp [f168,Fct.gau,C8,trD,G9,o9,l6,j3,x9,z8,l5 hm,l8 hm,A8 hm,w9 hm,C9,j6,o7,o8,J5,c1,c2,e1,fA,fG,Q7,h0],D8 hm _⟩
def L8 (id:Nat):List j5:=[.int .i64 0,.int .i64 0,.slice id 0 1 1,.nilSlice,.nilSlice,.nilSlice,.nilSlice]
@[simp] theorem ako (f:Fct):f.gau.length=8:=id rfl
@[simp] theorem auG (f:Fct):f.gau.take 8=f.gau:=id rfl
@[simp] theorem auH (f:Fct)(h:0<f.gau.length):f.gau[0]'h=.int .i64 f.gid:=id rfl
@[simp] theorem auI (f:Fct)(h:1<f.gau.length):f.gau[1]'h=.int .i64 f.made:=id rfl
@[simp] theorem akp (f:Fct):O7 f.gau=true:=id rfl
@[simp] theorem DN (f:Fct):[j5.int .i64 f.gid,.int .i64 f.made,.int .i64 f.nom,.int .i64 f.tlo,.int .i64 f.thi,.int .i64 f.gn,.int .i64 f.gd,.int .i64 f.wear]=f.gau:=id rfl
theorem Ul (f:Fct)(ha:aR f.gn)(hb:aR f.gd)(n fu:Nat)(hfu:1000≤fu)(m:Mem)(hm:m.Ok)(hl:m.lim≤m.next)(id:Nat)(hid:id<m.next)(hg:m.get id=some (A9 f.gau)):
  ∃m',D6 KW fu (n+4) (.func 229) [.agg (L8 id)] m=some [⟨.int .i64 (bif Q7 f then 0 else 1),m'⟩]∧Ext m m':=by
 rw [enter (sf:=f229) rfl rfl]
 obtain⟨N,rfl⟩:∃N,fu=N+2:=⟨fu-2,by omega⟩
 have hg1:(ext m [A9 (L8 id)]).get id=some (A9 f.gau):=by rw [G6 hm _ hid];exact hg
 have hz:A9 [j5.int .i64 0,.int .i64 0,.int .i64 0,.int .i64 0,.int .i64 0,.int .i64 0,.int .i64 0,.int .i64 0]=A9 [j5.int .i64 0,.int .i64 0,.int .i64 0,.int .i64 0,.int .i64 0,.int .i64 0,.int .i64 0,.int .i64 0]:=rfl
 obtain⟨m1,g1,E1⟩:=Uj f ha hb n (N+2) hfu (ext m [A9 (L8 id),A9 f.gau]) (J4 hm _)
 refine⟨m1,?_,(D8 hm _).trans E1⟩
 simp only [L8] at hg1 g1 ⊢
 cases hgb:Q7 f<;>rw [hgb] at g1
 ·simp [f229,Lx,G5,C8,trD,G9,o9,l6,j3,x9,z8,O6 hm hl,C9,j6,o7,o8,J5,hg1,g1]
 ·simp [f229,Lx,G5,C8,trD,G9,o9,l6,j3,x9,z8,O6 hm hl,C9,j6,o7,o8,J5,hg1,g1,show w64 1=1 from aN (by decide) (by decide)]
theorem Um (f:Fct)(n fu:Nat)(hfu:1000≤fu)(m:Mem)(hm:m.Ok)(hl:m.lim≤m.next)(id:Nat)(hid:id<m.next)(hg:m.get id=some (A9 f.gau)):
  ∃p m',D6 KW fu (n+1) (.func 230) [.agg (L8 id)] m=some [⟨.map p,m'⟩]∧Ext m m':=by
 rw [enter (sf:=f230) rfl rfl]
 obtain⟨N,rfl⟩:∃N,fu=N+2:=⟨fu-2,by omega⟩
 have hbl:∀c,Nat.blt (m.next+c) m.lim=false:=fun c=>by have:=KY hl [] c;rwa [iR] at this
 have hg1:(ext m [A9 (L8 id),.map []]).get id=some (A9 f.gau):=by rw [G6 hm _ hid];exact hg
 refine⟨m.next+1,ext m [A9 (L8 id),.map [(.int .i64 f.gid,.agg f.gau)],A9 f.gau],?_,D8 hm _⟩
 simp only [L8] at hg1 ⊢
 simp [f230,QH,G5,C8,trD,G9,o9,l6,j3,x9,z8,O6 hm hl,C9,j6,o7,o8,J5,hg1,tJ,hbl,Fv,nL,M9,show w64 1=1 from aN (by decide) (by decide)]
theorem Un (n fu:Nat)(m:Mem)(hm:m.Ok)(hl:m.lim≤m.next)(id p:Nat):
  D6 KW fu (n+1) (.func 231) [.agg (L8 id),.map p] m=some [⟨.func (.func 298) [] [.ptr m.next 0,.ptr (m.next+2) 0,.ptr (m.next+1) 0],ext m [A9 (L8 id),A9 [.map p],A9 [.func (.func 295) [] [.ptr (m.next+1) 0]]]⟩]:=by
 rw [enter (sf:=f231) rfl rfl]
 simp only [L8]
 simp [f231,C8,trD,G9,o9,l6,j3,x9,z8,O6 hm hl,C9,j6,o7,o8,J5]
theorem Uo (n fu:Nat)(hfu:1000≤fu)(m:Mem)(id p q r:Nat)(y:j5)(hp:m.get p=some (A9 (L8 id))):
  D6 KW fu (n+1) (.func 298) [y,.ptr p 0,.ptr q 0,.ptr r 0] m=some [⟨.tuple [],m⟩]:=by
 rw [enter (sf:=f298) rfl rfl]
 obtain⟨N,rfl⟩:∃N,fu=N+2:=⟨fu-2,by omega⟩
 simp only [L8] at hp
 simp [f298,QL,QM,QN,QO,G5,C8,trD,G9,o9,l6,j3,hp]
theorem aaI (n fu:Nat)(m:Mem):D6 KW fu (n+1) (.func 344) [.int .u64 1] m=some [⟨.int .i64 1,m⟩]:=by
 rw [enter (sf:=f344) rfl rfl]
 have h1:jL .u8 1=1:=by decide +kernel
 have h2:jL .i64 1=1:=by decide +kernel
 have h3:w64 1=1:=aN (by decide) (by decide)
 have hs:∀(x:OF) (env:T j5) ls,x ls env=.int .u8 1→vJ (Q6 (.str [0,1,2,2,3,3,3,3,4,4,4,4,4,4,4,4,5,5,5,5,5,5,5,5,5,5,5,5,5,5,5,5,6,6,6,6,6,6,6,6,6,6,6,6,6,6,6,6,6,6,6,6,6,6,6,6,6,6,6,6,6,6,6,6,7,7,7,7,7,7,7,7,7,7,7,7,7,7,7,7,7,7,7,7,7,7,7,7,7,7,7,7,7,7,7,7,7,7,7,7,7,7,7,7,7,7,7,7,7,7,7,7,7,7,7,7,7,7,7,7,7,7,7,7,7,7,7,7,8,8,8,8,8,8,8,8,8,8,8,8,8,8,8,8,8,8,8,8,8,8,8,8,8,8,8,8,8,8,8,8,8,8,8,8,8,8,8,8,8,8,8,8,8,8,8,8,8,8,8,8,8,8,8,8,8,8,8,8,8,8,8,8,8,8,8,8,8,8,8,8,8,8,8,8,8,8,8,8,8,8,8,8,8,8,8,8,8,8,8,8,8,8,8,8,8,8,8,8,8,8,8,8,8,8,8,8,8,8,8,8,8,8,8,8,8,8,8,8,8,8,8,8,8,8,8,8])) x ls env=some (.int .u8 1):=by
  intro x env ls hx
  show oQ (x ls env) _=_
  rw [hx];rfl
 simp [f344,C8,trD,G9,o9,l6,j3,h1,h2,h3,hs]
theorem aaJ (n fu:Nat)(m:Mem):D6 KW fu (n+2) (.func 270) [.int .u64 1] m=some [⟨.int .i64 1,m⟩]:=by
 rw [enter (sf:=f270) rfl rfl]
 simp [f270,C8,trD,G9,o9,l6,j3,aaI]
theorem aaK (v:j5)(n fu:Nat)(hfu:1000≤fu)(m:Mem):D6 KW fu (n+1) (.func 373) [v,.int .i64 0,.int .i64 1] m=some [⟨.tuple [],m⟩]:=by
 rw [enter (sf:=ajZ) rfl rfl]
 obtain⟨N,rfl⟩:∃N,fu=N+2:=⟨fu-2,by omega⟩
 simp [ajZ,QU,G5,C8,trD,G9,o9,l6,j3,show w64 1=1 from aN (by decide) (by decide)]
theorem aaL (v:j5)(n fu:Nat)(hfu:1000≤fu)(m:Mem):D6 KW fu (n+2) (.func 288) [v,.int .i64 0,.int .i64 1,.int .i64 1] m=some [⟨.tuple [],m⟩]:=by
 rw [enter (sf:=f288) rfl rfl]
 obtain⟨N,rfl⟩:∃N,fu=N+2:=⟨fu-2,by omega⟩
 have c:=aaK v n (N+2) hfu m
 simp [f288,QK,G5,C8,trD,G9,o9,l6,j3,show w64 1=1 from aN (by decide) (by decide),c]
theorem aaM (id c:Nat)(n fu:Nat)(hfu:1000≤fu)(m:Mem):D6 KW fu (n+3) (.func 217) [.slice id 0 1 c] m=some [⟨.tuple [],m⟩]:=by
 rw [enter (sf:=f217) rfl rfl]
 have c1:=aaL (.slice id 0 1 c) n fu hfu m
 have h1:jL .u64 1=1:=by decide +kernel
 simp [f217,C8,trD,G9,o9,l6,j3,h1,aaJ,c1]
theorem aaN (id c:Nat)(n fu:Nat)(hfu:1000≤fu)(m:Mem):D6 KW fu (n+1) (.func 397) [.slice id 0 1 c] m=some [⟨.slice id 0 1 c,m⟩]:=by
 rw [enter (sf:=ak7) rfl rfl]
 simp [ak7,C8,trD,G9,o9,l6,j3]
theorem Uq (f:Fct)(n fu:Nat)(hfu:1000≤fu)(m:Mem)(hm:m.Ok)(hl:m.lim≤m.next)(id:Nat):
  D6 KW fu (n+4) (.func 301) [.agg (L8 id),.agg f.gau] m=some [⟨.slice (m.next+2) 0 1 1,ext m [A9 (L8 id),A9 f.gau,A9 [.int .i64 f.made]]⟩]:=by
 rw [enter (sf:=f301) rfl rfl]
 obtain⟨N,rfl⟩:∃N,fu=N+2:=⟨fu-2,by omega⟩
 simp only [L8]
 simp [f301,QS,QT,G5,C8,trD,G9,o9,l6,j3,x9,z8,O6 hm hl,C9,j6,o7,o8,J5,L9,aaM _ _ n (N+2) hfu,aaN _ _ (n+2) (N+2) hfu]
theorem Ur (a b:j5)(m:Mem)(hm:m.Ok)(id:Nat)(hg:m.get id=some (A9 [a,b])):ah m 2 1 (.slice id 0 1 1)=some [a,b]:=by
 show R4 m id 0 (Nat.mul 1 2)=_
 show aO (m.get id) (fun rs k rows=>M5 rs k rows 2 0)=_
 rw [hg];kernel_rfl
theorem GR (a b:j5)(m:Mem)(hm:m.Ok)(id:Nat)(hg:m.get id=some (A9 [a,b]))(s x:OF)(cf:K8)(ls:List j5)(env:T j5)(hs:s ls env=.nilSlice)(hx:x ls env=.slice id 0 1 1):
  lC 2 16 s x cf ls env m=some [⟨.sliceU m.next 0 1 2,m.new (A9 [a,b])⟩]:=by
 show ob (lenOf (x ls env)) (fun n=>ob (ah m 2 n (x ls env)) fun new=>pR m 2 16 n new (s ls env))=_
 rw [hx,hs]
 show ob (ah m 2 1 (.slice id 0 1 1)) _=_
 rw [Ur a b m hm id hg]
 rfl
theorem Us (f:Fct)(n fu:Nat)(hfu:1000≤fu)(m:Mem)(hm:m.Ok)(hl:m.lim≤m.next)(id:Nat)(hid:id<m.next)(hg:m.get id=some (A9 f.gau)):
  ∃p m',D6 KW fu (n+5) (.func 232) [.agg (L8 id)] m=some [⟨.sliceU p 0 1 2,m'⟩]∧Ext m m':=by
 rw [enter (sf:=f232) rfl rfl]
 obtain⟨N,rfl⟩:∃N,fu=N+2:=⟨fu-2,by omega⟩
 have hg1:(ext m [A9 (L8 id)]).get id=some (A9 f.gau):=by rw [G6 hm _ hid];exact hg
 have c1:=Uq f n (N+2) hfu (ext m [A9 (L8 id),A9 f.gau]) (J4 hm _) (by simp;omega) id
 have c2:∀(s x:OF) cf ls env,s ls env=.nilSlice→x ls env=.slice (m.next+5) 0 1 1→
   lC 2 16 s x cf ls env (ext m [A9 (L8 id),A9 f.gau,A9 (L8 id),A9 f.gau,A9 [.int .i64 f.made],A9 [.int .i64 f.gid,.int .i64 f.made]]) =
    some [⟨.sliceU (m.next+6) 0 1 2,ext m [A9 (L8 id),A9 f.gau,A9 (L8 id),A9 f.gau,A9 [.int .i64 f.made],A9 [.int .i64 f.gid,.int .i64 f.made],A9 [.int .i64 f.gid,.int .i64 f.made]]⟩]:=by
  intro s x cf ls env hs hx
  rw [GR (.int .i64 f.gid) (.int .i64 f.made) _ (J4 hm _) (m.next+5) (by rw [l8 hm];rfl) s x cf ls env hs hx,← eT]
  simp
 refine⟨m.next+6,ext m [A9 (L8 id),A9 f.gau,A9 (L8 id),A9 f.gau,A9 [.int .i64 f.made],A9 [.int .i64 f.gid,.int .i64 f.made],A9 [.int .i64 f.gid,.int .i64 f.made]],?_,D8 hm _⟩
 simp only [L8] at hg1 c1 c2 ⊢
 simp [f232,QI,QJ,G5,C8,trD,G9,o9,l6,j3,x9,z8,O6 hm hl,C9,j6,o7,o8,J5,L9,avw,hg1,c1,c2,show w64 1=1 from aN (by decide) (by decide)]
theorem Ut (f:Fct)(ha:aR f.gn)(hb:aR f.gd)(n fu:Nat)(hfu:1000≤fu)(m:Mem)(hm:m.Ok)(hl:m.lim≤m.next)(id:Nat)(hid:id<m.next)(hg:m.get id=some (A9 f.gau)):
  ∃m',D6 KW fu (n+8) (.func 123) [.agg (L8 id)] m=some [⟨.int .i64 (bif Q7 f then 0 else 1),m'⟩]∧Ext m m':=by
 rw [enter (sf:=f123) rfl rfl]
 have c161:=LG (n+6) fu 0 0 0 1000000 (ext m [A9 (L8 id),A9 [.int .i64 0]]) (J4 hm _)
 have hg2:(ext m [A9 (L8 id),A9 [.int .i64 0],A9 [.int .i64 0,.int .i64 0]]).get id=some (A9 f.gau):=by rw [G6 hm _ hid];exact hg
 have E2:=D8 hm [A9 (L8 id),A9 [.int .i64 0],A9 [.int .i64 0,.int .i64 0]]
 obtain⟨m3,g3,E3⟩:=Ul f ha hb (n+3) fu hfu _ (J4 hm [A9 (L8 id),A9 [.int .i64 0],A9 [.int .i64 0,.int .i64 0]]) (by simp;omega) id (by simp;omega) hg2
 have q3a:m3.get m.next=some (A9 (L8 id)):=by rw [E3.old _ (by simp),l5 hm];rfl
 have q3b:m3.get (m.next+1)=some (A9 [.int .i64 0]):=by rw [E3.old _ (by simp),l8 hm];rfl
 have E23:=E2.trans E3
 have l3:m3.lim≤m.next:=by rw [E23.lim];exact hl
 have n3:m.next+3≤m3.next:=by have:=E3.next;simpa using this
 have k3:m3.Ok:=E3.ok
 cases hgb:Q7 f with
 | false=>
  rw [hgb] at g3
  refine⟨m3.set (m.next+1) (A9 [.int .i64 1]),?_,E23.set (by omega) (by omega) _⟩
  have r1:(m3.set (m.next+1) (A9 [.int .i64 1])).get (m.next+1)=some (A9 [.int .i64 1]):=bf k3 _ (by omega) rfl
  simp only [L8] at c161 g3 q3a ⊢
  simp [f123,C8,trD,G9,o9,l6,j3,x9,z8,O6 hm hl,C9,j6,o7,o8,J5,c161,g3,q3a,q3b,tK (show m3.lim≤m.next+1 by omega),r1]
 | true=>
  rw [hgb] at g3
  have hg3:m3.get id=some (A9 f.gau):=by rw [E3.old _ (by simp;omega)];exact hg2
  obtain⟨p,m4,g4,E4⟩:=Um f (n+6) fu hfu m3 k3 (by omega) id (by omega) hg3
  have k4:m4.Ok:=E4.ok
  have l4:m4.lim≤m.next:=by rw [E4.lim];exact l3
  have n4:m3.next≤m4.next:=E4.next
  have q4a:m4.get m.next=some (A9 (L8 id)):=by rw [E4.old _ (by omega)];exact q3a
  have q4b:m4.get (m.next+1)=some (A9 [.int .i64 0]):=by rw [E4.old _ (by omega)];exact q3b
  have g5:=Un (n+6) fu m4 k4 (by omega) id p
  have g6:∀y st pend env ps asg bd,D6 KW fu (n+7) (.func 298) [y,.ptr m4.next 0,.ptr (m4.next+2) 0,.ptr (m4.next+1) 0] (ext m4 [A9 (L8 id),A9 [.map p],A9 [.func (.func 295) [] [.ptr (m4.next+1) 0]],.deferred,.loop st pend env ps asg bd])=some [⟨.tuple [],ext m4 [A9 (L8 id),A9 [.map p],A9 [.func (.func 295) [] [.ptr (m4.next+1) 0]],.deferred,.loop st pend env ps asg bd]⟩]:=fun y st pend env ps asg bd=>
   Uo (n+6) fu hfu _ id _ _ _ y (by rw [l5 k4];rfl)
  have E6:=D8 k4 [A9 (L8 id),A9 [.map p],A9 [.func (.func 295) [] [.ptr (m4.next+1) 0]],.deferred,.dead]
  have q6a:(ext m4 [A9 (L8 id),A9 [.map p],A9 [.func (.func 295) [] [.ptr (m4.next+1) 0]],.deferred,.dead]).get m.next=some (A9 (L8 id)):=by rw [E6.old _ (by omega)];exact q4a
  obtain⟨q,m7,g7,E7⟩:=Us f (n+2) fu hfu _ (J4 k4 [A9 (L8 id),A9 [.map p],A9 [.func (.func 295) [] [.ptr (m4.next+1) 0]],.deferred,.dead]) (by simp;omega) id (by simp;omega)
   (by rw [G6 k4 _ (by omega),E4.old _ (by omega)];exact hg3)
  have E47:=E6.trans E7
  have k7:m7.Ok:=E7.ok
  have n7:m4.next+5≤m7.next:=by have:=E7.next;simpa using this
  have l7:m7.lim≤m.next:=by rw [E47.lim];exact l4
  have q7a:m7.get m.next=some (A9 (L8 id)):=by rw [E47.old _ (by omega)];exact q4a
  have q7b:m7.get (m.next+1)=some (A9 [.int .i64 0]):=by rw [E47.old _ (by omega)];exact q4b
  have q7c:m7.get (m4.next+3)=some .deferred:=by rw [E7.old _ (by simp),l8 k4];rfl
  have E07:=(E23.trans E4).trans E47
  refine⟨(m7.set (m.next+1) (A9 [.int .i64 0])).set (m4.next+3) .dead,?_,(E07.set (by omega) (by omega) _).set (by simp;omega) (by omega) _⟩
  have k8:(m7.set (m.next+1) (A9 [.int .i64 0])).Ok:=k7.set (by omega) _
  have r0:(m7.set (m.next+1) (A9 [.int .i64 0])).get (m4.next+3)=some .deferred:=by rw [dV k7 _ (by omega) (by omega)];exact q7c
  have r1:((m7.set (m.next+1) (A9 [.int .i64 0])).set (m4.next+3) .dead).get (m.next+1)=some (A9 [.int .i64 0]):=by
   rw [dV k8 _ (by simp;omega) (by omega)]
   exact bf k7 _ (by omega) rfl
  simp only [L8] at c161 g3 q3a g4 q4a q6a g5 g6 g7 q7a ⊢
  simp [f123,C8,trD,G9,o9,l6,j3,x9,z8,O6 hm hl,C9,j6,o7,o8,J5,l5 k4,l8 k4,A8 k4,c161,g3,q3a,q3b,g4,q4a,q6a,g5,g6,g7,q7a,q7b,tK (show m7.lim≤m.next+1 by omega),Tn,r0,r1,show w64 2=2 from aN (by decide) (by decide),show w64 0=0 from aN (by decide) (by decide)]
theorem Uu {m:Mem}{f:Fct}(ha:aR f.gn)(hb:aR f.gd)(hm:m.Ok)(hl:m.lim≤m.next)(n fu:Nat)(hfu:1000≤fu):
  ∃m',D6 KW fu (n+9) (.func 132) [.agg f.cells] m=some [⟨.bool (Q7 f),m'⟩]∧Ext m m':=by
 rw [enter (sf:=f132) rfl rfl]
 obtain⟨m1,g1,E1⟩:=Ut f ha hb n fu hfu (ext m [A9 f.cells,A9 f.gau]) (J4 hm _) (by simp;omega) (m.next+1) (by simp) (by rw [l8 hm];rfl)
 refine⟨m1,?_,(D8 hm _).trans E1⟩
 simp only [L8] at g1
 cases hgb:Q7 f<;>rw [hgb] at g1<;>simp [f132,C8,trD,G9,o9,l6,j3,x9,z8,O6 hm hl,C9,j6,o7,o8,J5,L9,g1]
theorem Uv (n fu:Nat)(hfu:1000≤fu)(m:Mem)(hm:m.Ok)(hl:m.lim≤m.next)(id:Nat):
  D6 KW fu (n+1) (.func 169) [.agg (L8 id)] m=some [⟨.int .i64 0,ext m [A9 (L8 id)]⟩]:=by
 rw [enter (sf:=f169) rfl rfl]
 obtain⟨N,rfl⟩:∃N,fu=N+2:=⟨fu-2,by omega⟩
 simp only [L8]
 simp [f169,Qv,G5,C8,trD,G9,o9,l6,j3,x9,z8,O6 hm hl,C9,j6,o7,o8,J5]
theorem Uw (n fu:Nat)(hfu:1000≤fu)(m:Mem)(hm:m.Ok)(hl:m.lim≤m.next)(id:Nat):
  D6 KW fu (n+1) (.func 170) [.agg (L8 id)] m=some [⟨.int .i64 0,ext m [A9 (L8 id)]⟩]:=by
 rw [enter (sf:=f170) rfl rfl]
 obtain⟨N,rfl⟩:∃N,fu=N+2:=⟨fu-2,by omega⟩
 simp only [L8]
 simp [f170,Qw,G5,C8,trD,G9,o9,l6,j3,x9,z8,O6 hm hl,C9,j6,o7,o8,J5]
theorem Ux (f:Fct)(n fu:Nat)(hfu:1000≤fu)(m:Mem)(hm:m.Ok)(hl:m.lim≤m.next)(id:Nat):
  D6 KW fu (n+1) (.func 250) [.agg (L8 id),.agg f.gau,.int .i64 f.made] m=some [⟨.bool true,ext m [A9 (L8 id),A9 f.gau]⟩]:=by
 rw [enter (sf:=f250) rfl rfl]
 obtain⟨N,rfl⟩:∃N,fu=N+2:=⟨fu-2,by omega⟩
 simp only [L8]
 simp [f250,G5,C8,trD,G9,o9,l6,j3,x9,z8,O6 hm hl,C9,j6,o7,o8,J5]
theorem Uy (a:j5)(m:Mem)(hm:m.Ok)(id:Nat)(hg:m.get id=some (A9 [a])):ah m 1 1 (.slice id 0 1 1)=some [a]:=by
 show R4 m id 0 (Nat.mul 1 1)=_
 show aO (m.get id) (fun rs k rows=>M5 rs k rows 1 0)=_
 rw [hg];kernel_rfl
theorem OU (a:j5)(m:Mem)(hm:m.Ok)(id:Nat)(hg:m.get id=some (A9 [a]))(s x:OF)(cf:K8)(ls:List j5)(env:T j5)(hs:s ls env=.nilSlice)(hx:x ls env=.slice id 0 1 1):
  lC 1 8 s x cf ls env m=some [⟨.sliceU m.next 0 1 1,m.new (A9 [a])⟩]:=by
 show ob (lenOf (x ls env)) (fun n=>ob (ah m 1 n (x ls env)) fun new=>pR m 1 8 n new (s ls env))=_
 rw [hx,hs]
 show ob (ah m 1 1 (.slice id 0 1 1)) _=_
 rw [Uy a m hm id hg]
 rfl
theorem aaO (b:Int)(hb:b<20001)(x y:OF)(ls:List j5)(env:T j5)(hx:x ls env=.int .i64 20001)(hy:y ls env=.int .i64 b):
  pMm false x [y] ls env=some (.int .i64 b):=by
 show ob (mm2 false (x ls env) (y ls env)) _=_
 rw [hx,hy]
 show some (j5.int .i64 (bi (oK b 20001) b 20001))=_
 rw [show oK b 20001=true by rw [fU];simp;omega]
 rfl
theorem LV (f:Fct)(h0:0≤f.made)(h1:f.made≤20000)(n fu:Nat)(hfu:1000≤fu)(m:Mem)(hm:m.Ok)(hl:m.lim≤m.next)(id:Nat)(hid:id<m.next)(hg:m.get id=some (A9 f.gau)):
  D6 KW fu (n+2) (.func 174) [.agg (L8 id)] m=some [⟨.sliceU (m.next+6) 0 1 2,ext m [A9 (L8 id),A9 [.int .i64 f.made],A9 [.int .i64 f.made],A9 (L8 id),A9 f.gau,A9 [.int .i64 f.gid,.int .i64 f.made],A9 [.int .i64 f.gid,.int .i64 f.made]]⟩]:=by
 rw [enter (sf:=f174) rfl rfl]
 obtain⟨N,rfl⟩:∃N,fu=N+3:=⟨fu-3,by omega⟩
 have hg1:(ext m [A9 (L8 id)]).get id=some (A9 f.gau):=by rw [G6 hm _ hid];exact hg
 have hg2:(ext m [A9 (L8 id),A9 [.int .i64 f.made],A9 [.int .i64 f.made]]).get id=some (A9 f.gau):=by rw [G6 hm _ hid];exact hg
 have hg3:(ext m [A9 (L8 id),A9 [.int .i64 f.made],A9 [.int .i64 f.made],A9 (L8 id),A9 f.gau]).get id=some (A9 f.gau):=by rw [G6 hm _ hid];exact hg
 have hg4:(ext m [A9 (L8 id),A9 [.int .i64 f.made],A9 [.int .i64 f.made],A9 (L8 id),A9 f.gau,A9 [.int .i64 f.gid,.int .i64 f.made],A9 [.int .i64 f.gid,.int .i64 f.made]]).get id=some (A9 f.gau):=by rw [G6 hm _ hid];exact hg
 have c1:∀(s x:OF) cf ls env,s ls env=.nilSlice→x ls env=.slice (m.next+1) 0 1 1→
   lC 1 8 s x cf ls env (ext m [A9 (L8 id),A9 [.int .i64 f.made]])=some [⟨.sliceU (m.next+2) 0 1 1,ext m [A9 (L8 id),A9 [.int .i64 f.made],A9 [.int .i64 f.made]]⟩]:=by
  intro s x cf ls env hs hx
  rw [OU (.int .i64 f.made) _ (J4 hm _) (m.next+1) (by rw [l8 hm];rfl) s x cf ls env hs hx,← eT]
  simp
 have c2:=Ux f n (N+3) hfu (ext m [A9 (L8 id),A9 [.int .i64 f.made],A9 [.int .i64 f.made]]) (J4 hm _) (by simp;omega) id
 have c3:∀(s x:OF) cf ls env,s ls env=.nilSlice→x ls env=.slice (m.next+5) 0 1 1→
   lC 2 16 s x cf ls env (ext m [A9 (L8 id),A9 [.int .i64 f.made],A9 [.int .i64 f.made],A9 (L8 id),A9 f.gau,A9 [.int .i64 f.gid,.int .i64 f.made]]) =
    some [⟨.sliceU (m.next+6) 0 1 2,ext m [A9 (L8 id),A9 [.int .i64 f.made],A9 [.int .i64 f.made],A9 (L8 id),A9 f.gau,A9 [.int .i64 f.gid,.int .i64 f.made],A9 [.int .i64 f.gid,.int .i64 f.made]]⟩]:=by
  intro s x cf ls env hs hx
  rw [GR (.int .i64 f.gid) (.int .i64 f.made) _ (J4 hm _) (m.next+5) (by rw [l8 hm];rfl) s x cf ls env hs hx,← eT]
  simp
 have c4:=aaO f.made (by omega)
 have d1:decide (-1<f.made)=true:=by simp;omega
 have d2:decide (f.made<20001)=true:=by simp;omega
 have d1':-1<f.made:=by omega
 have d2':f.made<20001:=by omega
 simp only [L8] at hg1 hg2 hg3 hg4 c1 c2 c3 ⊢
 simp [f174,Qx,Qy,Qz,QA,QB,QC,G5,C8,trD,G9,o9,l6,j3,x9,z8,O6 hm hl,C9,j6,o7,o8,J5,L9,avw,hg1,hg2,hg3,hg4,c1,c2,c3,c4,d1,d2,d1',d2',show w64 1=1 from aN (by decide) (by decide)]
@[simp] theorem auJ (f:Fct)(h:2<f.gau.length):f.gau[2]'h=.int .i64 f.nom:=id rfl
@[simp] theorem auK (f:Fct)(h:3<f.gau.length):f.gau[3]'h=.int .i64 f.tlo:=id rfl
@[simp] theorem auL (f:Fct)(h:4<f.gau.length):f.gau[4]'h=.int .i64 f.thi:=id rfl
def zU (a b:List j5):Blk:=.cells (len' a) 2 (T.ofList [a,b])
theorem FD {β:Type}{es:Nat}{cells:List j5}(h:cells.length=es+es)(k:Blk→Option β):iO es 2 cells k=k (zU (cells.take es) (cells.drop es)):=by
 show ob (ob (takeN es cells) fun r=>ob (ob (takeN es (jk es cells)) fun r'=>ob (rowsOf es 0 (jk es (jk es cells))) fun rest=>some (r'::rest)) fun rest=>some (r::rest)) (fun rows=>k (.cells es 2 (T.ofList rows)))=_
 have h2:(cells.drop es).length=es:=by simp;omega
 have h3:(cells.drop es).drop es=[]:=avD (by omega)
 have h4:(cells.drop es).take es=cells.drop es:=avQ (by omega)
 rw [dQ _ _ (by omega),O0,eO,dQ _ _ (by omega),O0,eO,h3,h4]
 show k (.cells es 2 (T.ofList [cells.take es,cells.drop es]))=k (.cells (len' (cells.take es)) 2 (T.ofList [cells.take es,cells.drop es]))
 rw [Q5,awH,axA (by omega)]
theorem ze (es:Nat)(zero:List j5)(ps:List (Nat×Nat×OF))(ls:List j5)(env:T j5)(nid:Nat):J2 es 2 zero ps ls env nid=ob (lay ps ls env (zero++zero)) fun cells=>if cells.length=es+es then some (.slice nid 0 2 2,some (zU (cells.take es) (cells.drop es))) else iO es 2 cells fun b=>some (.slice nid 0 2 2,some b):=by
 show ob (lay ps ls env (jl zero (jl zero []))) (fun cells=>iO es 2 cells fun b=>some (j5.slice nid 0 2 2,some b))=_
 rw [ak,ak,awo]
 congr 1
 funext cells
 split
 ·rename_i h;rw [FD h]
 ·rfl
theorem Uz (a b c d:j5)(m:Mem)(hm:m.Ok)(id:Nat)(hg:m.get id=some (zU [a,b] [c,d]))(s x:OF)(cf:K8)(ls:List j5)(env:T j5)(hs:s ls env=.nilSlice)(hx:x ls env=.slice id 0 2 2):
  lC 2 16 s x cf ls env m=some [⟨.sliceU m.next 0 2 2,m.new (zU [a,b] [c,d])⟩]:=by
 show ob (lenOf (x ls env)) (fun n=>ob (ah m 2 n (x ls env)) fun new=>pR m 2 16 n new (s ls env))=_
 rw [hx,hs]
 show ob (ah m 2 2 (.slice id 0 2 2)) _=_
 rw [show ah m 2 2 (.slice id 0 2 2)=some [a,b,c,d] by
  show aO (m.get id) (fun rs k rows=>M5 rs k rows 4 0)=_
  rw [hg];kernel_rfl]
 rfl
theorem UA (a b c d e f:j5)(m:Mem)(hm:m.Ok)(id:Nat)(hg:m.get id=some (zU [a,b,c] [d,e,f]))(s x:OF)(cf:K8)(ls:List j5)(env:T j5)(hs:s ls env=.nilSlice)(hx:x ls env=.slice id 0 2 2):
  lC 3 24 s x cf ls env m=some [⟨.sliceU m.next 0 2 3,m.new (zU [a,b,c] [d,e,f])⟩]:=by
 show ob (lenOf (x ls env)) (fun n=>ob (ah m 3 n (x ls env)) fun new=>pR m 3 24 n new (s ls env))=_
 rw [hx,hs]
 show ob (ah m 3 2 (.slice id 0 2 2)) _=_
 rw [show ah m 3 2 (.slice id 0 2 2)=some [a,b,c,d,e,f] by
  show aO (m.get id) (fun rs k rows=>M5 rs k rows 6 0)=_
  rw [hg];kernel_rfl]
 rfl
theorem UC (f:Fct)(h0:0≤f.made)(h1:f.made≤20000)(n fu:Nat)(hfu:1000≤fu)(m:Mem)(hm:m.Ok)(hl:m.lim≤m.next)(id:Nat)(hid:id<m.next)(hg:m.get id=some (A9 f.gau)):
  ∃p q m',D6 KW fu (n+3) (.func 175) [.agg (L8 id)] m=some [⟨.agg [.sliceU p 0 2 3,.sliceU q 0 2 2],m'⟩]∧Ext m m':=by
 rw [enter (sf:=f175) rfl rfl]
 obtain⟨N,rfl⟩:∃N,fu=N+2:=⟨fu-2,by omega⟩
 have hgx:∀bs,(ext m bs).get id=some (A9 f.gau):=fun bs=>by rw [G6 hm _ hid];exact hg
 have hg1:=hgx [A9 (L8 id),A9 [.nilSlice,.nilSlice],A9 [.nilSlice,.nilSlice],A9 (L8 id),A9 [.int .i64 f.made],A9 [.int .i64 f.made],A9 (L8 id),A9 f.gau,A9 [.int .i64 f.gid,.int .i64 f.made],A9 [.int .i64 f.gid,.int .i64 f.made]]
 have c1:=LV f h0 h1 n (N+2) hfu (ext m [A9 (L8 id),A9 [.nilSlice,.nilSlice],A9 [.nilSlice,.nilSlice]]) (J4 hm _) (by simp;omega) id (by simp;omega) (hgx _)
 have c2:∀(a b c d e g:Int) (s x:OF) cf ls env,s ls env=.nilSlice→x ls env=.slice (m.next+11) 0 2 2→
   lC 3 24 s x cf ls env (ext m [A9 (L8 id),A9 [.nilSlice,.nilSlice],A9 [.nilSlice,.nilSlice],A9 (L8 id),A9 [.int .i64 f.made],A9 [.int .i64 f.made],A9 (L8 id),A9 f.gau,A9 [.int .i64 f.gid,.int .i64 f.made],A9 [.int .i64 f.gid,.int .i64 f.made],A9 f.gau,zU [.int .i64 a,.int .i64 b,.int .i64 c] [.int .i64 d,.int .i64 e,.int .i64 g]])=some [⟨.sliceU (m.next+12) 0 2 3,ext m [A9 (L8 id),A9 [.nilSlice,.nilSlice],A9 [.nilSlice,.nilSlice],A9 (L8 id),A9 [.int .i64 f.made],A9 [.int .i64 f.made],A9 (L8 id),A9 f.gau,A9 [.int .i64 f.gid,.int .i64 f.made],A9 [.int .i64 f.gid,.int .i64 f.made],A9 f.gau,zU [.int .i64 a,.int .i64 b,.int .i64 c] [.int .i64 d,.int .i64 e,.int .i64 g],zU [.int .i64 a,.int .i64 b,.int .i64 c] [.int .i64 d,.int .i64 e,.int .i64 g]]⟩]:=by
  intro a b c d e g s x cf ls env hs hx
  rw [UA (.int .i64 a) (.int .i64 b) (.int .i64 c) (.int .i64 d) (.int .i64 e) (.int .i64 g) _ (J4 hm _) (m.next+11) (by rw [l8 hm];rfl) s x cf ls env hs hx,← eT]
  simp
 have c3:∀(a b c d e g:Int) (s x:OF) cf ls env,s ls env=.nilSlice→x ls env=.slice (m.next+13) 0 2 2→
   lC 2 16 s x cf ls env (ext m [A9 (L8 id),A9 [.nilSlice,.nilSlice],A9 [.sliceU (m.next+12) 0 2 3,.nilSlice],A9 (L8 id),A9 [.int .i64 f.made],A9 [.int .i64 f.made],A9 (L8 id),A9 f.gau,A9 [.int .i64 f.gid,.int .i64 f.made],A9 [.int .i64 f.gid,.int .i64 f.made],A9 f.gau,zU [.int .i64 a,.int .i64 b,.int .i64 c] [.int .i64 d,.int .i64 e,.int .i64 g],zU [.int .i64 a,.int .i64 b,.int .i64 c] [.int .i64 d,.int .i64 e,.int .i64 g],zU [.int .i64 1,.int .i64 0] [.int .i64 1,.int .i64 0]])=some [⟨.sliceU (m.next+14) 0 2 2,ext m [A9 (L8 id),A9 [.nilSlice,.nilSlice],A9 [.sliceU (m.next+12) 0 2 3,.nilSlice],A9 (L8 id),A9 [.int .i64 f.made],A9 [.int .i64 f.made],A9 (L8 id),A9 f.gau,A9 [.int .i64 f.gid,.int .i64 f.made],A9 [.int .i64 f.gid,.int .i64 f.made],A9 f.gau,zU [.int .i64 a,.int .i64 b,.int .i64 c] [.int .i64 d,.int .i64 e,.int .i64 g],zU [.int .i64 a,.int .i64 b,.int .i64 c] [.int .i64 d,.int .i64 e,.int .i64 g],zU [.int .i64 1,.int .i64 0] [.int .i64 1,.int .i64 0],zU [.int .i64 1,.int .i64 0] [.int .i64 1,.int .i64 0]]⟩]:=by
  intro a b c d e g s x cf ls env hs hx
  rw [Uz (.int .i64 1) (.int .i64 0) (.int .i64 1) (.int .i64 0) _ (J4 hm _) (m.next+13) (by rw [l8 hm];rfl) s x cf ls env hs hx,← eT]
  simp
 refine⟨m.next+12,m.next+14,ext m [A9 (L8 id),A9 [.sliceU (m.next+12) 0 2 3,.sliceU (m.next+14) 0 2 2],A9 [.sliceU (m.next+12) 0 2 3,.sliceU (m.next+14) 0 2 2],A9 (L8 id),A9 [.int .i64 f.made],A9 [.int .i64 f.made],A9 (L8 id),A9 f.gau,A9 [.int .i64 f.gid,.int .i64 f.made],A9 [.int .i64 f.gid,.int .i64 f.made],A9 f.gau,zU [.int .i64 0,.int .i64 1,.int .i64 (w64 (f.nom+f.thi))] [.int .i64 1,.int .i64 0,.int .i64 (w64 (w64 (-f.nom)-f.tlo))],zU [.int .i64 0,.int .i64 1,.int .i64 (w64 (f.nom+f.thi))] [.int .i64 1,.int .i64 0,.int .i64 (w64 (w64 (-f.nom)-f.tlo))],zU [.int .i64 1,.int .i64 0] [.int .i64 1,.int .i64 0],zU [.int .i64 1,.int .i64 0] [.int .i64 1,.int .i64 0]],?_,D8 hm _⟩
 simp only [L8] at hg1 c1 c2 c3 ⊢
 simp [f175,QD,QE,QF,G5,C8,trD,G9,o9,l6,j3,x9,z8,O6 hm hl,C9,j6,o7,o8,J5,ze,avw,hg1,c1,c2,c3,show w64 1=1 from aN (by decide) (by decide)]
theorem FE (f:Fct)(h:Q7 f=true):0≤f.made∧f.made≤20000:=by
 simp only [Q7,avv,decide_eq_true_eq] at h
 exact h.2.2.2.2.1
theorem aaP (f:Fct)(ha:aR f.gn)(hb:aR f.gd)(n fu:Nat)(hfu:1000≤fu)(m:Mem)(hm:m.Ok)(hl:m.lim≤m.next)(id:Nat)(hid:id<m.next)(hg:m.get id=some (A9 f.gau)):
  ∃m',D6 KW fu (n+5) (.func 88) [.agg (L8 id)] m=some [⟨.int .i64 (bif Q7 f then 0 else 1),m'⟩]∧Ext m m':=by
 rw [enter (sf:=f88) rfl rfl]
 obtain⟨N,rfl⟩:∃N,fu=N+2:=⟨fu-2,by omega⟩
 have c98:=LD (n+3) (N+2) 0 0 0 1000000 (ext m [A9 (L8 id)]) (J4 hm _)
 have hg2:(ext m [A9 (L8 id),A9 [.int .i64 0,.int .i64 0]]).get id=some (A9 f.gau):=by rw [G6 hm _ hid];exact hg
 have E2:=D8 hm [A9 (L8 id),A9 [.int .i64 0,.int .i64 0]]
 obtain⟨m3,g3,E3⟩:=Uk f ha hb (n+1) (N+2) hfu _ (J4 hm [A9 (L8 id),A9 [.int .i64 0,.int .i64 0]])
 have q3a:m3.get m.next=some (A9 (L8 id)):=by rw [E3.old _ (by simp),l5 hm];rfl
 have q3b:m3.get id=some (A9 f.gau):=by rw [E3.old _ (by simp;omega)];exact hg2
 have E23:=E2.trans E3
 have l3:m3.lim≤m3.next:=by rw [E23.lim];have:=E23.next;omega
 have n3:m.next+2≤m3.next:=by have:=E3.next;simpa using this
 have k3:m3.Ok:=E3.ok
 cases hgb:Q7 f with
 | false=>
  rw [hgb] at g3
  refine⟨m3,?_,E23⟩
  simp only [L8] at c98 hg2 g3 q3a ⊢
  simp [f88,Tx,G5,C8,trD,G9,o9,l6,j3,x9,z8,O6 hm hl,C9,j6,o7,o8,J5,c98,hg2,g3,q3a]
 | true=>
  rw [hgb] at g3
  obtain⟨h0,h1⟩:=FE f hgb
  have g100:=Uv (n+3) (N+2) hfu m3 k3 l3 id
  have g101:=Uw (n+3) (N+2) hfu (ext m3 [A9 (L8 id)]) (J4 k3 _) (by simp;omega) id
  have r1:(ext m3 [A9 (L8 id)]).get m.next=some (A9 (L8 id)):=by rw [G6 k3 _ (by omega)];exact q3a
  have r2:(ext m3 [A9 (L8 id),A9 (L8 id)]).get m.next=some (A9 (L8 id)):=by rw [G6 k3 _ (by omega)];exact q3a
  have g105:=LV f h0 h1 (n+2) (N+2) hfu (ext m3 [A9 (L8 id),A9 (L8 id)]) (J4 k3 _) (by simp;omega) id (by simp;omega) (by rw [G6 k3 _ (by omega)];exact q3b)
  have r3:(ext m3 [A9 (L8 id),A9 (L8 id),A9 (L8 id),A9 [.int .i64 f.made],A9 [.int .i64 f.made],A9 (L8 id),A9 f.gau,A9 [.int .i64 f.gid,.int .i64 f.made],A9 [.int .i64 f.gid,.int .i64 f.made]]).get m.next=some (A9 (L8 id)):=by rw [G6 k3 _ (by omega)];exact q3a
  obtain⟨p,q,m5,g106,E5⟩:=UC f h0 h1 (n+1) (N+2) hfu (ext m3 [A9 (L8 id),A9 (L8 id),A9 (L8 id),A9 [.int .i64 f.made],A9 [.int .i64 f.made],A9 (L8 id),A9 f.gau,A9 [.int .i64 f.gid,.int .i64 f.made],A9 [.int .i64 f.gid,.int .i64 f.made]]) (J4 k3 _) (by simp;omega) id (by simp;omega) (by rw [G6 k3 _ (by omega)];exact q3b)
  refine⟨m5,?_,E23.trans ((D8 k3 _).trans E5)⟩
  simp only [L8] at c98 hg2 g3 q3a g100 g101 r1 r2 r3 g105 g106 ⊢
  simp [f88,aag,aah,Tx,G5,C8,trD,G9,o9,l6,j3,x9,z8,O6 hm hl,C9,j6,o7,o8,J5,avw,c98,hg2,g3,q3a,q3b,g100,g101,g105,r1,r2,r3,g106,show w64 1=1 from aN (by decide) (by decide)]
theorem UD {m:Mem}{f:Fct}{p0:Nat}{v:j5}{xs:List Int}(hv:bW m v xs)(hb:xs.length<1000000)(n fu:Nat):
  ∀(j i:Nat),i+j=xs.length→∀(N:Nat),j<N→∀(a0 a1:j5),
   ∃x k b0 b1,aj (fun env m k=>Bn (D6 KW fu (n+5)) fu none env m k) N (.nd (.nd (.nd (.nd (.nd .e a1 .e) (.bool false) .e) (.bool false) (.nd .e (.bool true) .e)) (.ptr p0 0) (.nd (.nd (.nd .e (.bool false) .e) .undef .e) (.bool false) (.nd .e v .e))) (.agg f.cells) (.nd (.nd (.nd (.nd .e .undef .e) .undef .e) (.bool false) (.nd .e (.int .i64 ((i:Nat):Int)) .e)) (.int .i64 6) (.nd (.nd .e .undef .e) (.bool false) (.nd .e a0 .e)))) m []=some [⟨x,(.nd (.nd (.nd (.nd (.nd .e b1 .e) (.bool false) .e) (.bool false) (.nd .e (.bool true) .e)) (.ptr p0 0) (.nd (.nd (.nd .e (.bool false) .e) .undef .e) (.bool false) (.nd .e v .e))) (.agg f.cells) (.nd (.nd (.nd (.nd .e .undef .e) .undef .e) (.bool false) (.nd .e (.int .i64 ((k:Nat):Int)) .e)) (.int .i64 6) (.nd (.nd .e .undef .e) (.bool false) (.nd .e b0 .e)))),m,[],none⟩]∧x=(bif Q8 (okB xs) j i then bB.exit 1 else .ret):=by
 intro j
 induction j with
 | zero=>
  intro i hi N hN a0 a1
  obtain⟨N,rfl⟩:∃M,N=M+1:=⟨N-1,by omega⟩
  refine⟨.exit 1,i,.bool false,a1,?_,rfl⟩
  rw [G5]
  have h:¬ i<xs.length:=by omega
  have l1:=hv.len
  simp [Bn,C8,trD,G9,o9,l6,j3,h,l1]
 | succ j ih=>
  intro i hi N hN a0 a1
  obtain⟨N,rfl⟩:∃M,N=M+1:=⟨N-1,by omega⟩
  have h:i<xs.length:=by omega
  have l1:=hv.len
  obtain⟨p,e1,_,e2⟩:=hv.at h
  have hg:=iy h
  have good:okB xs i=true→∃x k b0 b1,aj (fun env m k=>Bn (D6 KW fu (n+5)) fu none env m k) (N+1) (.nd (.nd (.nd (.nd (.nd .e a1 .e) (.bool false) .e) (.bool false) (.nd .e (.bool true) .e)) (.ptr p0 0) (.nd (.nd (.nd .e (.bool false) .e) .undef .e) (.bool false) (.nd .e v .e))) (.agg f.cells) (.nd (.nd (.nd (.nd .e .undef .e) .undef .e) (.bool false) (.nd .e (.int .i64 ((i:Nat):Int)) .e)) (.int .i64 6) (.nd (.nd .e .undef .e) (.bool false) (.nd .e a0 .e)))) m []=some [⟨x,(.nd (.nd (.nd (.nd (.nd .e b1 .e) (.bool false) .e) (.bool false) (.nd .e (.bool true) .e)) (.ptr p0 0) (.nd (.nd (.nd .e (.bool false) .e) .undef .e) (.bool false) (.nd .e v .e))) (.agg f.cells) (.nd (.nd (.nd (.nd .e .undef .e) .undef .e) (.bool false) (.nd .e (.int .i64 ((k:Nat):Int)) .e)) (.int .i64 6) (.nd (.nd .e .undef .e) (.bool false) (.nd .e b0 .e)))),m,[],none⟩]∧x=(bif Q8 (okB xs) (j+1) i then bB.exit 1 else .ret):=by
   intro hok
   obtain⟨x,k,b0,b1,g1,g2⟩:=ih (i+1) (by omega) N (by omega) (.bool true) (.bool false)
   refine⟨x,k,b0,b1,?_,by rw [g2];simp [Q8,hok]⟩
   rw [G5,← g1]
   simp only [okB,hg,avv,awO,decide_eq_true_eq] at hok
   obtain⟨⟨h1,h2⟩,h3⟩:=hok
   by_cases h0:i=0
   ·have h4:¬ 0<i:=by omega
    simp [Bn,C8,trD,G9,o9,l6,j3,h,l1,e1,e2,h1,h2,h4,aH,U6 (i:=i) (by omega)]
   ·have hp:i-1<xs.length:=by omega
    obtain⟨q,e3,_,e4⟩:=hv.at hp
    have h3:=h3.resolve_left h0
    rw [iy hp] at h3
    have h4:0<i:=by omega
    have h5:¬ xs[i]≤xs[i-1]:=by omega
    simp [Bn,C8,trD,G9,o9,l6,j3,h,l1,e1,e2,e3,e4,h1,h2,h4,h5,aH,U6 (i:=i) (by omega),jY (i:=i) h4 (by omega)]
  cases hok:okB xs i with
  | true=>exact good hok
  | false=>
   refine⟨.ret,i,.bool true,.bool true,?_,by simp [Q8,hok]⟩
   rw [G5]
   simp only [okB,hg] at hok
   by_cases h0:i=0
   ·have hr:(decide (1≤xs[i])&&decide (xs[i]≤1099511627776))=false:=by simpa [h0] using hok
    simp [Bn,C8,trD,G9,o9,l6,j3,h,l1,e1,e2,hr,aH]
   ·have hp:i-1<xs.length:=by omega
    obtain⟨q,e3,_,e4⟩:=hv.at hp
    have h4:0<i:=by omega
    rw [iy hp,show decide (i=0)=false from decide_eq_false h0,aw5] at hok
    cases hr:(decide (1≤xs[i])&&decide (xs[i]≤1099511627776)) with
    | false=>simp [Bn,C8,trD,G9,o9,l6,j3,h,l1,e1,e2,hr,aH]
    | true=>
     rw [hr,awQ] at hok
     have h5:xs[i]≤xs[i-1]:=by simpa using hok
     simp [Bn,C8,trD,G9,o9,l6,j3,h,l1,e1,e2,e3,e4,hr,h4,h5,aH,jY (i:=i) h4 (by omega)]
def mI (f:Fct)(a b l:List Int):Bool:=if f.kind=1 then DL f else if f.kind=2 then Q7 f else if f.kind=3 then Nu f else if f.kind=4 then oO f else if f.kind=5 then bR f a b else if f.kind=6 then Jt f l else if f.kind=7 then wdB f else false
theorem akq {m:Mem}{f:Fct}{a b l:List Int}(hm:m.Ok)(hl:m.lim≤m.next)(hf:aT m f a b l)(n fu:Nat)(hfu:1000≤fu)(hk:f.kind=1):∃m',D6 KW fu (n+6) (.func 47) [.agg f.cells] m=some [⟨.bool (DL f),m'⟩]∧Ext m m':=by
 rw [enter (sf:=f47) rfl rfl]
 have c1:=LC (n+4) fu f.flo f.fhi 0 1000000 (ext m [A9 f.cells]) (J4 hm _)
 exact⟨ext m [A9 f.cells,A9 [.int .i64 f.flo,.int .i64 f.fhi]],by simp [f47,C8,trD,G9,o9,l6,j3,x9,z8,l5 hm,l8 hm,A8 hm,w9 hm,C9,j6,o7,o8,J5,hk,c1,DL],D8 hm _⟩
theorem akr {m:Mem}{f:Fct}{a b l:List Int}(hm:m.Ok)(hl:m.lim≤m.next)(hf:aT m f a b l)(n fu:Nat)(hfu:1000≤fu)(ha:aR f.gn)(hb:aR f.gd)(hk:f.kind=2):∃m',D6 KW fu (n+6) (.func 47) [.agg f.cells] m=some [⟨.bool (Q7 f),m'⟩]∧Ext m m':=by
 rw [enter (sf:=f47) rfl rfl]
 obtain⟨m1,g1,E1⟩:=aaP f ha hb n fu hfu (ext m [A9 f.cells,A9 f.gau]) (J4 hm _) (by simp;omega) (m.next+1) (by simp) (by rw [l8 hm];rfl)
 refine⟨m1,?_,(D8 hm _).trans E1⟩
 simp only [L8] at g1
 cases hgb:Q7 f<;>rw [hgb] at g1<;>simp [f47,C8,trD,G9,o9,l6,j3,x9,z8,l5 hm,l8 hm,A8 hm,w9 hm,C9,j6,o7,o8,J5,hk,L9,g1]
theorem aks {m:Mem}{f:Fct}{a b l:List Int}(hm:m.Ok)(hl:m.lim≤m.next)(hf:aT m f a b l)(n fu:Nat)(hfu:1000≤fu)(hk:f.kind=3):∃m',D6 KW fu (n+6) (.func 47) [.agg f.cells] m=some [⟨.bool (Nu f),m'⟩]∧Ext m m':=by
 rw [enter (sf:=f47) rfl rfl]
 cases h0:(decide (1≤f.ug)&&decide (f.ug≤1099511627776)) with
 | true=>
  cases h1:(decide (0≤f.ud)&&decide (f.ud≤20000)) with
  | true=>
   exact⟨ext m [A9 f.cells],by simp [f47,C8,trD,G9,o9,l6,j3,x9,z8,l5 hm,l8 hm,A8 hm,w9 hm,C9,j6,o7,o8,J5,hk,aH,fG,Nu,h0,h1],D8 hm _⟩
  | false=>exact⟨ext m [A9 f.cells],by simp [f47,C8,trD,G9,o9,l6,j3,x9,z8,l5 hm,l8 hm,A8 hm,w9 hm,C9,j6,o7,o8,J5,hk,aH,fG,Nu,h0,h1],D8 hm _⟩
 | false=>exact⟨ext m [A9 f.cells],by simp [f47,C8,trD,G9,o9,l6,j3,x9,z8,l5 hm,l8 hm,A8 hm,w9 hm,C9,j6,o7,o8,J5,hk,aH,fG,Nu,h0],D8 hm _⟩
theorem akt {m:Mem}{f:Fct}{a b l:List Int}(hm:m.Ok)(hl:m.lim≤m.next)(hf:aT m f a b l)(n fu:Nat)(hfu:1000≤fu)(hk:f.kind=4):∃m',D6 KW fu (n+6) (.func 47) [.agg f.cells] m=some [⟨.bool (oO f),m'⟩]∧Ext m m':=by
 rw [enter (sf:=f47) rfl rfl]
 have c1:=LC (n+4) fu f.ll f.lh 0 20000 (ext m [A9 f.cells]) (J4 hm _)
 cases h0:(decide (1≤f.lg)&&decide (f.lg≤1099511627776)) with
 | true=>
  cases h1:(decide (0≤f.ll)&&decide (f.ll≤f.lh)&&decide (f.lh≤20000)) with
  | true=>
   cases h2:(decide (0≤f.lw)&&decide (f.lw≤1048576)) with
   | true=>
    exact⟨ext m [A9 f.cells,A9 [.int .i64 f.ll,.int .i64 f.lh]],by simp [f47,C8,trD,G9,o9,l6,j3,x9,z8,l5 hm,l8 hm,A8 hm,w9 hm,C9,j6,o7,o8,J5,hk,c1,aH,oO,h0,h1,h2],D8 hm _⟩
   | false=>exact⟨ext m [A9 f.cells,A9 [.int .i64 f.ll,.int .i64 f.lh]],by simp [f47,C8,trD,G9,o9,l6,j3,x9,z8,l5 hm,l8 hm,A8 hm,w9 hm,C9,j6,o7,o8,J5,hk,c1,aH,oO,h0,h1,h2],D8 hm _⟩
  | false=>exact⟨ext m [A9 f.cells,A9 [.int .i64 f.ll,.int .i64 f.lh]],by simp [f47,C8,trD,G9,o9,l6,j3,x9,z8,l5 hm,l8 hm,A8 hm,w9 hm,C9,j6,o7,o8,J5,hk,c1,aH,oO,h0,h1],D8 hm _⟩
 | false=>exact⟨ext m [A9 f.cells],by simp [f47,C8,trD,G9,o9,l6,j3,x9,z8,l5 hm,l8 hm,A8 hm,w9 hm,C9,j6,o7,o8,J5,hk,c1,aH,oO,h0],D8 hm _⟩
theorem aku {m:Mem}{f:Fct}{a b l:List Int}(hm:m.Ok)(hl:m.lim≤m.next)(hf:aT m f a b l)(n fu:Nat)(hfu:1000≤fu)(hk:f.kind=5):∃m',D6 KW fu (n+6) (.func 47) [.agg f.cells] m=some [⟨.bool (bR f a b),m'⟩]∧Ext m m':=by
 rw [enter (sf:=f47) rfl rfl]
 have o1:=hf.a.J5
 have o2:=hf.b.J5
 have o3:O7 f.cmp=true:=by simp [Fct.cmp,o1,o2,show ∀k x,J5 (.int k x)=true from fun _ _=>rfl,-Fct.Q0]
 have hf2:=hf.ext (D8 hm [A9 f.cells,A9 f.cmp])
 have p1:=QW hf2.a hf.la (n+3) fu hfu
 have p2:=QW hf2.b hf.lb (n+3) fu hfu
 rw [show (Q8 (okB a) a.length 0&&decide (a.length≤6))=qo a from rfl] at p1
 rw [show (Q8 (okB b) b.length 0&&decide (b.length≤6))=qo b from rfl] at p2
 have c1:=LC (n+4) fu f.hlo f.hhi (-10000) 10000 (ext m [A9 f.cells,A9 f.cmp]) (J4 hm _)
 cases h0:decide (f.cid=0) with
 | true=>
  cases h1:(decide (0≤f.cday)&&decide (f.cday≤20000)) with
  | true=>
   cases h2:(decide (-1125899906842624≤f.diff)&&decide (f.diff≤1125899906842624)) with
   | true=>
    cases h3:(decide (0≤f.err)&&decide (f.err≤1073741824)) with
    | true=>
     cases h4:(decide (-10000≤f.hlo)&&decide (f.hlo≤f.hhi)&&decide (f.hhi≤10000)) with
     | true=>
      cases h5:qo a with
      | true=>
       cases h6:qo b with
       | true=>
        exact⟨ext m [A9 f.cells,A9 f.cmp,A9 [.int .i64 f.hlo,.int .i64 f.hhi]],by simp [f47,C8,trD,G9,o9,l6,j3,x9,z8,O6 hm hl,C9,j6,o7,o8,J5,hk,o1,o2,o3,p1,p2,c1,aH,fG,bR,h0,h1,h2,h3,h4,h5,h6],D8 hm _⟩
       | false=>exact⟨ext m [A9 f.cells,A9 f.cmp,A9 [.int .i64 f.hlo,.int .i64 f.hhi]],by simp [f47,C8,trD,G9,o9,l6,j3,x9,z8,O6 hm hl,C9,j6,o7,o8,J5,hk,o1,o2,o3,p1,p2,c1,aH,fG,bR,h0,h1,h2,h3,h4,h5,h6],D8 hm _⟩
      | false=>exact⟨ext m [A9 f.cells,A9 f.cmp,A9 [.int .i64 f.hlo,.int .i64 f.hhi]],by simp [f47,C8,trD,G9,o9,l6,j3,x9,z8,O6 hm hl,C9,j6,o7,o8,J5,hk,o1,o2,o3,p1,p2,c1,aH,fG,bR,h0,h1,h2,h3,h4,h5],D8 hm _⟩
     | false=>exact⟨ext m [A9 f.cells,A9 f.cmp,A9 [.int .i64 f.hlo,.int .i64 f.hhi]],by simp [f47,C8,trD,G9,o9,l6,j3,x9,z8,O6 hm hl,C9,j6,o7,o8,J5,hk,o1,o2,o3,p1,p2,c1,aH,fG,bR,h0,h1,h2,h3,h4],D8 hm _⟩
    | false=>exact⟨ext m [A9 f.cells,A9 f.cmp],by simp [f47,C8,trD,G9,o9,l6,j3,x9,z8,O6 hm hl,C9,j6,o7,o8,J5,hk,o1,o2,o3,p1,p2,c1,aH,fG,bR,h0,h1,h2,h3],D8 hm _⟩
   | false=>exact⟨ext m [A9 f.cells,A9 f.cmp],by simp [f47,C8,trD,G9,o9,l6,j3,x9,z8,O6 hm hl,C9,j6,o7,o8,J5,hk,o1,o2,o3,p1,p2,c1,aH,fG,bR,h0,h1,h2],D8 hm _⟩
  | false=>exact⟨ext m [A9 f.cells,A9 f.cmp],by simp [f47,C8,trD,G9,o9,l6,j3,x9,z8,O6 hm hl,C9,j6,o7,o8,J5,hk,o1,o2,o3,p1,p2,c1,aH,fG,bR,h0,h1],D8 hm _⟩
 | false=>exact⟨ext m [A9 f.cells,A9 f.cmp],by simp [f47,C8,trD,G9,o9,l6,j3,x9,z8,O6 hm hl,C9,j6,o7,o8,J5,hk,o1,o2,o3,p1,p2,c1,aH,fG,bR,h0],D8 hm _⟩
theorem akv {m:Mem}{f:Fct}{a b l:List Int}(hm:m.Ok)(hl:m.lim≤m.next)(hf:aT m f a b l)(n fu:Nat)(hfu:1000≤fu)(hk:f.kind=6):∃m',D6 KW fu (n+6) (.func 47) [.agg f.cells] m=some [⟨.bool (Jt f l),m'⟩]∧Ext m m':=by
 rw [enter (sf:=f47) rfl rfl]
 have hf2:=hf.ext (D8 hm [A9 f.cells])
 have hv:=hf2.l
 have l1:=hv.len
 obtain⟨x,k,b0,b1,g1,g2⟩:=UD (f:=f) (p0:=m.next) hv (by have:=hf.ll;omega) n fu l.length 0 (by omega) fu (by have:=hf.ll;omega) .undef .undef
 have c2:decide (2≤((l.length:Nat):Int))=decide (2≤l.length):=by rw [avV];simp;omega
 have c3:decide (((l.length:Nat):Int)≤5)=decide (l.length≤5):=by rw [avV];simp;omega
 refine⟨ext m [A9 f.cells],?_,D8 hm _⟩
 cases ha:Q8 (okB l) l.length 0 with
 | false=>
  rw [ha] at g2;simp only [cond_false] at g2;subst g2
  simp [C8,trD,G9,o9,l6,j3,x9,z8,l5 hm,l8 hm,A8 hm,w9 hm,C9,j6,o7,o8,J5,l1] at g1
  simp [f47,C8,trD,G9,o9,l6,j3,x9,z8,l5 hm,l8 hm,A8 hm,w9 hm,C9,j6,o7,o8,J5,hk,g1,Jt,ha]
 | true=>
  rw [ha] at g2;simp only [cond_true] at g2;subst g2
  simp [C8,trD,G9,o9,l6,j3,x9,z8,l5 hm,l8 hm,A8 hm,w9 hm,C9,j6,o7,o8,J5,l1] at g1
  cases h1:(decide (0≤f.mday)&&decide (f.mday≤19999)) with
  | true=>simp [f47,C8,trD,G9,o9,l6,j3,x9,z8,l5 hm,l8 hm,A8 hm,w9 hm,C9,j6,o7,o8,J5,hk,g1,l1,Jt,ha,aH,h1,c2,c3]
  | false=>simp [f47,C8,trD,G9,o9,l6,j3,x9,z8,l5 hm,l8 hm,A8 hm,w9 hm,C9,j6,o7,o8,J5,hk,g1,l1,Jt,ha,aH,h1]
theorem akw {m:Mem}{f:Fct}{a b l:List Int}(hm:m.Ok)(hl:m.lim≤m.next)(hf:aT m f a b l)(n fu:Nat)(hfu:1000≤fu)(hk:f.kind=7):∃m',D6 KW fu (n+6) (.func 47) [.agg f.cells] m=some [⟨.bool (wdB f),m'⟩]∧Ext m m':=by
 rw [enter (sf:=f47) rfl rfl]
 cases h0:(decide (1≤f.tr)&&decide (f.tr≤6)) with
 | true=>
  cases h1:(decide (1≤f.tn)&&decide (f.tn≤60)) with
  | true=>
   cases h2:decide (f.tr=f.room) with
   | true=>
    cases h3:decide (f.tn=f.no) with
    | true=>
     exact⟨ext m [A9 f.cells],by simp [f47,C8,trD,G9,o9,l6,j3,x9,z8,l5 hm,l8 hm,A8 hm,w9 hm,C9,j6,o7,o8,J5,hk,aH,wdB,h0,h1,h2,h3],D8 hm _⟩
    | false=>exact⟨ext m [A9 f.cells],by simp [f47,C8,trD,G9,o9,l6,j3,x9,z8,l5 hm,l8 hm,A8 hm,w9 hm,C9,j6,o7,o8,J5,hk,aH,wdB,h0,h1,h2,h3],D8 hm _⟩
   | false=>exact⟨ext m [A9 f.cells],by simp [f47,C8,trD,G9,o9,l6,j3,x9,z8,l5 hm,l8 hm,A8 hm,w9 hm,C9,j6,o7,o8,J5,hk,aH,wdB,h0,h1,h2],D8 hm _⟩
  | false=>exact⟨ext m [A9 f.cells],by simp [f47,C8,trD,G9,o9,l6,j3,x9,z8,l5 hm,l8 hm,A8 hm,w9 hm,C9,j6,o7,o8,J5,hk,aH,wdB,h0,h1],D8 hm _⟩
 | false=>exact⟨ext m [A9 f.cells],by simp [f47,C8,trD,G9,o9,l6,j3,x9,z8,l5 hm,l8 hm,A8 hm,w9 hm,C9,j6,o7,o8,J5,hk,aH,wdB,h0],D8 hm _⟩
theorem akx {m:Mem}{f:Fct}{a b l:List Int}(hm:m.Ok)(hl:m.lim≤m.next)(hf:aT m f a b l)(n fu:Nat)(hfu:1000≤fu)(h1:f.kind≠1)(h2:f.kind≠2)(h3:f.kind≠3)(h4:f.kind≠4)(h5:f.kind≠5)(h6:f.kind≠6)(h7:f.kind≠7):∃m',D6 KW fu (n+6) (.func 47) [.agg f.cells] m=some [⟨.bool false,m'⟩]∧Ext m m':=by
 rw [enter (sf:=f47) rfl rfl]
 exact⟨ext m [A9 f.cells],by simp [f47,C8,trD,G9,o9,l6,j3,x9,z8,l5 hm,l8 hm,A8 hm,w9 hm,C9,j6,o7,o8,J5,h1,h2,h3,h4,h5,h6,h7],D8 hm _⟩
theorem aaQ {m:Mem}{f:Fct}{a b l:List Int}(hm:m.Ok)(hl:m.lim≤m.next)(hf:aT m f a b l)(n fu:Nat)(hfu:1000≤fu)(ha:aR f.gn)(hb:aR f.gd):∃m',D6 KW fu (n+6) (.func 47) [.agg f.cells] m=some [⟨.bool (mI f a b l),m'⟩]∧Ext m m':=by
 unfold mI
 by_cases h1:f.kind=1
 ·rw [if_pos h1];exact akq hm hl hf n fu hfu h1
 rw [if_neg h1]
 by_cases h2:f.kind=2
 ·rw [if_pos h2];exact akr hm hl hf n fu hfu ha hb h2
 rw [if_neg h2]
 by_cases h3:f.kind=3
 ·rw [if_pos h3];exact aks hm hl hf n fu hfu h3
 rw [if_neg h3]
 by_cases h4:f.kind=4
 ·rw [if_pos h4];exact akt hm hl hf n fu hfu h4
 rw [if_neg h4]
 by_cases h5:f.kind=5
 ·rw [if_pos h5];exact aku hm hl hf n fu hfu h5
 rw [if_neg h5]
 by_cases h6:f.kind=6
 ·rw [if_pos h6];exact akv hm hl hf n fu hfu h6
 rw [if_neg h6]
 by_cases h7:f.kind=7
 ·rw [if_pos h7];exact akw hm hl hf n fu hfu h7
 rw [if_neg h7]
 exact akx hm hl hf n fu hfu h1 h2 h3 h4 h5 h6 h7
def LW (f:Fct)(a b l:List Int):Bool:=bD f (M6 f) a b l (if f.kind=5 then a else []) (if f.kind=5 then b else []) (if f.kind=6 then l else [])
def aK (f:Fct):Bool:=(decide (1≤f.room)&&decide (f.room≤6))&&((decide (1≤f.no)&&decide (f.no≤60))&&(decide (0≤f.known)&&decide (f.known≤1099511627776)))
def dB (f:Fct)(a b l:List Int):Bool:=aK f&&(mI f a b l&&LW f a b l)
theorem QY {m:Mem}{f:Fct}{a b l:List Int}(hm:m.Ok)(hl:m.lim≤m.next)(hf:aT m f a b l)(n fu:Nat)(hfu:1000≤fu)(ha:aR f.gn)(hb:aR f.gd):∃m',D6 KW fu (n+7) (.func 14) [.agg f.cells] m=some [⟨.bool (dB f a b l),m'⟩]∧Ext m m':=by
 rw [enter (sf:=f14) rfl rfl]
 have hf1:=hf.ext (D8 hm [A9 f.cells])
 obtain⟨m1,g1,E1⟩:=aaQ (J4 hm [A9 f.cells]) (by simp;omega) hf1 n fu hfu ha hb
 have k1:m1.Ok:=E1.ok
 have E01:=(D8 hm [A9 f.cells]).trans E1
 have l1:m1.lim≤m1.next:=by rw [E01.lim];have:=E01.next;omega
 have q1:m1.get m.next=some (A9 f.cells):=by rw [E1.old _ (by simp),l5 hm];rfl
 have q2:∀bs,(ext m1 bs).get m.next=some (A9 f.cells):=fun bs=>by rw [G6 k1 _ (by have:=E1.next;simp at this;omega)];exact q1
 have hf2:=hf.ext E01
 have g2:=aaH k1 l1 hf2 (n+5) fu
 have B:=[A9 f.cells,A9 (M6 f).cells,A9 (M6 f).cells]
 have hf3:=hf2.ext (D8 k1 [A9 f.cells,A9 (M6 f).cells,A9 (M6 f).cells])
 have g3:=QX (J4 k1 _) hf3 (nN hf3) (n+3) fu hfu
 have q3:=q2 [A9 f.cells,A9 (M6 f).cells,A9 (M6 f).cells]
 cases h0:(decide (1≤f.room)&&decide (f.room≤6)) with
 | true=>
  cases h1:(decide (1≤f.no)&&decide (f.no≤60)) with
  | true=>
   cases h2:(decide (0≤f.known)&&decide (f.known≤1099511627776)) with
   | true=>
    cases hF:mI f a b l with
    | false=>
     rw [hF] at g1
     exact⟨m1,by simp [f14,C8,trD,G9,o9,l6,j3,x9,z8,O6 hm hl,C9,j6,o7,o8,J5,aH,DK,dB,aK,h0,h1,h2,hF,g1,q1],E01⟩
    | true=>
     rw [hF] at g1
     exact⟨ext m1 ([A9 f.cells,A9 (M6 f).cells,A9 (M6 f).cells] ++ [A9 f.cells,A9 (M6 f).cells,A9 f.cmp,A9 (M6 f).cmp]),by simp [f14,C8,trD,G9,o9,l6,j3,x9,z8,O6 hm hl,C9,j6,o7,o8,J5,aH,DK,dB,aK,h0,h1,h2,hF,g1,q1,g2,q3,g3,hf.same,LW],E01.trans (D8 k1 ([A9 f.cells,A9 (M6 f).cells,A9 (M6 f).cells] ++ [A9 f.cells,A9 (M6 f).cells,A9 f.cmp,A9 (M6 f).cmp]))⟩
   | false=>exact⟨ext m [A9 f.cells],by simp [f14,C8,trD,G9,o9,l6,j3,x9,z8,l5 hm,l8 hm,A8 hm,w9 hm,C9,j6,o7,o8,J5,aH,DK,dB,aK,h0,h1,h2],D8 hm _⟩
  | false=>exact⟨ext m [A9 f.cells],by simp [f14,C8,trD,G9,o9,l6,j3,x9,z8,l5 hm,l8 hm,A8 hm,w9 hm,C9,j6,o7,o8,J5,aH,DK,dB,aK,h0,h1],D8 hm _⟩
 | false=>exact⟨ext m [A9 f.cells],by simp [f14,C8,trD,G9,o9,l6,j3,x9,z8,l5 hm,l8 hm,A8 hm,w9 hm,C9,j6,o7,o8,J5,aH,DK,dB,aK,h0],D8 hm _⟩
theorem J8 (f:EqF)(k:j5)(e:j5×j5)(es:List (j5×j5))(i:Nat):findKey f k (e::es) i=ob (f k e.1) fun b=>bi b (some (some (i,e.2))) (findKey f k es (i+1)):=rfl
theorem K4 (f:EqF)(k:j5)(i:Nat):findKey f k [] i=some none:=rfl
def fieldMap:List (j5×j5):=[(.int .i64 1,.agg [.func (.func 129) [] [],.func (.func 131) [] []]),(.int .i64 2,.agg [.func (.func 132) [] [],.func (.func 133) [] []]),(.int .i64 3,.agg [.func (.func 134) [] [],.func (.func 136) [] []]),(.int .i64 4,.agg [.func (.func 137) [] [],.func (.func 138) [] []]),(.int .i64 5,.agg [.func (.func 139) [] [],.func (.func 141) [] []]),(.int .i64 6,.agg [.func (.func 142) [] [],.func (.func 144) [] []]),(.int .i64 7,.agg [.func (.func 145) [] [],.func (.func 146) [] []])]
theorem Z9 (f:EqF)(n:Nat)(zero:j5)(ok:Bool)(mp k:OF)(ls:List j5)(env:T j5)(m:Mem)(id:Nat)(es:List (j5×j5))(h:mp ls env=.map id)(hg:m.get id=some (.map es)):
  iU f n zero ok mp k ls env m=ob (dn f n (k ls env) es) fun r=>found ok zero r:=by
 show BO (mp ls env) _ _=_
 rw [h]
 show vEs (m.get id) _=_
 rw [hg];rfl
theorem uR (n fu:Nat)(m:Mem)(hm:m.Ok)(hl:m.lim≤m.next):D6 KW fu (n+1) (.func 78) [] m=some [⟨.map m.next,ext m [.map fieldMap]⟩]:=by
 rw [enter (sf:=f78) rfl rfl]
 have hbl:Nat.blt m.next m.lim=false:=by have:=uP hl [];rwa [iR] at this
 simp [f78,C8,trD,G9,o9,l6,j3,x9,z8,O6 hm hl,C9,j6,o7,o8,J5,tJ,hbl,Fv,nL,K5,J8,K4,M9,fieldMap]
theorem jG (f:Fct):O7 (M0 f).cells=true:=rfl
def qp (f:Fct)(a b l:List Int):Bool:=bD (M6 f) f (if f.kind=5 then a else []) (if f.kind=5 then b else []) (if f.kind=6 then l else []) a b l
theorem aky {m:Mem}{f:Fct}{a b l:List Int}(hm:m.Ok)(hl:m.lim≤m.next)(hf:aT m f a b l)(n fu:Nat)(hfu:1000≤fu)(ha:aR f.gn)(hb:aR f.gd)(h1:f.kind≠1)(h2:f.kind≠2)(h3:f.kind≠3)(h4:f.kind≠4)(h5:f.kind≠5)(h6:f.kind≠6)(h7:f.kind≠7):∃m',D6 KW fu (n+11) (.func 36) [.agg f.cells] m=some [⟨.bool false,m'⟩]∧Ext m m':=by
 rw [enter (sf:=f36) rfl rfl]
 have c68:=uR (n+9) fu (ext m [A9 f.cells,.void]) (J4 hm _) (by simp;omega)
 have hlook:∀(mp k:OF) ls env,mp ls env=.map (m.next+2)→k ls env=.int .i64 f.kind→iU cO 1 (.agg [.nilFunc,.nilFunc]) true mp k ls env (ext m [A9 f.cells,.void,.map fieldMap])=some (.tuple [.agg [.nilFunc,.nilFunc],.bool false]):=by
  intro mp k ls env e1 e2
  rw [Z9 _ _ _ _ _ _ _ _ _ _ fieldMap e1 (by rw [l8 hm];rfl),e2]
  simp [fieldMap,K5,J8,K4,M9,h1,h2,h3,h4,h5,h6,h7]
  rfl
 exact⟨ext m [A9 f.cells,A9 [.nilFunc,.nilFunc],.map fieldMap],by simp [f36,C8,trD,G9,o9,l6,j3,x9,z8,O6 hm hl,C9,j6,o7,o8,J5,c68,hlook,I6,isVoid,avw],D8 hm _⟩
theorem akz {m:Mem}{f:Fct}{a b l:List Int}(hm:m.Ok)(hl:m.lim≤m.next)(hf:aT m f a b l)(n fu:Nat)(hfu:1000≤fu)(ha:aR f.gn)(hb:aR f.gd)(hk:f.kind=1):∃m',D6 KW fu (n+11) (.func 36) [.agg f.cells] m=some [⟨.bool (aK f&&(DL f&&qp f a b l)),m'⟩]∧Ext m m':=by
 rw [enter (sf:=f36) rfl rfl]
 have c68:=uR (n+9) fu (ext m [A9 f.cells,.void]) (J4 hm _) (by simp;omega)
 have hlook:∀(mp k:OF) ls env,mp ls env=.map (m.next+2)→k ls env=.int .i64 1→iU cO 1 (.agg [.nilFunc,.nilFunc]) true mp k ls env (ext m [A9 f.cells,.void,.map fieldMap])=some (.tuple [.agg [.func (.func 129) [] [],.func (.func 131) [] []],.bool true]):=by
  intro mp k ls env e1 e2
  rw [Z9 _ _ _ _ _ _ _ _ _ _ fieldMap e1 (by rw [l8 hm];rfl),e2]
  simp [fieldMap,K5,J8,K4,M9]
  rfl
 have hf3:=hf.ext (D8 hm [A9 f.cells,A9 [.func (.func 129) [] [],.func (.func 131) [] []],.map fieldMap])
 have E0:=D8 hm [A9 f.cells,A9 [.func (.func 129) [] [],.func (.func 131) [] []],.map fieldMap]
 obtain⟨m1,g1,E1⟩:∃m1,D6 KW fu (n+10) (.func 129) [.agg f.cells] (ext m [A9 f.cells,A9 [.func (.func 129) [] [],.func (.func 131) [] []],.map fieldMap])=some [⟨.bool (DL f),m1⟩]∧Ext (ext m [A9 f.cells,A9 [.func (.func 129) [] [],.func (.func 131) [] []],.map fieldMap]) m1:=TD (n+8) fu f _ (J4 hm _) (by simp;omega)
 have k1:m1.Ok:=E1.ok
 have E01:=E0.trans E1
 have n1:m.next+3≤m1.next:=by have:=E1.next;simpa using this
 have l1:m1.lim≤m1.next:=by rw [E01.lim];omega
 have q1:m1.get m.next=some (A9 f.cells):=by rw [E1.old _ (by simp),l5 hm];rfl
 have q2:m1.get (m.next+1)=some (A9 [.func (.func 129) [] [],.func (.func 131) [] []]):=by rw [E1.old _ (by simp),l8 hm];rfl
 have q1':(ext m1 [A9 (M0 f).cells]).get m.next=some (A9 f.cells):=by rw [G6 k1 _ (by omega)];exact q1
 have q2':(ext m1 [A9 (M0 f).cells]).get (m.next+1)=some (A9 [.func (.func 129) [] [],.func (.func 131) [] []]):=by rw [G6 k1 _ (by omega)];exact q2
 obtain⟨m2,g2,k2,lm2,n2,o2,p2⟩:=TU (g:=M0 f) (p:=m1.next) (J4 k1 [A9 (M0 f).cells]) (by simp;omega) (by simp) ((hf.ext E01).ext (D8 k1 _)) (by rw [l5 k1];rfl) (n+9) fu
 have n2':m1.next+1≤m2.next:=by simpa using n2
 have E02:Ext m m2:=⟨k2,by omega,by rw [lm2,iR];exact E01.lim,fun i hi=>by rw [o2 i (by simp;omega) (by omega),G6 k1 _ (by omega)];exact E01.old i hi⟩
 have q3:m2.get m.next=some (A9 f.cells):=by rw [o2 _ (by simp;omega) (by omega)];exact q1'
 have hbF:({M0 f with flo:=f.flo,fhi:=f.fhi}:Fct)=M6 f:=by simp [M6,hk]
 rw [hbF] at p2
 have hfz:=hf.ext E02
 have g3:=xg k2 (by rw [E02.lim];omega) (nN hfz) hfz (n+7) fu hfu
 have hz:[j5.int .i64 f.room,.int .i64 f.no,.int .i64 f.known,.int .i64 1,.int .i64 0,.int .i64 0,.int .i64 0,.int .i64 0,.int .i64 0,.int .i64 0,.int .i64 0,.int .i64 0,.int .i64 0,.int .i64 0,.int .i64 0,.int .i64 0,.int .i64 0,.int .i64 0,.int .i64 0,.int .i64 0,.int .i64 0,.int .i64 0,.nilSlice,.nilSlice,.int .i64 0,.int .i64 0,.int .i64 0,.int .i64 0,.int .i64 0,.nilSlice,.int .i64 0,.int .i64 0]=(M0 f).cells:=by simp [M0,Fct.cells,hk,-Fct.Q0]
 have hz1:=jG f
 cases h0:(decide (1≤f.room)&&decide (f.room≤6)) with
 | true=>
  cases h1:(decide (1≤f.no)&&decide (f.no≤60)) with
  | true=>
   cases h2:(decide (0≤f.known)&&decide (f.known≤1099511627776)) with
   | true=>
    cases hF:DL f with
    | false=>
     rw [hF] at g1
     exact⟨m1,by simp [f36,C8,trD,G9,o9,l6,j3,x9,z8,O6 hm hl,C9,j6,o7,o8,J5,c68,hlook,I6,isVoid,avw,hk,O9,aF,aK,h0,h1,h2,hF,g1,q1],E01⟩
    | true=>
     rw [hF] at g1
     exact⟨_,by simp [f36,C8,trD,G9,o9,l6,j3,x9,z8,O6 hm hl,O6 k1 l1,C9,j6,o7,o8,J5,c68,hlook,I6,isVoid,avw,hk,O9,aF,aK,h0,h1,h2,hF,g1,q1,q2,hz,hz1,q1',q2',g2,q3,p2,g3,qp],E02.trans (D8 k2 ([A9 (M6 f).cells,A9 f.cells,A9 (M6 f).cells,(M6 f).nm,A9 f.cells,f.nm]++(bif bQ (M6 f) f then [A9 (M6 f).cmp,A9 f.cmp] else [])))⟩
   | false=>exact⟨ext m [A9 f.cells,A9 [.func (.func 129) [] [],.func (.func 131) [] []],.map fieldMap],by simp [f36,C8,trD,G9,o9,l6,j3,x9,z8,O6 hm hl,C9,j6,o7,o8,J5,c68,hlook,I6,isVoid,avw,hk,O9,aF,aK,h0,h1,h2],E0⟩
  | false=>exact⟨ext m [A9 f.cells,A9 [.func (.func 129) [] [],.func (.func 131) [] []],.map fieldMap],by simp [f36,C8,trD,G9,o9,l6,j3,x9,z8,O6 hm hl,C9,j6,o7,o8,J5,c68,hlook,I6,isVoid,avw,hk,O9,aF,aK,h0,h1],E0⟩
 | false=>exact⟨ext m [A9 f.cells,A9 [.func (.func 129) [] [],.func (.func 131) [] []],.map fieldMap],by simp [f36,C8,trD,G9,o9,l6,j3,x9,z8,O6 hm hl,C9,j6,o7,o8,J5,c68,hlook,I6,isVoid,avw,hk,O9,aF,aK,h0],E0⟩
theorem akA {m:Mem}{f:Fct}{a b l:List Int}(hm:m.Ok)(hl:m.lim≤m.next)(hf:aT m f a b l)(n fu:Nat)(hfu:1000≤fu)(ha:aR f.gn)(hb:aR f.gd)(hk:f.kind=2):∃m',D6 KW fu (n+11) (.func 36) [.agg f.cells] m=some [⟨.bool (aK f&&(Q7 f&&qp f a b l)),m'⟩]∧Ext m m':=by
 rw [enter (sf:=f36) rfl rfl]
 have c68:=uR (n+9) fu (ext m [A9 f.cells,.void]) (J4 hm _) (by simp;omega)
 have hlook:∀(mp k:OF) ls env,mp ls env=.map (m.next+2)→k ls env=.int .i64 2→iU cO 1 (.agg [.nilFunc,.nilFunc]) true mp k ls env (ext m [A9 f.cells,.void,.map fieldMap])=some (.tuple [.agg [.func (.func 132) [] [],.func (.func 133) [] []],.bool true]):=by
  intro mp k ls env e1 e2
  rw [Z9 _ _ _ _ _ _ _ _ _ _ fieldMap e1 (by rw [l8 hm];rfl),e2]
  simp [fieldMap,K5,J8,K4,M9]
  rfl
 have hf3:=hf.ext (D8 hm [A9 f.cells,A9 [.func (.func 132) [] [],.func (.func 133) [] []],.map fieldMap])
 have E0:=D8 hm [A9 f.cells,A9 [.func (.func 132) [] [],.func (.func 133) [] []],.map fieldMap]
 obtain⟨m1,g1,E1⟩:∃m1,D6 KW fu (n+10) (.func 132) [.agg f.cells] (ext m [A9 f.cells,A9 [.func (.func 132) [] [],.func (.func 133) [] []],.map fieldMap])=some [⟨.bool (Q7 f),m1⟩]∧Ext (ext m [A9 f.cells,A9 [.func (.func 132) [] [],.func (.func 133) [] []],.map fieldMap]) m1:=Uu ha hb (J4 hm _) (by simp;omega) (n+1) fu hfu
 have k1:m1.Ok:=E1.ok
 have E01:=E0.trans E1
 have n1:m.next+3≤m1.next:=by have:=E1.next;simpa using this
 have l1:m1.lim≤m1.next:=by rw [E01.lim];omega
 have q1:m1.get m.next=some (A9 f.cells):=by rw [E1.old _ (by simp),l5 hm];rfl
 have q2:m1.get (m.next+1)=some (A9 [.func (.func 132) [] [],.func (.func 133) [] []]):=by rw [E1.old _ (by simp),l8 hm];rfl
 have q1':(ext m1 [A9 (M0 f).cells]).get m.next=some (A9 f.cells):=by rw [G6 k1 _ (by omega)];exact q1
 have q2':(ext m1 [A9 (M0 f).cells]).get (m.next+1)=some (A9 [.func (.func 132) [] [],.func (.func 133) [] []]):=by rw [G6 k1 _ (by omega)];exact q2
 obtain⟨m2,g2,k2,lm2,n2,o2,p2⟩:=TV (g:=M0 f) (p:=m1.next) (J4 k1 [A9 (M0 f).cells]) (by simp;omega) (by simp) ((hf.ext E01).ext (D8 k1 _)) (by rw [l5 k1];rfl) (n+9) fu
 have n2':m1.next+1≤m2.next:=by simpa using n2
 have E02:Ext m m2:=⟨k2,by omega,by rw [lm2,iR];exact E01.lim,fun i hi=>by rw [o2 i (by simp;omega) (by omega),G6 k1 _ (by omega)];exact E01.old i hi⟩
 have q3:m2.get m.next=some (A9 f.cells):=by rw [o2 _ (by simp;omega) (by omega)];exact q1'
 have hbF:({M0 f with gid:=f.gid,made:=f.made,nom:=f.nom,tlo:=f.tlo,thi:=f.thi,gn:=f.gn,gd:=f.gd,wear:=f.wear}:Fct)=M6 f:=by simp [M6,hk]
 rw [hbF] at p2
 have hfz:=hf.ext E02
 have g3:=xg k2 (by rw [E02.lim];omega) (nN hfz) hfz (n+7) fu hfu
 have hz:[j5.int .i64 f.room,.int .i64 f.no,.int .i64 f.known,.int .i64 2,.int .i64 0,.int .i64 0,.int .i64 0,.int .i64 0,.int .i64 0,.int .i64 0,.int .i64 0,.int .i64 0,.int .i64 0,.int .i64 0,.int .i64 0,.int .i64 0,.int .i64 0,.int .i64 0,.int .i64 0,.int .i64 0,.int .i64 0,.int .i64 0,.nilSlice,.nilSlice,.int .i64 0,.int .i64 0,.int .i64 0,.int .i64 0,.int .i64 0,.nilSlice,.int .i64 0,.int .i64 0]=(M0 f).cells:=by simp [M0,Fct.cells,hk,-Fct.Q0]
 have hz1:=jG f
 cases h0:(decide (1≤f.room)&&decide (f.room≤6)) with
 | true=>
  cases h1:(decide (1≤f.no)&&decide (f.no≤60)) with
  | true=>
   cases h2:(decide (0≤f.known)&&decide (f.known≤1099511627776)) with
   | true=>
    cases hF:Q7 f with
    | false=>
     rw [hF] at g1
     exact⟨m1,by simp [f36,C8,trD,G9,o9,l6,j3,x9,z8,O6 hm hl,C9,j6,o7,o8,J5,c68,hlook,I6,isVoid,avw,hk,O9,aF,aK,h0,h1,h2,hF,g1,q1],E01⟩
    | true=>
     rw [hF] at g1
     exact⟨_,by simp [f36,C8,trD,G9,o9,l6,j3,x9,z8,O6 hm hl,O6 k1 l1,C9,j6,o7,o8,J5,c68,hlook,I6,isVoid,avw,hk,O9,aF,aK,h0,h1,h2,hF,g1,q1,q2,hz,hz1,q1',q2',g2,q3,p2,g3,qp],E02.trans (D8 k2 ([A9 (M6 f).cells,A9 f.cells,A9 (M6 f).cells,(M6 f).nm,A9 f.cells,f.nm]++(bif bQ (M6 f) f then [A9 (M6 f).cmp,A9 f.cmp] else [])))⟩
   | false=>exact⟨ext m [A9 f.cells,A9 [.func (.func 132) [] [],.func (.func 133) [] []],.map fieldMap],by simp [f36,C8,trD,G9,o9,l6,j3,x9,z8,O6 hm hl,C9,j6,o7,o8,J5,c68,hlook,I6,isVoid,avw,hk,O9,aF,aK,h0,h1,h2],E0⟩
  | false=>exact⟨ext m [A9 f.cells,A9 [.func (.func 132) [] [],.func (.func 133) [] []],.map fieldMap],by simp [f36,C8,trD,G9,o9,l6,j3,x9,z8,O6 hm hl,C9,j6,o7,o8,J5,c68,hlook,I6,isVoid,avw,hk,O9,aF,aK,h0,h1],E0⟩
 | false=>exact⟨ext m [A9 f.cells,A9 [.func (.func 132) [] [],.func (.func 133) [] []],.map fieldMap],by simp [f36,C8,trD,G9,o9,l6,j3,x9,z8,O6 hm hl,C9,j6,o7,o8,J5,c68,hlook,I6,isVoid,avw,hk,O9,aF,aK,h0],E0⟩
theorem akB {m:Mem}{f:Fct}{a b l:List Int}(hm:m.Ok)(hl:m.lim≤m.next)(hf:aT m f a b l)(n fu:Nat)(hfu:1000≤fu)(ha:aR f.gn)(hb:aR f.gd)(hk:f.kind=3):∃m',D6 KW fu (n+11) (.func 36) [.agg f.cells] m=some [⟨.bool (aK f&&(Nu f&&qp f a b l)),m'⟩]∧Ext m m':=by
 rw [enter (sf:=f36) rfl rfl]
 have c68:=uR (n+9) fu (ext m [A9 f.cells,.void]) (J4 hm _) (by simp;omega)
 have hlook:∀(mp k:OF) ls env,mp ls env=.map (m.next+2)→k ls env=.int .i64 3→iU cO 1 (.agg [.nilFunc,.nilFunc]) true mp k ls env (ext m [A9 f.cells,.void,.map fieldMap])=some (.tuple [.agg [.func (.func 134) [] [],.func (.func 136) [] []],.bool true]):=by
  intro mp k ls env e1 e2
  rw [Z9 _ _ _ _ _ _ _ _ _ _ fieldMap e1 (by rw [l8 hm];rfl),e2]
  simp [fieldMap,K5,J8,K4,M9]
  rfl
 have hf3:=hf.ext (D8 hm [A9 f.cells,A9 [.func (.func 134) [] [],.func (.func 136) [] []],.map fieldMap])
 have E0:=D8 hm [A9 f.cells,A9 [.func (.func 134) [] [],.func (.func 136) [] []],.map fieldMap]
 obtain⟨m1,g1,E1⟩:∃m1,D6 KW fu (n+10) (.func 134) [.agg f.cells] (ext m [A9 f.cells,A9 [.func (.func 134) [] [],.func (.func 136) [] []],.map fieldMap])=some [⟨.bool (Nu f),m1⟩]∧Ext (ext m [A9 f.cells,A9 [.func (.func 134) [] [],.func (.func 136) [] []],.map fieldMap]) m1:=TF (n+7) fu f _ (J4 hm _) (by simp;omega)
 have k1:m1.Ok:=E1.ok
 have E01:=E0.trans E1
 have n1:m.next+3≤m1.next:=by have:=E1.next;simpa using this
 have l1:m1.lim≤m1.next:=by rw [E01.lim];omega
 have q1:m1.get m.next=some (A9 f.cells):=by rw [E1.old _ (by simp),l5 hm];rfl
 have q2:m1.get (m.next+1)=some (A9 [.func (.func 134) [] [],.func (.func 136) [] []]):=by rw [E1.old _ (by simp),l8 hm];rfl
 have q1':(ext m1 [A9 (M0 f).cells]).get m.next=some (A9 f.cells):=by rw [G6 k1 _ (by omega)];exact q1
 have q2':(ext m1 [A9 (M0 f).cells]).get (m.next+1)=some (A9 [.func (.func 134) [] [],.func (.func 136) [] []]):=by rw [G6 k1 _ (by omega)];exact q2
 obtain⟨m2,g2,k2,lm2,n2,o2,p2⟩:=TW (g:=M0 f) (p:=m1.next) (J4 k1 [A9 (M0 f).cells]) (by simp;omega) (by simp) ((hf.ext E01).ext (D8 k1 _)) (by rw [l5 k1];rfl) (n+9) fu
 have n2':m1.next+1≤m2.next:=by simpa using n2
 have E02:Ext m m2:=⟨k2,by omega,by rw [lm2,iR];exact E01.lim,fun i hi=>by rw [o2 i (by simp;omega) (by omega),G6 k1 _ (by omega)];exact E01.old i hi⟩
 have q3:m2.get m.next=some (A9 f.cells):=by rw [o2 _ (by simp;omega) (by omega)];exact q1'
 have hbF:({M0 f with ug:=f.ug,ud:=f.ud}:Fct)=M6 f:=by simp [M6,hk]
 rw [hbF] at p2
 have hfz:=hf.ext E02
 have g3:=xg k2 (by rw [E02.lim];omega) (nN hfz) hfz (n+7) fu hfu
 have hz:[j5.int .i64 f.room,.int .i64 f.no,.int .i64 f.known,.int .i64 3,.int .i64 0,.int .i64 0,.int .i64 0,.int .i64 0,.int .i64 0,.int .i64 0,.int .i64 0,.int .i64 0,.int .i64 0,.int .i64 0,.int .i64 0,.int .i64 0,.int .i64 0,.int .i64 0,.int .i64 0,.int .i64 0,.int .i64 0,.int .i64 0,.nilSlice,.nilSlice,.int .i64 0,.int .i64 0,.int .i64 0,.int .i64 0,.int .i64 0,.nilSlice,.int .i64 0,.int .i64 0]=(M0 f).cells:=by simp [M0,Fct.cells,hk,-Fct.Q0]
 have hz1:=jG f
 cases h0:(decide (1≤f.room)&&decide (f.room≤6)) with
 | true=>
  cases h1:(decide (1≤f.no)&&decide (f.no≤60)) with
  | true=>
   cases h2:(decide (0≤f.known)&&decide (f.known≤1099511627776)) with
   | true=>
    cases hF:Nu f with
    | false=>
     rw [hF] at g1
     exact⟨m1,by simp [f36,C8,trD,G9,o9,l6,j3,x9,z8,O6 hm hl,C9,j6,o7,o8,J5,c68,hlook,I6,isVoid,avw,hk,O9,aF,aK,h0,h1,h2,hF,g1,q1],E01⟩
    | true=>
     rw [hF] at g1
     exact⟨_,by simp [f36,C8,trD,G9,o9,l6,j3,x9,z8,O6 hm hl,O6 k1 l1,C9,j6,o7,o8,J5,c68,hlook,I6,isVoid,avw,hk,O9,aF,aK,h0,h1,h2,hF,g1,q1,q2,hz,hz1,q1',q2',g2,q3,p2,g3,qp],E02.trans (D8 k2 ([A9 (M6 f).cells,A9 f.cells,A9 (M6 f).cells,(M6 f).nm,A9 f.cells,f.nm]++(bif bQ (M6 f) f then [A9 (M6 f).cmp,A9 f.cmp] else [])))⟩
   | false=>exact⟨ext m [A9 f.cells,A9 [.func (.func 134) [] [],.func (.func 136) [] []],.map fieldMap],by simp [f36,C8,trD,G9,o9,l6,j3,x9,z8,O6 hm hl,C9,j6,o7,o8,J5,c68,hlook,I6,isVoid,avw,hk,O9,aF,aK,h0,h1,h2],E0⟩
  | false=>exact⟨ext m [A9 f.cells,A9 [.func (.func 134) [] [],.func (.func 136) [] []],.map fieldMap],by simp [f36,C8,trD,G9,o9,l6,j3,x9,z8,O6 hm hl,C9,j6,o7,o8,J5,c68,hlook,I6,isVoid,avw,hk,O9,aF,aK,h0,h1],E0⟩
 | false=>exact⟨ext m [A9 f.cells,A9 [.func (.func 134) [] [],.func (.func 136) [] []],.map fieldMap],by simp [f36,C8,trD,G9,o9,l6,j3,x9,z8,O6 hm hl,C9,j6,o7,o8,J5,c68,hlook,I6,isVoid,avw,hk,O9,aF,aK,h0],E0⟩
theorem akC {m:Mem}{f:Fct}{a b l:List Int}(hm:m.Ok)(hl:m.lim≤m.next)(hf:aT m f a b l)(n fu:Nat)(hfu:1000≤fu)(ha:aR f.gn)(hb:aR f.gd)(hk:f.kind=4):∃m',D6 KW fu (n+11) (.func 36) [.agg f.cells] m=some [⟨.bool (aK f&&(oO f&&qp f a b l)),m'⟩]∧Ext m m':=by
 rw [enter (sf:=f36) rfl rfl]
 have c68:=uR (n+9) fu (ext m [A9 f.cells,.void]) (J4 hm _) (by simp;omega)
 have hlook:∀(mp k:OF) ls env,mp ls env=.map (m.next+2)→k ls env=.int .i64 4→iU cO 1 (.agg [.nilFunc,.nilFunc]) true mp k ls env (ext m [A9 f.cells,.void,.map fieldMap])=some (.tuple [.agg [.func (.func 137) [] [],.func (.func 138) [] []],.bool true]):=by
  intro mp k ls env e1 e2
  rw [Z9 _ _ _ _ _ _ _ _ _ _ fieldMap e1 (by rw [l8 hm];rfl),e2]
  simp [fieldMap,K5,J8,K4,M9]
  rfl
 have hf3:=hf.ext (D8 hm [A9 f.cells,A9 [.func (.func 137) [] [],.func (.func 138) [] []],.map fieldMap])
 have E0:=D8 hm [A9 f.cells,A9 [.func (.func 137) [] [],.func (.func 138) [] []],.map fieldMap]
 obtain⟨m1,g1,E1⟩:∃m1,D6 KW fu (n+10) (.func 137) [.agg f.cells] (ext m [A9 f.cells,A9 [.func (.func 137) [] [],.func (.func 138) [] []],.map fieldMap])=some [⟨.bool (oO f),m1⟩]∧Ext (ext m [A9 f.cells,A9 [.func (.func 137) [] [],.func (.func 138) [] []],.map fieldMap]) m1:=TN (n+7) fu f _ (J4 hm _) (by simp;omega)
 have k1:m1.Ok:=E1.ok
 have E01:=E0.trans E1
 have n1:m.next+3≤m1.next:=by have:=E1.next;simpa using this
 have l1:m1.lim≤m1.next:=by rw [E01.lim];omega
 have q1:m1.get m.next=some (A9 f.cells):=by rw [E1.old _ (by simp),l5 hm];rfl
 have q2:m1.get (m.next+1)=some (A9 [.func (.func 137) [] [],.func (.func 138) [] []]):=by rw [E1.old _ (by simp),l8 hm];rfl
 have q1':(ext m1 [A9 (M0 f).cells]).get m.next=some (A9 f.cells):=by rw [G6 k1 _ (by omega)];exact q1
 have q2':(ext m1 [A9 (M0 f).cells]).get (m.next+1)=some (A9 [.func (.func 137) [] [],.func (.func 138) [] []]):=by rw [G6 k1 _ (by omega)];exact q2
 obtain⟨m2,g2,k2,lm2,n2,o2,p2⟩:=TY (g:=M0 f) (p:=m1.next) (J4 k1 [A9 (M0 f).cells]) (by simp;omega) (by simp) ((hf.ext E01).ext (D8 k1 _)) (by rw [l5 k1];rfl) (n+9) fu
 have n2':m1.next+1≤m2.next:=by simpa using n2
 have E02:Ext m m2:=⟨k2,by omega,by rw [lm2,iR];exact E01.lim,fun i hi=>by rw [o2 i (by simp;omega) (by omega),G6 k1 _ (by omega)];exact E01.old i hi⟩
 have q3:m2.get m.next=some (A9 f.cells):=by rw [o2 _ (by simp;omega) (by omega)];exact q1'
 have hbF:({M0 f with lg:=f.lg,ll:=f.ll,lh:=f.lh,lw:=f.lw}:Fct)=M6 f:=by simp [M6,hk]
 rw [hbF] at p2
 have hfz:=hf.ext E02
 have g3:=xg k2 (by rw [E02.lim];omega) (nN hfz) hfz (n+7) fu hfu
 have hz:[j5.int .i64 f.room,.int .i64 f.no,.int .i64 f.known,.int .i64 4,.int .i64 0,.int .i64 0,.int .i64 0,.int .i64 0,.int .i64 0,.int .i64 0,.int .i64 0,.int .i64 0,.int .i64 0,.int .i64 0,.int .i64 0,.int .i64 0,.int .i64 0,.int .i64 0,.int .i64 0,.int .i64 0,.int .i64 0,.int .i64 0,.nilSlice,.nilSlice,.int .i64 0,.int .i64 0,.int .i64 0,.int .i64 0,.int .i64 0,.nilSlice,.int .i64 0,.int .i64 0]=(M0 f).cells:=by simp [M0,Fct.cells,hk,-Fct.Q0]
 have hz1:=jG f
 cases h0:(decide (1≤f.room)&&decide (f.room≤6)) with
 | true=>
  cases h1:(decide (1≤f.no)&&decide (f.no≤60)) with
  | true=>
   cases h2:(decide (0≤f.known)&&decide (f.known≤1099511627776)) with
   | true=>
    cases hF:oO f with
    | false=>
     rw [hF] at g1
     exact⟨m1,by simp [f36,C8,trD,G9,o9,l6,j3,x9,z8,O6 hm hl,C9,j6,o7,o8,J5,c68,hlook,I6,isVoid,avw,hk,O9,aF,aK,h0,h1,h2,hF,g1,q1],E01⟩
    | true=>
     rw [hF] at g1
     exact⟨_,by simp [f36,C8,trD,G9,o9,l6,j3,x9,z8,O6 hm hl,O6 k1 l1,C9,j6,o7,o8,J5,c68,hlook,I6,isVoid,avw,hk,O9,aF,aK,h0,h1,h2,hF,g1,q1,q2,hz,hz1,q1',q2',g2,q3,p2,g3,qp],E02.trans (D8 k2 ([A9 (M6 f).cells,A9 f.cells,A9 (M6 f).cells,(M6 f).nm,A9 f.cells,f.nm]++(bif bQ (M6 f) f then [A9 (M6 f).cmp,A9 f.cmp] else [])))⟩
   | false=>exact⟨ext m [A9 f.cells,A9 [.func (.func 137) [] [],.func (.func 138) [] []],.map fieldMap],by simp [f36,C8,trD,G9,o9,l6,j3,x9,z8,O6 hm hl,C9,j6,o7,o8,J5,c68,hlook,I6,isVoid,avw,hk,O9,aF,aK,h0,h1,h2],E0⟩
  | false=>exact⟨ext m [A9 f.cells,A9 [.func (.func 137) [] [],.func (.func 138) [] []],.map fieldMap],by simp [f36,C8,trD,G9,o9,l6,j3,x9,z8,O6 hm hl,C9,j6,o7,o8,J5,c68,hlook,I6,isVoid,avw,hk,O9,aF,aK,h0,h1],E0⟩
 | false=>exact⟨ext m [A9 f.cells,A9 [.func (.func 137) [] [],.func (.func 138) [] []],.map fieldMap],by simp [f36,C8,trD,G9,o9,l6,j3,x9,z8,O6 hm hl,C9,j6,o7,o8,J5,c68,hlook,I6,isVoid,avw,hk,O9,aF,aK,h0],E0⟩
theorem akD {m:Mem}{f:Fct}{a b l:List Int}(hm:m.Ok)(hl:m.lim≤m.next)(hf:aT m f a b l)(n fu:Nat)(hfu:1000≤fu)(ha:aR f.gn)(hb:aR f.gd)(hk:f.kind=5):∃m',D6 KW fu (n+11) (.func 36) [.agg f.cells] m=some [⟨.bool (aK f&&(bR f a b&&qp f a b l)),m'⟩]∧Ext m m':=by
 rw [enter (sf:=f36) rfl rfl]
 have c68:=uR (n+9) fu (ext m [A9 f.cells,.void]) (J4 hm _) (by simp;omega)
 have hlook:∀(mp k:OF) ls env,mp ls env=.map (m.next+2)→k ls env=.int .i64 5→iU cO 1 (.agg [.nilFunc,.nilFunc]) true mp k ls env (ext m [A9 f.cells,.void,.map fieldMap])=some (.tuple [.agg [.func (.func 139) [] [],.func (.func 141) [] []],.bool true]):=by
  intro mp k ls env e1 e2
  rw [Z9 _ _ _ _ _ _ _ _ _ _ fieldMap e1 (by rw [l8 hm];rfl),e2]
  simp [fieldMap,K5,J8,K4,M9]
  rfl
 have hf3:=hf.ext (D8 hm [A9 f.cells,A9 [.func (.func 139) [] [],.func (.func 141) [] []],.map fieldMap])
 have E0:=D8 hm [A9 f.cells,A9 [.func (.func 139) [] [],.func (.func 141) [] []],.map fieldMap]
 obtain⟨m1,g1,E1⟩:∃m1,D6 KW fu (n+10) (.func 139) [.agg f.cells] (ext m [A9 f.cells,A9 [.func (.func 139) [] [],.func (.func 141) [] []],.map fieldMap])=some [⟨.bool (bR f a b),m1⟩]∧Ext (ext m [A9 f.cells,A9 [.func (.func 139) [] [],.func (.func 141) [] []],.map fieldMap]) m1:=TQ (J4 hm _) (by simp;omega) hf3 n fu hfu
 have k1:m1.Ok:=E1.ok
 have E01:=E0.trans E1
 have n1:m.next+3≤m1.next:=by have:=E1.next;simpa using this
 have l1:m1.lim≤m1.next:=by rw [E01.lim];omega
 have q1:m1.get m.next=some (A9 f.cells):=by rw [E1.old _ (by simp),l5 hm];rfl
 have q2:m1.get (m.next+1)=some (A9 [.func (.func 139) [] [],.func (.func 141) [] []]):=by rw [E1.old _ (by simp),l8 hm];rfl
 have q1':(ext m1 [A9 (M0 f).cells]).get m.next=some (A9 f.cells):=by rw [G6 k1 _ (by omega)];exact q1
 have q2':(ext m1 [A9 (M0 f).cells]).get (m.next+1)=some (A9 [.func (.func 139) [] [],.func (.func 141) [] []]):=by rw [G6 k1 _ (by omega)];exact q2
 obtain⟨m2,g2,k2,lm2,n2,o2,p2⟩:=Ua (g:=M0 f) (p:=m1.next) (J4 k1 [A9 (M0 f).cells]) (by simp;omega) (by simp) ((hf.ext E01).ext (D8 k1 _)) (by rw [l5 k1];rfl) (n+9) fu
 have n2':m1.next+1≤m2.next:=by simpa using n2
 have E02:Ext m m2:=⟨k2,by omega,by rw [lm2,iR];exact E01.lim,fun i hi=>by rw [o2 i (by simp;omega) (by omega),G6 k1 _ (by omega)];exact E01.old i hi⟩
 have q3:m2.get m.next=some (A9 f.cells):=by rw [o2 _ (by simp;omega) (by omega)];exact q1'
 have hbF:({M0 f with cid:=f.cid,cday:=f.cday,A:=f.A,B:=f.B,diff:=f.diff,err:=f.err,hlo:=f.hlo,hhi:=f.hhi}:Fct)=M6 f:=by simp [M6,hk]
 rw [hbF] at p2
 have hfz:=hf.ext E02
 have g3:=xg k2 (by rw [E02.lim];omega) (nN hfz) hfz (n+7) fu hfu
 have hz:[j5.int .i64 f.room,.int .i64 f.no,.int .i64 f.known,.int .i64 5,.int .i64 0,.int .i64 0,.int .i64 0,.int .i64 0,.int .i64 0,.int .i64 0,.int .i64 0,.int .i64 0,.int .i64 0,.int .i64 0,.int .i64 0,.int .i64 0,.int .i64 0,.int .i64 0,.int .i64 0,.int .i64 0,.int .i64 0,.int .i64 0,.nilSlice,.nilSlice,.int .i64 0,.int .i64 0,.int .i64 0,.int .i64 0,.int .i64 0,.nilSlice,.int .i64 0,.int .i64 0]=(M0 f).cells:=by simp [M0,Fct.cells,hk,-Fct.Q0]
 have hz1:=jG f
 cases h0:(decide (1≤f.room)&&decide (f.room≤6)) with
 | true=>
  cases h1:(decide (1≤f.no)&&decide (f.no≤60)) with
  | true=>
   cases h2:(decide (0≤f.known)&&decide (f.known≤1099511627776)) with
   | true=>
    cases hF:bR f a b with
    | false=>
     rw [hF] at g1
     exact⟨m1,by simp [f36,C8,trD,G9,o9,l6,j3,x9,z8,O6 hm hl,C9,j6,o7,o8,J5,c68,hlook,I6,isVoid,avw,hk,O9,aF,aK,h0,h1,h2,hF,g1,q1],E01⟩
    | true=>
     rw [hF] at g1
     exact⟨_,by simp [f36,C8,trD,G9,o9,l6,j3,x9,z8,O6 hm hl,O6 k1 l1,C9,j6,o7,o8,J5,c68,hlook,I6,isVoid,avw,hk,O9,aF,aK,h0,h1,h2,hF,g1,q1,q2,hz,hz1,q1',q2',g2,q3,p2,g3,qp],E02.trans (D8 k2 ([A9 (M6 f).cells,A9 f.cells,A9 (M6 f).cells,(M6 f).nm,A9 f.cells,f.nm]++(bif bQ (M6 f) f then [A9 (M6 f).cmp,A9 f.cmp] else [])))⟩
   | false=>exact⟨ext m [A9 f.cells,A9 [.func (.func 139) [] [],.func (.func 141) [] []],.map fieldMap],by simp [f36,C8,trD,G9,o9,l6,j3,x9,z8,O6 hm hl,C9,j6,o7,o8,J5,c68,hlook,I6,isVoid,avw,hk,O9,aF,aK,h0,h1,h2],E0⟩
  | false=>exact⟨ext m [A9 f.cells,A9 [.func (.func 139) [] [],.func (.func 141) [] []],.map fieldMap],by simp [f36,C8,trD,G9,o9,l6,j3,x9,z8,O6 hm hl,C9,j6,o7,o8,J5,c68,hlook,I6,isVoid,avw,hk,O9,aF,aK,h0,h1],E0⟩
 | false=>exact⟨ext m [A9 f.cells,A9 [.func (.func 139) [] [],.func (.func 141) [] []],.map fieldMap],by simp [f36,C8,trD,G9,o9,l6,j3,x9,z8,O6 hm hl,C9,j6,o7,o8,J5,c68,hlook,I6,isVoid,avw,hk,O9,aF,aK,h0],E0⟩
theorem akE {m:Mem}{f:Fct}{a b l:List Int}(hm:m.Ok)(hl:m.lim≤m.next)(hf:aT m f a b l)(n fu:Nat)(hfu:1000≤fu)(ha:aR f.gn)(hb:aR f.gd)(hk:f.kind=6):∃m',D6 KW fu (n+11) (.func 36) [.agg f.cells] m=some [⟨.bool (aK f&&(Jt f l&&qp f a b l)),m'⟩]∧Ext m m':=by
 rw [enter (sf:=f36) rfl rfl]
 have c68:=uR (n+9) fu (ext m [A9 f.cells,.void]) (J4 hm _) (by simp;omega)
 have hlook:∀(mp k:OF) ls env,mp ls env=.map (m.next+2)→k ls env=.int .i64 6→iU cO 1 (.agg [.nilFunc,.nilFunc]) true mp k ls env (ext m [A9 f.cells,.void,.map fieldMap])=some (.tuple [.agg [.func (.func 142) [] [],.func (.func 144) [] []],.bool true]):=by
  intro mp k ls env e1 e2
  rw [Z9 _ _ _ _ _ _ _ _ _ _ fieldMap e1 (by rw [l8 hm];rfl),e2]
  simp [fieldMap,K5,J8,K4,M9]
  rfl
 have hf3:=hf.ext (D8 hm [A9 f.cells,A9 [.func (.func 142) [] [],.func (.func 144) [] []],.map fieldMap])
 have E0:=D8 hm [A9 f.cells,A9 [.func (.func 142) [] [],.func (.func 144) [] []],.map fieldMap]
 obtain⟨m1,g1,E1⟩:∃m1,D6 KW fu (n+10) (.func 142) [.agg f.cells] (ext m [A9 f.cells,A9 [.func (.func 142) [] [],.func (.func 144) [] []],.map fieldMap])=some [⟨.bool (Jt f l),m1⟩]∧Ext (ext m [A9 f.cells,A9 [.func (.func 142) [] [],.func (.func 144) [] []],.map fieldMap]) m1:=TR (J4 hm _) (by simp;omega) hf3 (n+6) fu hfu
 have k1:m1.Ok:=E1.ok
 have E01:=E0.trans E1
 have n1:m.next+3≤m1.next:=by have:=E1.next;simpa using this
 have l1:m1.lim≤m1.next:=by rw [E01.lim];omega
 have q1:m1.get m.next=some (A9 f.cells):=by rw [E1.old _ (by simp),l5 hm];rfl
 have q2:m1.get (m.next+1)=some (A9 [.func (.func 142) [] [],.func (.func 144) [] []]):=by rw [E1.old _ (by simp),l8 hm];rfl
 have q1':(ext m1 [A9 (M0 f).cells]).get m.next=some (A9 f.cells):=by rw [G6 k1 _ (by omega)];exact q1
 have q2':(ext m1 [A9 (M0 f).cells]).get (m.next+1)=some (A9 [.func (.func 142) [] [],.func (.func 144) [] []]):=by rw [G6 k1 _ (by omega)];exact q2
 obtain⟨m2,g2,k2,lm2,n2,o2,p2⟩:=Ub (g:=M0 f) (p:=m1.next) (J4 k1 [A9 (M0 f).cells]) (by simp;omega) (by simp) ((hf.ext E01).ext (D8 k1 _)) (by rw [l5 k1];rfl) (n+9) fu
 have n2':m1.next+1≤m2.next:=by simpa using n2
 have E02:Ext m m2:=⟨k2,by omega,by rw [lm2,iR];exact E01.lim,fun i hi=>by rw [o2 i (by simp;omega) (by omega),G6 k1 _ (by omega)];exact E01.old i hi⟩
 have q3:m2.get m.next=some (A9 f.cells):=by rw [o2 _ (by simp;omega) (by omega)];exact q1'
 have hbF:({M0 f with mday:=f.mday,L:=f.L}:Fct)=M6 f:=by simp [M6,hk]
 rw [hbF] at p2
 have hfz:=hf.ext E02
 have g3:=xg k2 (by rw [E02.lim];omega) (nN hfz) hfz (n+7) fu hfu
 have hz:[j5.int .i64 f.room,.int .i64 f.no,.int .i64 f.known,.int .i64 6,.int .i64 0,.int .i64 0,.int .i64 0,.int .i64 0,.int .i64 0,.int .i64 0,.int .i64 0,.int .i64 0,.int .i64 0,.int .i64 0,.int .i64 0,.int .i64 0,.int .i64 0,.int .i64 0,.int .i64 0,.int .i64 0,.int .i64 0,.int .i64 0,.nilSlice,.nilSlice,.int .i64 0,.int .i64 0,.int .i64 0,.int .i64 0,.int .i64 0,.nilSlice,.int .i64 0,.int .i64 0]=(M0 f).cells:=by simp [M0,Fct.cells,hk,-Fct.Q0]
 have hz1:=jG f
 cases h0:(decide (1≤f.room)&&decide (f.room≤6)) with
 | true=>
  cases h1:(decide (1≤f.no)&&decide (f.no≤60)) with
  | true=>
   cases h2:(decide (0≤f.known)&&decide (f.known≤1099511627776)) with
   | true=>
    cases hF:Jt f l with
    | false=>
     rw [hF] at g1
     exact⟨m1,by simp [f36,C8,trD,G9,o9,l6,j3,x9,z8,O6 hm hl,C9,j6,o7,o8,J5,c68,hlook,I6,isVoid,avw,hk,O9,aF,aK,h0,h1,h2,hF,g1,q1],E01⟩
    | true=>
     rw [hF] at g1
     exact⟨_,by simp [f36,C8,trD,G9,o9,l6,j3,x9,z8,O6 hm hl,O6 k1 l1,C9,j6,o7,o8,J5,c68,hlook,I6,isVoid,avw,hk,O9,aF,aK,h0,h1,h2,hF,g1,q1,q2,hz,hz1,q1',q2',g2,q3,p2,g3,qp],E02.trans (D8 k2 ([A9 (M6 f).cells,A9 f.cells,A9 (M6 f).cells,(M6 f).nm,A9 f.cells,f.nm]++(bif bQ (M6 f) f then [A9 (M6 f).cmp,A9 f.cmp] else [])))⟩
   | false=>exact⟨ext m [A9 f.cells,A9 [.func (.func 142) [] [],.func (.func 144) [] []],.map fieldMap],by simp [f36,C8,trD,G9,o9,l6,j3,x9,z8,O6 hm hl,C9,j6,o7,o8,J5,c68,hlook,I6,isVoid,avw,hk,O9,aF,aK,h0,h1,h2],E0⟩
  | false=>exact⟨ext m [A9 f.cells,A9 [.func (.func 142) [] [],.func (.func 144) [] []],.map fieldMap],by simp [f36,C8,trD,G9,o9,l6,j3,x9,z8,O6 hm hl,C9,j6,o7,o8,J5,c68,hlook,I6,isVoid,avw,hk,O9,aF,aK,h0,h1],E0⟩
 | false=>exact⟨ext m [A9 f.cells,A9 [.func (.func 142) [] [],.func (.func 144) [] []],.map fieldMap],by simp [f36,C8,trD,G9,o9,l6,j3,x9,z8,O6 hm hl,C9,j6,o7,o8,J5,c68,hlook,I6,isVoid,avw,hk,O9,aF,aK,h0],E0⟩
theorem akF {m:Mem}{f:Fct}{a b l:List Int}(hm:m.Ok)(hl:m.lim≤m.next)(hf:aT m f a b l)(n fu:Nat)(hfu:1000≤fu)(ha:aR f.gn)(hb:aR f.gd)(hk:f.kind=7):∃m',D6 KW fu (n+11) (.func 36) [.agg f.cells] m=some [⟨.bool (aK f&&(wdB f&&qp f a b l)),m'⟩]∧Ext m m':=by
 rw [enter (sf:=f36) rfl rfl]
 have c68:=uR (n+9) fu (ext m [A9 f.cells,.void]) (J4 hm _) (by simp;omega)
 have hlook:∀(mp k:OF) ls env,mp ls env=.map (m.next+2)→k ls env=.int .i64 7→iU cO 1 (.agg [.nilFunc,.nilFunc]) true mp k ls env (ext m [A9 f.cells,.void,.map fieldMap])=some (.tuple [.agg [.func (.func 145) [] [],.func (.func 146) [] []],.bool true]):=by
  intro mp k ls env e1 e2
  rw [Z9 _ _ _ _ _ _ _ _ _ _ fieldMap e1 (by rw [l8 hm];rfl),e2]
  simp [fieldMap,K5,J8,K4,M9]
  rfl
 have hf3:=hf.ext (D8 hm [A9 f.cells,A9 [.func (.func 145) [] [],.func (.func 146) [] []],.map fieldMap])
 have E0:=D8 hm [A9 f.cells,A9 [.func (.func 145) [] [],.func (.func 146) [] []],.map fieldMap]
 obtain⟨m1,g1,E1⟩:∃m1,D6 KW fu (n+10) (.func 145) [.agg f.cells] (ext m [A9 f.cells,A9 [.func (.func 145) [] [],.func (.func 146) [] []],.map fieldMap])=some [⟨.bool (wdB f),m1⟩]∧Ext (ext m [A9 f.cells,A9 [.func (.func 145) [] [],.func (.func 146) [] []],.map fieldMap]) m1:=TS (J4 hm _) (by simp;omega) hf3 (n+8) fu
 have k1:m1.Ok:=E1.ok
 have E01:=E0.trans E1
 have n1:m.next+3≤m1.next:=by have:=E1.next;simpa using this
 have l1:m1.lim≤m1.next:=by rw [E01.lim];omega
 have q1:m1.get m.next=some (A9 f.cells):=by rw [E1.old _ (by simp),l5 hm];rfl
 have q2:m1.get (m.next+1)=some (A9 [.func (.func 145) [] [],.func (.func 146) [] []]):=by rw [E1.old _ (by simp),l8 hm];rfl
 have q1':(ext m1 [A9 (M0 f).cells]).get m.next=some (A9 f.cells):=by rw [G6 k1 _ (by omega)];exact q1
 have q2':(ext m1 [A9 (M0 f).cells]).get (m.next+1)=some (A9 [.func (.func 145) [] [],.func (.func 146) [] []]):=by rw [G6 k1 _ (by omega)];exact q2
 obtain⟨m2,g2,k2,lm2,n2,o2,p2⟩:=Uc (g:=M0 f) (p:=m1.next) (J4 k1 [A9 (M0 f).cells]) (by simp;omega) (by simp) ((hf.ext E01).ext (D8 k1 _)) (by rw [l5 k1];rfl) (n+9) fu
 have n2':m1.next+1≤m2.next:=by simpa using n2
 have E02:Ext m m2:=⟨k2,by omega,by rw [lm2,iR];exact E01.lim,fun i hi=>by rw [o2 i (by simp;omega) (by omega),G6 k1 _ (by omega)];exact E01.old i hi⟩
 have q3:m2.get m.next=some (A9 f.cells):=by rw [o2 _ (by simp;omega) (by omega)];exact q1'
 have hbF:({M0 f with tr:=f.tr,tn:=f.tn}:Fct)=M6 f:=by simp [M6,hk]
 rw [hbF] at p2
 have hfz:=hf.ext E02
 have g3:=xg k2 (by rw [E02.lim];omega) (nN hfz) hfz (n+7) fu hfu
 have hz:[j5.int .i64 f.room,.int .i64 f.no,.int .i64 f.known,.int .i64 7,.int .i64 0,.int .i64 0,.int .i64 0,.int .i64 0,.int .i64 0,.int .i64 0,.int .i64 0,.int .i64 0,.int .i64 0,.int .i64 0,.int .i64 0,.int .i64 0,.int .i64 0,.int .i64 0,.int .i64 0,.int .i64 0,.int .i64 0,.int .i64 0,.nilSlice,.nilSlice,.int .i64 0,.int .i64 0,.int .i64 0,.int .i64 0,.int .i64 0,.nilSlice,.int .i64 0,.int .i64 0]=(M0 f).cells:=by simp [M0,Fct.cells,hk,-Fct.Q0]
 have hz1:=jG f
 cases h0:(decide (1≤f.room)&&decide (f.room≤6)) with
 | true=>
  cases h1:(decide (1≤f.no)&&decide (f.no≤60)) with
  | true=>
   cases h2:(decide (0≤f.known)&&decide (f.known≤1099511627776)) with
   | true=>
    cases hF:wdB f with
    | false=>
     rw [hF] at g1
     exact⟨m1,by simp [f36,C8,trD,G9,o9,l6,j3,x9,z8,O6 hm hl,C9,j6,o7,o8,J5,c68,hlook,I6,isVoid,avw,hk,O9,aF,aK,h0,h1,h2,hF,g1,q1],E01⟩
    | true=>
     rw [hF] at g1
     exact⟨_,by simp [f36,C8,trD,G9,o9,l6,j3,x9,z8,O6 hm hl,O6 k1 l1,C9,j6,o7,o8,J5,c68,hlook,I6,isVoid,avw,hk,O9,aF,aK,h0,h1,h2,hF,g1,q1,q2,hz,hz1,q1',q2',g2,q3,p2,g3,qp],E02.trans (D8 k2 ([A9 (M6 f).cells,A9 f.cells,A9 (M6 f).cells,(M6 f).nm,A9 f.cells,f.nm]++(bif bQ (M6 f) f then [A9 (M6 f).cmp,A9 f.cmp] else [])))⟩
   | false=>exact⟨ext m [A9 f.cells,A9 [.func (.func 145) [] [],.func (.func 146) [] []],.map fieldMap],by simp [f36,C8,trD,G9,o9,l6,j3,x9,z8,O6 hm hl,C9,j6,o7,o8,J5,c68,hlook,I6,isVoid,avw,hk,O9,aF,aK,h0,h1,h2],E0⟩
  | false=>exact⟨ext m [A9 f.cells,A9 [.func (.func 145) [] [],.func (.func 146) [] []],.map fieldMap],by simp [f36,C8,trD,G9,o9,l6,j3,x9,z8,O6 hm hl,C9,j6,o7,o8,J5,c68,hlook,I6,isVoid,avw,hk,O9,aF,aK,h0,h1],E0⟩
 | false=>exact⟨ext m [A9 f.cells,A9 [.func (.func 145) [] [],.func (.func 146) [] []],.map fieldMap],by simp [f36,C8,trD,G9,o9,l6,j3,x9,z8,O6 hm hl,C9,j6,o7,o8,J5,c68,hlook,I6,isVoid,avw,hk,O9,aF,aK,h0],E0⟩
theorem P8 {α:Type} [DecidableEq α](x y:α):decide (x=y)=decide (y=x):=by
 rw [avV];simp [eq_comm]
theorem Jb (f g:Fct):bQ f g=bQ g f:=by
 simp only [bQ,P8 f.room g.room,P8 f.no g.no,P8 f.known g.known,P8 f.kind g.kind,P8 f.flo g.flo,P8 f.fhi g.fhi,P8 f.gid g.gid,P8 f.made g.made,P8 f.nom g.nom,P8 f.tlo g.tlo,P8 f.thi g.thi,P8 f.gn g.gn,P8 f.gd g.gd,P8 f.wear g.wear,P8 f.ug g.ug,P8 f.ud g.ud,P8 f.lg g.lg,P8 f.ll g.ll,P8 f.lh g.lh,P8 f.lw g.lw,P8 f.tr g.tr,P8 f.tn g.tn]
theorem Jc (f g:Fct)(a b l a' b' l':List Int):bD f g a b l a' b' l'=bD g f a' b' l' a b l:=by
 simp only [bD,Jb f g,tL,P8 f.cid g.cid,P8 f.cday g.cday,P8 f.diff g.diff,P8 f.err g.err,P8 f.hlo g.hlo,P8 f.hhi g.hhi,P8 f.mday g.mday,P8 a a',P8 b b',P8 l l']
theorem OV (f:Fct)(a b l:List Int):qp f a b l=LW f a b l:=Jc ..
theorem LX {m:Mem}{f:Fct}{a b l:List Int}(hm:m.Ok)(hl:m.lim≤m.next)(hf:aT m f a b l)(n fu:Nat)(hfu:1000≤fu)(ha:aR f.gn)(hb:aR f.gd):∃m',D6 KW fu (n+11) (.func 36) [.agg f.cells] m=some [⟨.bool (dB f a b l),m'⟩]∧Ext m m':=by
 unfold dB mI
 rw [← OV]
 by_cases h1:f.kind=1
 ·rw [if_pos h1];exact akz hm hl hf n fu hfu ha hb h1
 by_cases h2:f.kind=2
 ·rw [if_neg h1];rw [if_pos h2];exact akA hm hl hf n fu hfu ha hb h2
 by_cases h3:f.kind=3
 ·rw [if_neg h1];rw [if_neg h2];rw [if_pos h3];exact akB hm hl hf n fu hfu ha hb h3
 by_cases h4:f.kind=4
 ·rw [if_neg h1];rw [if_neg h2];rw [if_neg h3];rw [if_pos h4];exact akC hm hl hf n fu hfu ha hb h4
 by_cases h5:f.kind=5
 ·rw [if_neg h1];rw [if_neg h2];rw [if_neg h3];rw [if_neg h4];rw [if_pos h5];exact akD hm hl hf n fu hfu ha hb h5
 by_cases h6:f.kind=6
 ·rw [if_neg h1];rw [if_neg h2];rw [if_neg h3];rw [if_neg h4];rw [if_neg h5];rw [if_pos h6];exact akE hm hl hf n fu hfu ha hb h6
 by_cases h7:f.kind=7
 ·rw [if_neg h1];rw [if_neg h2];rw [if_neg h3];rw [if_neg h4];rw [if_neg h5];rw [if_neg h6];rw [if_pos h7];exact akF hm hl hf n fu hfu ha hb h7
 rw [if_neg h1];rw [if_neg h2];rw [if_neg h3];rw [if_neg h4];rw [if_neg h5];rw [if_neg h6];rw [if_neg h7];rw [Bool.false_and,Bool.and_false]
 exact aky hm hl hf n fu hfu ha hb h1 h2 h3 h4 h5 h6 h7
structure FR where
 f:Fct
 a:List Int
 b:List Int
 l:List Int
structure eu (m:Mem)(r:FR):Prop where
 a:bW m r.f.A r.a
 b:bW m r.f.B r.b
 l:bW m r.f.L r.l
 ga:aR r.f.gn
 gb:aR r.f.gd
 nb:aR r.f.no
theorem eu.ext {m m':Mem}(h:Ext m m'){r:FR}(k:eu m r):eu m' r:=⟨k.a.ext h,k.b.ext h,k.l.ext h,k.ga,k.gb,k.nb⟩
def FR.small (r:FR):Bool:=decide (r.a.length≤9)&&(decide (r.b.length≤9)&&decide (r.l.length≤9))
theorem eu.at {m:Mem}{r:FR}(k:eu m r)(h:r.small=true):aT m r.f r.a r.b r.l:=by
 simp only [FR.small,avv,decide_eq_true_eq] at h
 exact⟨k.a,k.b,k.l,by omega,by omega,by omega⟩
theorem aaR {m:Mem}{r:FR}(hm:m.Ok)(hf:eu m r)(n fu:Nat):
  D6 KW fu (n+1) (.func 7) [.agg r.f.cells] m=some [⟨.bool r.small,ext m [A9 r.f.cells]⟩]:=by
 rw [enter (sf:=f7) rfl rfl]
 have l1:=hf.a.len
 have l2:=hf.b.len
 have l3:=hf.l.len
 have e1:decide (((r.a.length:Nat):Int)≤9)=decide (r.a.length≤9):=by rw [avV];simp;omega
 have e2:decide (((r.b.length:Nat):Int)≤9)=decide (r.b.length≤9):=by rw [avV];simp;omega
 have e3:decide (((r.l.length:Nat):Int)≤9)=decide (r.l.length≤9):=by rw [avV];simp;omega
 cases h0:decide (r.a.length≤9) with
 | true=>
  cases h1:decide (r.b.length≤9) with
  | true=>
   cases h2:decide (r.l.length≤9) with
   | true=>
    simp [f7,C8,trD,G9,o9,l6,j3,x9,z8,l5 hm,l8 hm,A8 hm,w9 hm,C9,j6,o7,o8,J5,l1,l2,l3,e1,e2,e3,FR.small,h0,h1,h2]
   | false=>simp [f7,C8,trD,G9,o9,l6,j3,x9,z8,l5 hm,l8 hm,A8 hm,w9 hm,C9,j6,o7,o8,J5,l1,l2,l3,e1,e2,e3,FR.small,h0,h1,h2]
  | false=>simp [f7,C8,trD,G9,o9,l6,j3,x9,z8,l5 hm,l8 hm,A8 hm,w9 hm,C9,j6,o7,o8,J5,l1,l2,l3,e1,e2,e3,FR.small,h0,h1]
 | false=>simp [f7,C8,trD,G9,o9,l6,j3,x9,z8,l5 hm,l8 hm,A8 hm,w9 hm,C9,j6,o7,o8,J5,l1,l2,l3,e1,e2,e3,FR.small,h0]
def LY (m:Mem)(v:j5)(fs:List FR):Prop:=
 (v=.nilSlice∧fs=[])∨∃id,((∃c,v=.slice id 0 fs.length c)∨v=.sliceU id 0 fs.length 32)∧id<m.next∧(fs=[]∨∃c rows,m.get id=some (.cells 32 c rows)∧fs.length≤c∧∀i (h:i<fs.length),rows.get i=some fs[i].f.cells)
theorem LY.ext {m m':Mem}(h:Ext m m'){v:j5}{fs:List FR}(hv:LY m v fs):LY m' v fs:=by
 rcases hv with hv | ⟨id,h1,h2,h3⟩
 ·exact .inl hv
 ·refine .inr ⟨id,h1,avu h2 h.next,?_⟩
  rcases h3 with h3 | ⟨c,rows,h4,h5,h6⟩
  ·exact .inl h3
  ·exact .inr ⟨c,rows,(h.old id h2).trans h4,h5,h6⟩
theorem LY.len {m:Mem}{v:j5}{fs:List FR}(h:LY m v fs):vSl v (some (j5.int .i64 0)) (fun _ _ n _=>some (.int .i64 n)) (fun _ _ n _=>some (.int .i64 n))=some (.int .i64 fs.length):=by
 rcases h with⟨rfl,rfl⟩ | ⟨id,⟨c,rfl⟩ | rfl,_⟩<;>rfl
theorem LY.cells {m:Mem}{v:j5}{fs:List FR}(h:LY m v fs):v.cells=[v]:=by
 rcases h with⟨rfl,rfl⟩ | ⟨id,⟨c,rfl⟩ | rfl,_⟩<;>rfl
theorem LY.pan {m:Mem}{v:j5}{fs:List FR}(h:LY m v fs){β:Type}(p:j5→β)(q:β):kK v p q=q:=by
 rcases h with⟨rfl,rfl⟩ | ⟨id,⟨c,rfl⟩ | rfl,_⟩<;>rfl
theorem LY.at {m:Mem}{v:j5}{fs:List FR}(h:LY m v fs){i:Nat}(hi:i<fs.length):
  ∃id,vSl v none (fun id off len _=>idx len (.int .i64 i) fun k=>some (j5.ptr id (off+k*32))) (fun id off len _=>idx len (.int .i64 i) fun k=>some (j5.ptr id (off+k*32)))=some (.ptr id (i*32))∧id<m.next∧
   ldN (m.get id) (i*32) 32=some (.agg fs[i].f.cells)∧ld1 (m.get id) (i*32)=some (.int .i64 fs[i].f.room)∧ld1 (m.get id) (i*32+1)=some (.int .i64 fs[i].f.no)∧ld1 (m.get id) (i*32+3)=some (.int .i64 fs[i].f.kind):=by
 rcases h with⟨_,rfl⟩ | ⟨id,hv,h2,h3⟩
 ·simp at hi
 ·rcases h3 with rfl | ⟨c,rows,h4,h5,h6⟩
  ·simp at hi
  ·have hr:=h6 i hi
   have hc:i<c:=by omega
   refine⟨id,?_,h2,?_,?_,?_,?_⟩
   ·rcases hv with⟨c',rfl⟩ | rfl
    ·simp only [wS]
     rw [tF _ _ _ hi];simp
    ·simp only [tu]
     rw [tF _ _ _ hi];simp
   ·rw [h4]
    have hk:=tH (rs:=32) (j:=0) (k:=32) (by omega) hc hr (Fct.len _) (by omega)
    rw [awl] at hk
    unfold ldN
    rw [dL,hk,O0,awh,avQ (by rw [Fct.len];omega)]
   ·have hk:=iM (rs:=32) (j:=0) (by omega) hc hr
    rw [awl] at hk
    rw [h4,ld1,dL,hk]
    exact Fct.c0 _
   ·have hk:=iM (rs:=32) (j:=1) (by omega) hc hr
    skip
    rw [h4,ld1,dL,hk]
    exact Fct.c1 _
   ·have hk:=iM (rs:=32) (j:=3) (by omega) hc hr
    skip
    rw [h4,ld1,dL,hk]
    exact Fct.c3 _
end
end Go.Proofs.YtfnlnpllpfhhnaaGreatDoor.TT
