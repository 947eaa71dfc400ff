/- Functions that the law RoomTextsBack calls, walked: what each answers; conditions: the memory holds what the arguments say. -/
import Derived.Test.YtfnlnpllpfhhnaaGreatDoorXB4
import Derived.Lib.ItoaMem
import Derived.Lib.AtoiAll
import Derived.Lib.SpaceU
set_option linter.unusedSimpArgs false
set_option linter.unusedVariables false
namespace Go.Proofs.YtfnlnpllpfhhnaaGreatDoor.TT
open Go Go.AM
set_option linter.unusedSimpArgs false
def KO (f:Nat):Bool:=Nat.beq f 8||(Nat.beq f 83||(Nat.beq f 93||Nat.beq f 147))
noncomputable def aqo (f:FuncId):Option SFn:=(fns f).map fun sf=>{sf with pure:=KO f}
noncomputable def zm (s:List UInt8):Ans:=match Lib.atoiAll s with
 | .ok v=>⟨.tuple [.int .i64 v,.nilIface],[]⟩
 | .range=>⟨.tuple [.int .i64 (Lib.atoiSat s),.iface 330 (.ptr base.next 0)],[.dead]⟩
 | _=>⟨.tuple [.int .i64 0,.iface 330 (.ptr base.next 0)],[.dead]⟩
noncomputable def CW (s:List UInt8):Ans:=⟨.slice base.next 0 (Lib.fieldsD s).length (Lib.fieldsD s).length,[.cells 1 ((Lib.fieldsD s).map fun w=>[j6.str w])]⟩
noncomputable def ahk (f:FuncId)(args:List j6)(bs:List NB):Option Ans:=match bs with
 | []=>match args with
  | [.int .i64 n]=>if f=147∧-9223372036854775808≤n∧n≤9223372036854775807 then some ⟨.str (Lib.itoa n),[]⟩ else none
  | [.str s]=>if s.length<1000000 then (if f=93 then some (zm s) else if f=83 then some (CW s) else none) else none
  | _=>none
 | _=>none
noncomputable def KP (f:FuncId)(args:List j6)(bs:List NB):Option Ans:=if f=8 then sumOf [⟨8,[],[],.bool true,[]⟩] f args bs else ahk f args bs
noncomputable def KW:Known:=⟨aqo,base,KP⟩
theorem enter {n fu:Nat}{f:FuncId}{sf:SFn}{vs:List j6}{m:Mem}(h:fns f=some sf)(hf:KO f=false):
  G9 KW fu (n+1) (.func f) vs m=G5 (G9 KW fu n) (zQ KW (G9 KW fu n) fu) fu sf vs m:=by
 rw [eY]
 have h:KW.fns f=some {sf with pure:=false}:=by
  show (fns f).map _=_
  rw [h,hf];rfl
 simp only [h,P5,aY]
 rfl
theorem Iu {n fu:Nat}{f:FuncId}{sf:SFn}{vs:List j6}{m:Mem}(h:fns f=some sf)(hf:KO f=true):
  G9 KW fu (n+1) (.func f) vs m=ow KW (G9 KW fu n) fu f {sf with pure:=true} vs m:=by
 rw [eY]
 have h:KW.fns f=some {sf with pure:=true}:=by
  show (fns f).map _=_
  rw [h,hf];rfl
 simp only [h,P5]
 rfl
theorem OY (i:Int)(h0:-9223372036854775808≤i)(h1:i≤9223372036854775807)(n fu:Nat)(m:Mem):G9 KW fu (n+1) (.func 147) [.int .i64 i] m=some [⟨.str (Lib.itoa i),m⟩]:=by
 rw [Iu (sf:=f147) rfl rfl,CV (K:=KW) (c:=⟨[],[.int .i64 i],[]⟩) (a:=⟨.str (Lib.itoa i),[]⟩) (mP m rfl fun _=>rfl)
  (by show KP 147 [.int .i64 i] []=_;rw [KP,if_neg (by decide)];exact if_pos ⟨rfl,h0,h1⟩)]
 rfl
theorem Iw (s:List UInt8)(hs:s.length<1000000)(n fu:Nat){m:Mem}(hm:m.Ok):∃v m',G9 KW fu (n+1) (.func 83) [.str s] m=some [⟨v,m'⟩]∧Ext m m'∧BG m' v (strs (Lib.fieldsD s)):=by
 refine⟨.slice m.next 0 (Lib.fieldsD s).length (Lib.fieldsD s).length,m.new (cB (.cells 1 ((Lib.fieldsD s).map fun w=>[j6.str w]))),?_,(Ext.refl hm).new _,m.next,0,_,by rw [zk],by rw [zk];exact Nat.le_refl _,by simp,.inr ⟨len' ((Lib.fieldsD s).map fun w=>[j6.str w]),T.ofList ((Lib.fieldsD s).map fun w=>[j6.str w]),?_,?_,fun i hi=>?_⟩⟩
 ·rw [Iu (sf:=f83) rfl rfl,CV (K:=KW) (c:=⟨[],[.str s],[]⟩) (a:=CW s) (mP m rfl fun _=>rfl)
   (by show KP 83 [.str s] []=_;rw [KP,if_neg (by decide)];show (if s.length<1000000 then _ else _)=_;rw [if_pos hs,if_neg (by decide),if_pos rfl])]
  show ob (ob (dD base.next [] m.next base.next) fun j=>some (j6.slice j 0 (Lib.fieldsD s).length (Lib.fieldsD s).length)) (fun v=>ob (ob (ob (mV (dD base.next [] m.next) ((Lib.fieldsD s).map fun w=>[j6.str w])) fun x=>some (NB.cells 1 x)) fun x=>ob (some []) fun y=>some (x::y)) fun bs=>one v (layAll bs m))=_
  rw [wL,zl];rfl
 ·rw [Mem.U2 hm,if_pos rfl];rfl
 ·rw [Q5];simp [strs]
 ·have hi':i<(Lib.fieldsD s).length:=by rwa [zk] at hi
  rw [Nat.zero_add,T.Z0,List.getElem?_map,List.getElem?_eq_getElem hi']
  simp [strs]
theorem OZ (s:List UInt8)(hs:s.length<1000000)(n fu:Nat)(m:Mem)(hm:m.Ok):∃v e m',G9 KW fu (n+1) (.func 93) [.str s] m=some [⟨.tuple [.int .i64 v,e],m'⟩]∧Ext m m'∧
  ((Lib.atoiAll s=.ok v∧e=.nilIface)∨((∀x,Lib.atoiAll s≠.ok x)∧∃p,e=.iface 330 (.ptr p 0))):=by
 have key:G9 KW fu (n+1) (.func 93) [.str s] m=ob (jw (dD base.next [] m.next) (zm s).v) fun v=>ob (sw (dD base.next [] m.next) (zm s).bs) fun bs=>one v (layAll bs m):=by
  rw [Iu (sf:=f93) rfl rfl,CV (K:=KW) (c:=⟨[],[.str s],[]⟩) (a:=zm s) (mP m rfl fun _=>rfl)
   (by show KP 93 [.str s] []=_;rw [KP,if_neg (by decide)];show (if s.length<1000000 then _ else _)=_;rw [if_pos hs,if_pos rfl])]
  rfl
 have bad:∀k:Int,ob (jw (dD base.next [] m.next) (.tuple [.int .i64 k,.iface 330 (.ptr base.next 0)])) (fun v=>ob (sw (dD base.next [] m.next) [.dead]) fun bs=>one v (layAll bs m))=some [⟨.tuple [.int .i64 k,.iface 330 (.ptr m.next 0)],m.new .dead⟩]:=fun k=>by
  show ob (ob (ob (some (j6.int .i64 k)) fun x=>ob (ob (ob (ob (dD base.next [] m.next base.next) fun j=>some (j6.ptr j 0)) fun x=>some (j6.iface 330 x)) fun x=>ob (some []) fun y=>some (x::y)) fun y=>some (x::y)) fun x=>some (j6.tuple x)) (fun v=>ob (some [NB.dead]) fun bs=>one v (layAll bs m))=_
  rw [wL];rfl
 cases h:Lib.atoiAll s with
 | ok v=>
  refine⟨v,.nilIface,m,?_,Ext.refl hm,.inl ⟨rfl,rfl⟩⟩
  rw [key];simp only [zm,h];rfl
 | range=>
  refine⟨Lib.atoiSat s,.iface 330 (.ptr m.next 0),m.new .dead,?_,(Ext.refl hm).new _,.inr ⟨(fun x (hx:Lib.NumEnd.range=.ok x)=>by cases hx),m.next,rfl⟩⟩
  rw [key];simp only [zm,h];exact bad _
 | _=>
  refine⟨0,.iface 330 (.ptr m.next 0),m.new .dead,?_,(Ext.refl hm).new _,.inr ⟨(by intro x hx;cases hx),m.next,rfl⟩⟩
  rw [key];simp only [zm,h];exact bad 0
end Go.Proofs.YtfnlnpllpfhhnaaGreatDoor.TT
namespace Go.Proofs.YtfnlnpllpfhhnaaGreatDoor.TT
open Go Go.AM
set_option linter.unusedSimpArgs false
attribute [simp] I J S U Z A V tt ff zaa zab zan zaq zav zaI zcN zdN zeP zpd
structure Fct where
 room:Int
 no:Int
 known:Int
 kind:Int
 flo:Int
 fhi:Int
 gid:Int
 made:Int
 nom:Int
 tlo:Int
 thi:Int
 gn:Int
 gd:Int
 wear:Int
 ug:Int
 ud:Int
 lg:Int
 ll:Int
 lh:Int
 lw:Int
 cid:Int
 cday:Int
 A:j6
 B:j6
 diff:Int
 err:Int
 hlo:Int
 hhi:Int
 mday:Int
 L:j6
 tr:Int
 tn:Int
def Fct.cells (f:Fct):List j6:=[j6.int .i64 f.room,j6.int .i64 f.no,j6.int .i64 f.known,j6.int .i64 f.kind,j6.int .i64 f.flo,j6.int .i64 f.fhi,j6.int .i64 f.gid,j6.int .i64 f.made,j6.int .i64 f.nom,j6.int .i64 f.tlo,j6.int .i64 f.thi,j6.int .i64 f.gn,j6.int .i64 f.gd,j6.int .i64 f.wear,j6.int .i64 f.ug,j6.int .i64 f.ud,j6.int .i64 f.lg,j6.int .i64 f.ll,j6.int .i64 f.lh,j6.int .i64 f.lw,j6.int .i64 f.cid,j6.int .i64 f.cday,f.A,f.B,j6.int .i64 f.diff,j6.int .i64 f.err,j6.int .i64 f.hlo,j6.int .i64 f.hhi,j6.int .i64 f.mday,f.L,j6.int .i64 f.tr,j6.int .i64 f.tn]
@[simp] theorem Fct.len (f:Fct):f.cells.length=32:=id rfl
@[simp] theorem Fct.c0 (f:Fct):f.cells[0]?=some (j6.int .i64 f.room):=id rfl
@[simp] theorem Fct.c1 (f:Fct):f.cells[1]?=some (j6.int .i64 f.no):=id rfl
@[simp] theorem Fct.c2 (f:Fct):f.cells[2]?=some (j6.int .i64 f.known):=id rfl
@[simp] theorem Fct.c3 (f:Fct):f.cells[3]?=some (j6.int .i64 f.kind):=id rfl
@[simp] theorem Fct.c4 (f:Fct):f.cells[4]?=some (j6.int .i64 f.flo):=id rfl
@[simp] theorem Fct.c5 (f:Fct):f.cells[5]?=some (j6.int .i64 f.fhi):=id rfl
@[simp] theorem Fct.c6 (f:Fct):f.cells[6]?=some (j6.int .i64 f.gid):=id rfl
@[simp] theorem Fct.c7 (f:Fct):f.cells[7]?=some (j6.int .i64 f.made):=id rfl
@[simp] theorem Fct.c8 (f:Fct):f.cells[8]?=some (j6.int .i64 f.nom):=id rfl
@[simp] theorem Fct.c9 (f:Fct):f.cells[9]?=some (j6.int .i64 f.tlo):=id rfl
@[simp] theorem Fct.c10 (f:Fct):f.cells[10]?=some (j6.int .i64 f.thi):=id rfl
@[simp] theorem Fct.c11 (f:Fct):f.cells[11]?=some (j6.int .i64 f.gn):=id rfl
@[simp] theorem Fct.c12 (f:Fct):f.cells[12]?=some (j6.int .i64 f.gd):=id rfl
@[simp] theorem Fct.c13 (f:Fct):f.cells[13]?=some (j6.int .i64 f.wear):=id rfl
@[simp] theorem Fct.c14 (f:Fct):f.cells[14]?=some (j6.int .i64 f.ug):=id rfl
@[simp] theorem Fct.c15 (f:Fct):f.cells[15]?=some (j6.int .i64 f.ud):=id rfl
@[simp] theorem Fct.c16 (f:Fct):f.cells[16]?=some (j6.int .i64 f.lg):=id rfl
@[simp] theorem Fct.c17 (f:Fct):f.cells[17]?=some (j6.int .i64 f.ll):=id rfl
@[simp] theorem Fct.c18 (f:Fct):f.cells[18]?=some (j6.int .i64 f.lh):=id rfl
@[simp] theorem Fct.c19 (f:Fct):f.cells[19]?=some (j6.int .i64 f.lw):=id rfl
@[simp] theorem Fct.c20 (f:Fct):f.cells[20]?=some (j6.int .i64 f.cid):=id rfl
@[simp] theorem Fct.c21 (f:Fct):f.cells[21]?=some (j6.int .i64 f.cday):=id rfl
@[simp] theorem Fct.c22 (f:Fct):f.cells[22]?=some (f.A):=id rfl
@[simp] theorem Fct.c23 (f:Fct):f.cells[23]?=some (f.B):=id rfl
@[simp] theorem Fct.c24 (f:Fct):f.cells[24]?=some (j6.int .i64 f.diff):=id rfl
@[simp] theorem Fct.c25 (f:Fct):f.cells[25]?=some (j6.int .i64 f.err):=id rfl
@[simp] theorem Fct.c26 (f:Fct):f.cells[26]?=some (j6.int .i64 f.hlo):=id rfl
@[simp] theorem Fct.c27 (f:Fct):f.cells[27]?=some (j6.int .i64 f.hhi):=id rfl
@[simp] theorem Fct.c28 (f:Fct):f.cells[28]?=some (j6.int .i64 f.mday):=id rfl
@[simp] theorem Fct.c29 (f:Fct):f.cells[29]?=some (f.L):=id rfl
@[simp] theorem Fct.c30 (f:Fct):f.cells[30]?=some (j6.int .i64 f.tr):=id rfl
@[simp] theorem Fct.c31 (f:Fct):f.cells[31]?=some (j6.int .i64 f.tn):=id rfl
@[simp] theorem Fct.g0 (f:Fct)(h:0<f.cells.length):f.cells[0]'h=j6.int .i64 f.room:=id rfl
@[simp] theorem Fct.g1 (f:Fct)(h:1<f.cells.length):f.cells[1]'h=j6.int .i64 f.no:=id rfl
@[simp] theorem Fct.g2 (f:Fct)(h:2<f.cells.length):f.cells[2]'h=j6.int .i64 f.known:=id rfl
@[simp] theorem Fct.g3 (f:Fct)(h:3<f.cells.length):f.cells[3]'h=j6.int .i64 f.kind:=id rfl
@[simp] theorem Fct.g4 (f:Fct)(h:4<f.cells.length):f.cells[4]'h=j6.int .i64 f.flo:=id rfl
@[simp] theorem Fct.g5 (f:Fct)(h:5<f.cells.length):f.cells[5]'h=j6.int .i64 f.fhi:=id rfl
@[simp] theorem Fct.g6 (f:Fct)(h:6<f.cells.length):f.cells[6]'h=j6.int .i64 f.gid:=id rfl
@[simp] theorem Fct.g7 (f:Fct)(h:7<f.cells.length):f.cells[7]'h=j6.int .i64 f.made:=id rfl
@[simp] theorem Fct.g8 (f:Fct)(h:8<f.cells.length):f.cells[8]'h=j6.int .i64 f.nom:=id rfl
@[simp] theorem Fct.g9 (f:Fct)(h:9<f.cells.length):f.cells[9]'h=j6.int .i64 f.tlo:=id rfl
@[simp] theorem Fct.g10 (f:Fct)(h:10<f.cells.length):f.cells[10]'h=j6.int .i64 f.thi:=id rfl
@[simp] theorem Fct.g11 (f:Fct)(h:11<f.cells.length):f.cells[11]'h=j6.int .i64 f.gn:=id rfl
@[simp] theorem Fct.g12 (f:Fct)(h:12<f.cells.length):f.cells[12]'h=j6.int .i64 f.gd:=id rfl
@[simp] theorem Fct.g13 (f:Fct)(h:13<f.cells.length):f.cells[13]'h=j6.int .i64 f.wear:=id rfl
@[simp] theorem Fct.g14 (f:Fct)(h:14<f.cells.length):f.cells[14]'h=j6.int .i64 f.ug:=id rfl
@[simp] theorem Fct.g15 (f:Fct)(h:15<f.cells.length):f.cells[15]'h=j6.int .i64 f.ud:=id rfl
@[simp] theorem Fct.g16 (f:Fct)(h:16<f.cells.length):f.cells[16]'h=j6.int .i64 f.lg:=id rfl
@[simp] theorem Fct.g17 (f:Fct)(h:17<f.cells.length):f.cells[17]'h=j6.int .i64 f.ll:=id rfl
@[simp] theorem Fct.g18 (f:Fct)(h:18<f.cells.length):f.cells[18]'h=j6.int .i64 f.lh:=id rfl
@[simp] theorem Fct.g19 (f:Fct)(h:19<f.cells.length):f.cells[19]'h=j6.int .i64 f.lw:=id rfl
@[simp] theorem Fct.g20 (f:Fct)(h:20<f.cells.length):f.cells[20]'h=j6.int .i64 f.cid:=id rfl
@[simp] theorem Fct.g21 (f:Fct)(h:21<f.cells.length):f.cells[21]'h=j6.int .i64 f.cday:=id rfl
@[simp] theorem Fct.g22 (f:Fct)(h:22<f.cells.length):f.cells[22]'h=f.A:=id rfl
@[simp] theorem Fct.g23 (f:Fct)(h:23<f.cells.length):f.cells[23]'h=f.B:=id rfl
@[simp] theorem Fct.g24 (f:Fct)(h:24<f.cells.length):f.cells[24]'h=j6.int .i64 f.diff:=id rfl
@[simp] theorem Fct.g25 (f:Fct)(h:25<f.cells.length):f.cells[25]'h=j6.int .i64 f.err:=id rfl
@[simp] theorem Fct.g26 (f:Fct)(h:26<f.cells.length):f.cells[26]'h=j6.int .i64 f.hlo:=id rfl
@[simp] theorem Fct.g27 (f:Fct)(h:27<f.cells.length):f.cells[27]'h=j6.int .i64 f.hhi:=id rfl
@[simp] theorem Fct.g28 (f:Fct)(h:28<f.cells.length):f.cells[28]'h=j6.int .i64 f.mday:=id rfl
@[simp] theorem Fct.g29 (f:Fct)(h:29<f.cells.length):f.cells[29]'h=f.L:=id rfl
@[simp] theorem Fct.g30 (f:Fct)(h:30<f.cells.length):f.cells[30]'h=j6.int .i64 f.tr:=id rfl
@[simp] theorem Fct.g31 (f:Fct)(h:31<f.cells.length):f.cells[31]'h=j6.int .i64 f.tn:=id rfl
@[simp] theorem Fct.arl (f:Fct):(f.cells.drop 4).take 2=[j6.int .i64 f.flo,j6.int .i64 f.fhi]:=id rfl
@[simp] theorem Fct.arn (f:Fct):(f.cells.drop 6).take 8=[j6.int .i64 f.gid,j6.int .i64 f.made,j6.int .i64 f.nom,j6.int .i64 f.tlo,j6.int .i64 f.thi,j6.int .i64 f.gn,j6.int .i64 f.gd,j6.int .i64 f.wear]:=id rfl
@[simp] theorem Fct.aqp (f:Fct):(f.cells.drop 14).take 2=[j6.int .i64 f.ug,j6.int .i64 f.ud]:=id rfl
@[simp] theorem Fct.aqr (f:Fct):(f.cells.drop 16).take 4=[j6.int .i64 f.lg,j6.int .i64 f.ll,j6.int .i64 f.lh,j6.int .i64 f.lw]:=id rfl
@[simp] theorem Fct.aqs (f:Fct):(f.cells.drop 20).take 8=[j6.int .i64 f.cid,j6.int .i64 f.cday,f.A,f.B,j6.int .i64 f.diff,j6.int .i64 f.err,j6.int .i64 f.hlo,j6.int .i64 f.hhi]:=id rfl
@[simp] theorem Fct.aqt (f:Fct):(f.cells.drop 28).take 2=[j6.int .i64 f.mday,f.L]:=id rfl
@[simp] theorem Fct.aqu (f:Fct):(f.cells.drop 30).take 2=[j6.int .i64 f.tr,j6.int .i64 f.tn]:=id rfl
@[simp] theorem Fct.aqv (f:Fct):(f.cells.drop 17).take 2=[j6.int .i64 f.ll,j6.int .i64 f.lh]:=id rfl
@[simp] theorem Fct.aqw (f:Fct):(f.cells.drop 26).take 2=[j6.int .i64 f.hlo,j6.int .i64 f.hhi]:=id rfl
@[simp] theorem Fct.aro (f:Fct):(f.cells.drop 9).take 2=[j6.int .i64 f.tlo,j6.int .i64 f.thi]:=id rfl
@[simp] theorem Fct.aqx (f:Fct):(f.cells.drop 11).take 2=[j6.int .i64 f.gn,j6.int .i64 f.gd]:=id rfl
@[simp] theorem Fct.aqy (f:Fct):f.cells.take 32=f.cells:=id rfl
theorem O4 (n fu:Nat)(a lo hi:Int)(m:Mem):G9 KW fu (n+1) (.func 38) [.int .i64 a,.int .i64 lo,.int .i64 hi] m=some [⟨.bool (decide (lo≤a)&&decide (a≤hi)),m⟩]:=by
 rw [enter (sf:=f38) rfl rfl]
 simp +contextual [G5,f38,trD,J4,A8]
theorem U6 (n fu:Nat)(a lo hi:Int)(m:Mem):G9 KW fu (n+1) (.func 389) [.int .i64 a,.int .i64 lo,.int .i64 hi] m=some [⟨.bool (decide (lo≤a)&&decide (a≤hi)),m⟩]:=by
 rw [enter (sf:=abz) rfl rfl]
 simp +contextual [G5,abz,trD,J4,A8]
theorem jk (n fu:Nat)(a:Int)(m:Mem):G9 KW fu (n+2) (.func 135) [.int .i64 a] m=some [⟨.bool (decide (1≤a)&&decide (a≤1099511627776)),m⟩]:=by
 rw [enter (sf:=f135) rfl rfl]
 simp [G5,f135,trD,J4,O4]
theorem V4 (n fu:Nat)(a:Int)(m:Mem):G9 KW fu (n+2) (.func 79) [.int .i64 a] m=some [⟨.bool (decide (0≤a)&&decide (a≤1099511627776)),m⟩]:=by
 rw [enter (sf:=f79) rfl rfl]
 simp [G5,f79,trD,J4,O4]
theorem aD (n fu:Nat)(a:Int)(m:Mem):G9 KW fu (n+2) (.func 296) [.int .i64 a] m=some [⟨.bool (decide (0≤a)&&decide (a≤20000)),m⟩]:=by
 rw [enter (sf:=f296) rfl rfl]
 simp [G5,f296,trD,J4,U6]
theorem CX (n fu:Nat)(l h a b:Int)(m:Mem)(hm:m.Ok):G9 KW fu (n+1) (.func 130) [.agg [.int .i64 l,.int .i64 h],.int .i64 a,.int .i64 b] m =
  some [⟨.bool (decide (a≤l)&&decide (l≤h)&&decide (h≤b)),ext m [D9 [.int .i64 l,.int .i64 h]]⟩]:=by
 rw [enter (sf:=f130) rfl rfl]
 simp +contextual [G5,f130,trD,J4,A8,A9,C8,j3 hm,j5 hm]
theorem Iy (n fu:Nat)(l h a b:Int)(m:Mem)(hm:m.Ok):G9 KW fu (n+1) (.func 228) [.agg [.int .i64 l,.int .i64 h],.int .i64 a,.int .i64 b] m =
  some [⟨.bool (decide (a≤l)&&decide (l≤h)&&decide (h≤b)),ext m [D9 [.int .i64 l,.int .i64 h]]⟩]:=by
 rw [enter (sf:=f228) rfl rfl]
 simp +contextual [G5,f228,trD,J4,A8,A9,C8,j3 hm,j5 hm]
theorem Iz (n fu:Nat)(f:Fct)(m:Mem)(hm:m.Ok)(hl:m.lim≤m.next):G9 KW fu (n+1) (.func 51) [.agg f.cells] m =
  some [⟨.agg [.int .i64 f.room,.int .i64 f.no],ext m [D9 f.cells,D9 [.int .i64 f.room,.int .i64 f.no]]⟩]:=by
 rw [enter (sf:=f51) rfl rfl]
 simp [f51,G5,trD,J4,A8,u7,o7,OM,A9,C8,j3 hm,j5 hm,D8 hm hl,o9 hm hl,l8 hm,l6 hm,G6,o8,w9,z8,L6]
theorem Pb (n fu:Nat)(f:Fct)(m:Mem)(hm:m.Ok)(hl:m.lim≤m.next):∃m',G9 KW fu (n+2) (.func 129) [.agg f.cells] m=some [⟨.bool (decide (0≤f.flo)&&decide (f.flo≤f.fhi)&&decide (f.fhi≤1000000)),m'⟩]∧Ext m m':=by
 rw [enter (sf:=f129) rfl rfl]
 refine⟨ext m [D9 f.cells,D9 [.int .i64 f.flo,.int .i64 f.fhi]],?_,H6 hm _⟩
 simp +contextual [f129,G5,trD,J4,A8,u7,o7,OM,A9,C8,j3 hm,j5 hm,D8 hm hl,o9 hm hl,l8 hm,l6 hm,G6,o8,w9,z8,L6,CX _ _ _ _ _ _ _ (K7 hm _)]
theorem Pd (n fu:Nat)(f:Fct)(m:Mem)(hm:m.Ok)(hl:m.lim≤m.next):∃m',G9 KW fu (n+3) (.func 134) [.agg f.cells] m=some [⟨.bool ((decide (1≤f.ug)&&decide (f.ug≤1099511627776))&&(decide (0≤f.ud)&&decide (f.ud≤20000))),m'⟩]∧Ext m m':=by
 rw [enter (sf:=f134) rfl rfl]
 refine⟨ext m [D9 f.cells],?_,H6 hm _⟩
 simp +contextual [f134,G5,trD,J4,A8,u7,o7,OM,A9,C8,j3 hm,j5 hm,D8 hm hl,o9 hm hl,l8 hm,l6 hm,G6,o8,w9,z8,L6,jk,O4]
end Go.Proofs.YtfnlnpllpfhhnaaGreatDoor.TT
namespace Go.Proofs.YtfnlnpllpfhhnaaGreatDoor.TT
open Go Go.AM
set_option linter.unusedSimpArgs false
set_option linter.unusedVariables false
theorem Pe {m:Mem}{v w:j6}{xs ys:List Int}(hv:cO m v xs)(hw:cO m w ys)(hxy:ys.length=xs.length)(hb:xs.length<1000000)(cf:M6)(fu:Nat)(a2:j6):
  ∀(j i:Nat),i+j=xs.length→∀(N:Nat),j<N→∀(a5 a6 a7:j6),
   ∃x k b5 b6 b7,gu (fun env m k=>Ip cf fu none env m k) N (.nd (.nd (.nd (.nd .e a7 .e) (.int .i64 ((i:Nat):Int)) .e) w (.nd .e a5 .e)) v (.nd (.nd (.nd .e (.bool false) .e) (.int .i64 ((xs.length:Nat):Int)) .e) a2 (.nd .e a6 .e))) m []=some [⟨x,(.nd (.nd (.nd (.nd .e b7 .e) (.int .i64 ((k:Nat):Int)) .e) w (.nd .e b5 .e)) v (.nd (.nd (.nd .e (.bool false) .e) (.int .i64 ((xs.length:Nat):Int)) .e) a2 (.nd .e b6 .e))),m,[],none⟩]∧
    x=(if xs.drop i=ys.drop i then aX.exit 0 else .ret):=by
 intro j
 induction j with
 | zero=>
  intro i hi N hN a5 a6 a7
  obtain⟨N,rfl⟩:∃M,N=M+1:=⟨N-1,by omega⟩
  refine⟨.exit 0,i,.bool false,a6,a7,?_,?_⟩
  ·rw [M4]
   have h:¬ i<xs.length:=by omega
   simp [Ip,G5,trD,J4,A8,u7,o7,A9,C8,G6,o8,w9,z8,L6,h]
  ·rw [List.drop_of_length_le (by omega),List.drop_of_length_le (by omega)];rfl
 | succ j ih=>
  intro i hi N hN a5 a6 a7
  obtain⟨N,rfl⟩:∃M,N=M+1:=⟨N-1,by omega⟩
  have h:i<xs.length:=by omega
  have h':i<ys.length:=by omega
  obtain⟨p,e1,_,e2⟩:=hv.at h
  obtain⟨q,e3,_,e4⟩:=hw.at h'
  by_cases he:xs[i]=ys[i]
  ·obtain⟨x,k,b5,b6,b7,g1,g2⟩:=ih (i+1) (by omega) N (by omega) (.bool true) (.int .i64 i) (.bool false)
   refine⟨x,k,b5,b6,b7,?_,?_⟩
   ·rw [M4,← g1]
    simp [Ip,trD,J4,h,e1,e2,e3,e4,he,iW (i:=i) (by omega)]
   ·rw [g2]
    have hd:(xs.drop i=ys.drop i)↔(xs.drop (i+1)=ys.drop (i+1)):=by
     rw [List.drop_eq_getElem_cons h,List.drop_eq_getElem_cons h',he]
     exact⟨fun hh=>(List.cons.inj hh).2,fun hh=>by rw [hh]⟩
    simp only [hd]
  ·refine⟨.ret,i,.bool true,.int .i64 i,.bool true,?_,?_⟩
   ·rw [M4]
    simp [Ip,trD,J4,h,e1,e2,e3,e4,he]
   ·rw [if_neg]
    intro hh
    rw [List.drop_eq_getElem_cons h,List.drop_eq_getElem_cons h'] at hh
    exact he (List.cons.inj hh).1
theorem IC {m:Mem}{v w:j6}{xs ys:List Int}(hv:cO m v xs)(hw:cO m w ys)(hb:xs.length<1000)(n fu:Nat)(hfu:1000≤fu):
  G9 KW fu (n+1) (.func 53) [v,w] m=some [⟨.bool (decide (xs=ys)),m⟩]:=by
 rw [enter (sf:=f53) rfl rfl]
 have l1:=hv.len
 have l2:=hw.len
 by_cases hxy:ys.length=xs.length
 ·obtain⟨x,k,b5,b6,b7,g1,g2⟩:=Pe hv hw hxy (by omega) (G9 KW fu n) fu (.bool false) xs.length 0 (by omega) fu (by omega) .undef .undef .undef
  have g2:x=if xs=ys then aX.exit 0 else .ret:=g2
  by_cases he:xs=ys
  ·rw [if_pos he] at g2
   subst g2
   simp [G5,f53,trD,J4,l1,l2,hxy,he] at g1 ⊢
   simp [g1]
  ·rw [if_neg he] at g2
   subst g2
   simp [G5,f53,trD,J4,l1,l2,hxy,he] at g1 ⊢
   simp [g1]
 ·have h1:¬ xs.length=ys.length:=fun h=>hxy h.symm
  have h2:¬ xs=ys:=fun h=>h1 (by rw [h])
  have h3:¬ ((xs.length:Nat):Int)=((ys.length:Nat):Int):=by omega
  simp [G5,f53,trD,J4,l1,l2,h3,h2]
end Go.Proofs.YtfnlnpllpfhhnaaGreatDoor.TT
namespace Go.Proofs.YtfnlnpllpfhhnaaGreatDoor.TT
open Go Go.AM
set_option linter.unusedSimpArgs false
set_option linter.unusedVariables false
theorem KQ {m:Mem}{v:j6}{xs:List Int}(hv:cO m v xs)(hb:xs.length<1000000)(n fu:Nat):
  ∀(j i:Nat),i+j=xs.length→∀(N:Nat),j<N→∀(a0 a1 a2 a3:j6),
   ∃x k b0 b1 b2 b3,gu (fun env m k=>pU (G9 KW fu (n+1)) fu none env m k) N (.nd (.nd (.nd (.nd .e a3 .e) a0 .e) (.int .i64 ((i:Nat):Int)) (.nd .e a1 .e)) v (.nd (.nd (.nd .e (.bool false) .e) v .e) (.int .i64 ((xs.length:Nat):Int)) (.nd .e a2 .e))) m []=some [⟨x,(.nd (.nd (.nd (.nd .e b3 .e) b0 .e) (.int .i64 ((k:Nat):Int)) (.nd .e b1 .e)) v (.nd (.nd (.nd .e (.bool false) .e) v .e) (.int .i64 ((xs.length:Nat):Int)) (.nd .e b2 .e))),m,[],none⟩]∧x=(bif Y0 (okB xs) j i then aX.exit 0 else .ret):=by
 intro j
 induction j with
 | zero=>
  intro i hi N hN a0 a1 a2 a3
  obtain⟨N,rfl⟩:∃M,N=M+1:=⟨N-1,by omega⟩
  refine⟨.exit 0,i,.bool false,a1,a2,a3,?_,rfl⟩
  rw [M4]
  have h:¬ i<xs.length:=by omega
  have l1:=hv.len
  simp [pU,G5,trD,J4,A8,u7,o7,h,l1]
 | succ j ih=>
  intro i hi N hN a0 a1 a2 a3
  obtain⟨N,rfl⟩:∃M,N=M+1:=⟨N-1,by omega⟩
  have h:i<xs.length:=by omega
  have l1:=hv.len
  obtain⟨p,e1,_,e2⟩:=hv.at h
  have hg:=nT h
  have good:okB xs i=true→∃x k b0 b1 b2 b3,gu (fun env m k=>pU (G9 KW fu (n+1)) fu none env m k) (N+1) (.nd (.nd (.nd (.nd .e a3 .e) a0 .e) (.int .i64 ((i:Nat):Int)) (.nd .e a1 .e)) v (.nd (.nd (.nd .e (.bool false) .e) v .e) (.int .i64 ((xs.length:Nat):Int)) (.nd .e a2 .e))) m []=some [⟨x,(.nd (.nd (.nd (.nd .e b3 .e) b0 .e) (.int .i64 ((k:Nat):Int)) (.nd .e b1 .e)) v (.nd (.nd (.nd .e (.bool false) .e) v .e) (.int .i64 ((xs.length:Nat):Int)) (.nd .e b2 .e))),m,[],none⟩]∧x=(bif Y0 (okB xs) (j+1) i then aX.exit 0 else .ret):=by
   intro hok
   obtain⟨x,k,b0,b1,b2,b3,g1,g2⟩:=ih (i+1) (by omega) N (by omega) (.bool true) ((.int .i64 xs[i])) ((.int .i64 (i:Nat))) (.bool false)
   refine⟨x,k,b0,b1,b2,b3,?_,by rw [g2];simp [Y0,hok]⟩
   rw [M4,← g1]
   simp only [okB,hg,Bool.and_eq_true,Bool.or_eq_true,decide_eq_true_eq] at hok
   obtain⟨⟨h1,h2⟩,h3⟩:=hok
   by_cases h0:i=0
   ·have h4:¬ 0<i:=by omega
    simp [pU,G5,trD,J4,A8,u7,o7,h,l1,e1,e2,h1,h2,h4,U6,iW (i:=i) (by omega)]
   ·have hp:i-1<xs.length:=by omega
    obtain⟨q,e3,_,e4⟩:=hv.at hp
    have h3:=h3.resolve_left h0
    rw [nT hp] at h3
    have h4:0<i:=by omega
    have h5:¬ xs[i]≤xs[i-1]:=by omega
    simp [pU,G5,trD,J4,A8,u7,o7,h,l1,e1,e2,e3,e4,h1,h2,h4,h5,U6,iW (i:=i) (by omega),sV (i:=i) h4 (by omega)]
  cases hok:okB xs i with
  | true=>exact good hok
  | false=>
   refine⟨.ret,i,.bool true,.int .i64 xs[i],.int .i64 (i:Nat),.bool true,?_,by simp [Y0,hok]⟩
   rw [M4]
   simp only [okB,hg] at hok
   by_cases h0:i=0
   ·have hr:(decide (1≤xs[i])&&decide (xs[i]≤1099511627776))=false:=by simpa [h0] using hok
    simp [pU,G5,trD,J4,A8,u7,o7,h,l1,e1,e2,hr,U6]
   ·have hp:i-1<xs.length:=by omega
    obtain⟨q,e3,_,e4⟩:=hv.at hp
    have h4:0<i:=by omega
    rw [nT hp,show decide (i=0)=false from decide_eq_false h0,Bool.false_or] at hok
    cases hr:(decide (1≤xs[i])&&decide (xs[i]≤1099511627776)) with
    | false=>simp [pU,G5,trD,J4,A8,u7,o7,h,l1,e1,e2,hr,U6]
    | true=>
     rw [hr,Bool.true_and] at hok
     have h5:xs[i]≤xs[i-1]:=by simpa using hok
     simp [pU,G5,trD,J4,A8,u7,o7,h,l1,e1,e2,e3,e4,hr,h4,h5,U6,sV (i:=i) h4 (by omega)]
theorem IE {m:Mem}{v:j6}{xs:List Int}(hv:cO m v xs)(hb:xs.length<1000)(n fu:Nat)(hfu:1000≤fu):
  G9 KW fu (n+2) (.func 394) [v] m=some [⟨.bool (Y0 (okB xs) xs.length 0&&decide (xs.length≤6)),m⟩]:=by
 rw [enter (sf:=abA) rfl rfl]
 have l1:=hv.len
 obtain⟨x,k,b0,b1,b2,b3,g1,g2⟩:=KQ hv (by omega) n fu xs.length 0 (by omega) fu (by omega) .undef .undef .undef .undef
 cases ha:Y0 (okB xs) xs.length 0<;>rw [ha] at g2<;>simp only [cond_true,cond_false] at g2<;>subst g2<;>simp [abA,G5,trD,J4,A8,u7,o7,l1] at g1 ⊢ <;> simp [g1,l1]
 omega
theorem KR {m:Mem}(hm:m.Ok){v:j6}{day:Int}{xs:List Int}(hv:cO (ext m [D9 [.int .i64 day,v]]) v xs)(hb:xs.length<1000000)(n fu:Nat):
  ∀(j i:Nat),i+j=xs.length→∀(N:Nat),j<N→∀(a0 a1 a2 a3:j6),
   ∃x k b0 b1 b2 b3,gu (fun env m k=>pR (G9 KW fu (n+2)) fu none env m k) N (.nd (.nd (.nd (.nd .e a2 .e) (.int .i64 ((xs.length:Nat):Int)) .e) (.ptr m.next 0) (.nd (.nd .e (.bool false) .e) v .e)) (.agg [.int .i64 day,v]) (.nd (.nd (.nd .e a3 .e) a0 .e) (.int .i64 ((i:Nat):Int)) (.nd .e a1 .e))) (ext m [D9 [.int .i64 day,v]]) []=some [⟨x,(.nd (.nd (.nd (.nd .e b2 .e) (.int .i64 ((xs.length:Nat):Int)) .e) (.ptr m.next 0) (.nd (.nd .e (.bool false) .e) v .e)) (.agg [.int .i64 day,v]) (.nd (.nd (.nd .e b3 .e) b0 .e) (.int .i64 ((k:Nat):Int)) (.nd .e b1 .e))),(ext m [D9 [.int .i64 day,v]]),[],none⟩]∧x=(bif Y0 (okB xs) j i then aX.exit 0 else .ret):=by
 intro j
 induction j with
 | zero=>
  intro i hi N hN a0 a1 a2 a3
  obtain⟨N,rfl⟩:∃M,N=M+1:=⟨N-1,by omega⟩
  refine⟨.exit 0,i,.bool false,a1,a2,a3,?_,rfl⟩
  rw [M4]
  have h:¬ i<xs.length:=by omega
  have l1:=hv.len
  simp [pR,G5,trD,J4,A8,u7,o7,h,l1,j3 hm]
 | succ j ih=>
  intro i hi N hN a0 a1 a2 a3
  obtain⟨N,rfl⟩:∃M,N=M+1:=⟨N-1,by omega⟩
  have h:i<xs.length:=by omega
  have l1:=hv.len
  obtain⟨p,e1,_,e2⟩:=hv.at h
  have hg:=nT h
  have good:okB xs i=true→∃x k b0 b1 b2 b3,gu (fun env m k=>pR (G9 KW fu (n+2)) fu none env m k) (N+1) (.nd (.nd (.nd (.nd .e a2 .e) (.int .i64 ((xs.length:Nat):Int)) .e) (.ptr m.next 0) (.nd (.nd .e (.bool false) .e) v .e)) (.agg [.int .i64 day,v]) (.nd (.nd (.nd .e a3 .e) a0 .e) (.int .i64 ((i:Nat):Int)) (.nd .e a1 .e))) (ext m [D9 [.int .i64 day,v]]) []=some [⟨x,(.nd (.nd (.nd (.nd .e b2 .e) (.int .i64 ((xs.length:Nat):Int)) .e) (.ptr m.next 0) (.nd (.nd .e (.bool false) .e) v .e)) (.agg [.int .i64 day,v]) (.nd (.nd (.nd .e b3 .e) b0 .e) (.int .i64 ((k:Nat):Int)) (.nd .e b1 .e))),(ext m [D9 [.int .i64 day,v]]),[],none⟩]∧x=(bif Y0 (okB xs) (j+1) i then aX.exit 0 else .ret):=by
   intro hok
   obtain⟨x,k,b0,b1,b2,b3,g1,g2⟩:=ih (i+1) (by omega) N (by omega) (.bool true) ((.int .i64 xs[i])) ((.int .i64 (i:Nat))) (.bool false)
   refine⟨x,k,b0,b1,b2,b3,?_,by rw [g2];simp [Y0,hok]⟩
   rw [M4,← g1]
   simp only [okB,hg,Bool.and_eq_true,Bool.or_eq_true,decide_eq_true_eq] at hok
   obtain⟨⟨h1,h2⟩,h3⟩:=hok
   by_cases h0:i=0
   ·have h4:¬ 0<i:=by omega
    simp [pR,G5,trD,J4,A8,u7,o7,h,l1,e1,e2,h1,h2,h4,jk,iW (i:=i) (by omega),j3 hm]
   ·have hp:i-1<xs.length:=by omega
    obtain⟨q,e3,_,e4⟩:=hv.at hp
    have h3:=h3.resolve_left h0
    rw [nT hp] at h3
    have h4:0<i:=by omega
    have h5:¬ xs[i]≤xs[i-1]:=by omega
    simp [pR,G5,trD,J4,A8,u7,o7,h,l1,e1,e2,e3,e4,h1,h2,h4,h5,jk,iW (i:=i) (by omega),sV (i:=i) h4 (by omega),j3 hm]
  cases hok:okB xs i with
  | true=>exact good hok
  | false=>
   refine⟨.ret,i,.bool true,.int .i64 xs[i],.int .i64 (i:Nat),.bool true,?_,by simp [Y0,hok]⟩
   rw [M4]
   simp only [okB,hg] at hok
   by_cases h0:i=0
   ·have hr:(decide (1≤xs[i])&&decide (xs[i]≤1099511627776))=false:=by simpa [h0] using hok
    simp [pR,G5,trD,J4,A8,u7,o7,h,l1,e1,e2,hr,jk,j3 hm]
   ·have hp:i-1<xs.length:=by omega
    obtain⟨q,e3,_,e4⟩:=hv.at hp
    have h4:0<i:=by omega
    rw [nT hp,show decide (i=0)=false from decide_eq_false h0,Bool.false_or] at hok
    cases hr:(decide (1≤xs[i])&&decide (xs[i]≤1099511627776)) with
    | false=>simp [pR,G5,trD,J4,A8,u7,o7,h,l1,e1,e2,hr,jk,j3 hm]
    | true=>
     rw [hr,Bool.true_and] at hok
     have h5:xs[i]≤xs[i-1]:=by simpa using hok
     simp [pR,G5,trD,J4,A8,u7,o7,h,l1,e1,e2,e3,e4,hr,h4,h5,jk,sV (i:=i) h4 (by omega),j3 hm]
theorem Pf {m:Mem}(hm:m.Ok){v:j6}{day:Int}{xs:List Int}(hv:cO m v xs)(hb:xs.length<1000)(n fu:Nat)(hfu:1000≤fu):
  G9 KW fu (n+3) (.func 143) [.agg [.int .i64 day,v]] m=some [⟨.bool (Y0 (okB xs) xs.length 0&&((decide (0≤day)&&decide (day≤19999))&&(decide (2≤xs.length)&&decide (xs.length≤5)))),ext m [D9 [.int .i64 day,v]]⟩]:=by
 rw [enter (sf:=f143) rfl rfl]
 have hv:=hv.ext (H6 hm [D9 [.int .i64 day,v]])
 have l1:=hv.len
 have hz:v.cells=[v]:=hv.cells
 obtain⟨x,k,b0,b1,b2,b3,g1,g2⟩:=KR hm hv (by omega) n fu xs.length 0 (by omega) fu (by omega) .undef .undef .undef .undef
 have c2:decide (2≤((xs.length:Nat):Int))=decide (2≤xs.length):=by rw [Bool.eq_iff_iff];simp;omega
 have c3:decide (((xs.length:Nat):Int)≤5)=decide (xs.length≤5):=by rw [Bool.eq_iff_iff];simp;omega
 cases ha:Y0 (okB xs) xs.length 0<;>rw [ha] at g2<;>simp only [cond_true,cond_false] at g2<;>subst g2<;>simp [f143,G5,trD,J4,A8,u7,o7,l1,A9,j3 hm,hz] at g1 ⊢
 ·simp [g1]
 ·simp +contextual [g1,l1,j3 hm,G5,trD,J4,A8,u7,o7,O4,c2,c3]
end Go.Proofs.YtfnlnpllpfhhnaaGreatDoor.TT
namespace Go.Proofs.YtfnlnpllpfhhnaaGreatDoor.TT
open Go Go.AM
set_option linter.unusedSimpArgs false
set_option linter.unusedVariables false
@[simp] theorem Pg:jd .nilSlice .nilSlice=some true:=id rfl
@[simp] theorem KS (a b c d:Nat):jd (.slice a b c d) .nilSlice=some false:=id rfl
@[simp] theorem JJ (a b c d:Nat):jd (.sliceU a b c d) .nilSlice=some false:=id rfl
theorem KT (x:Int)(n fu:Nat)(hfu:1000≤fu)(m:Mem):G9 KW fu (n+1) (.func 210) [.nilSlice,.int .i64 x] m=some [⟨.int .i64 (.negSucc 0),m⟩]:=by
 rw [enter (sf:=f210) rfl rfl]
 obtain⟨N,rfl⟩:∃M,fu=M+1:=⟨fu-1,by omega⟩
 simp [f210,G5,trD,J4,A8,u7,o7,M4,MH]
theorem KU (x:Int)(n fu:Nat)(hfu:1000≤fu)(m:Mem):G9 KW fu (n+2) (.func 223) [.nilSlice,.int .i64 x] m=some [⟨.bool false,m⟩]:=by
 rw [enter (sf:=f223) rfl rfl]
 simp [f223,G5,trD,J4,A8,u7,o7,KT x n fu hfu]
theorem KV (x:Int)(n fu:Nat)(hfu:1000≤fu){m:Mem}{p:Nat}(hp:m.get p=some (D9 [.nilSlice])):G9 KW fu (n+3) (.func 307) [.int .i64 x,.ptr p 0] m=some [⟨.bool false,m⟩]:=by
 rw [enter (sf:=f307) rfl rfl]
 simp [f307,G5,trD,J4,A8,u7,o7,hp,KU x n fu hfu]
theorem KX {m:Mem}{v:j6}{xs:List Int}{p:Nat}(hv:cO m v xs)(hp:m.get p=some (D9 [.nilSlice]))(hb:xs.length<1000000)(n fu:Nat)(hfu:1000≤fu):
  ∀(j i:Nat),i+j=xs.length→∀(N:Nat),j<N→∀(a0 a1 a2:j6),
   ∃k b0 b1 b2,gu (fun env m k=>Bl (G9 KW fu (n+3)) fu none env m k) N (.nd (.nd (.nd (.nd .e (.int .i64 0) .e) a0 .e) (.int .i64 ((i:Nat):Int)) (.nd .e a1 .e)) v (.nd (.nd .e (.func (.func 307) [] [.ptr p 0]) .e) (.int .i64 ((xs.length:Nat):Int)) (.nd .e a2 .e))) m []=some [⟨.exit 0,(.nd (.nd (.nd (.nd .e (.int .i64 0) .e) b0 .e) (.int .i64 ((k:Nat):Int)) (.nd .e b1 .e)) v (.nd (.nd .e (.func (.func 307) [] [.ptr p 0]) .e) (.int .i64 ((xs.length:Nat):Int)) (.nd .e b2 .e))),m,[],none⟩]:=by
 intro j
 induction j with
 | zero=>
  intro i hi N hN a0 a1 a2
  obtain⟨N,rfl⟩:∃M,N=M+1:=⟨N-1,by omega⟩
  refine⟨i,.bool false,a1,a2,?_⟩
  rw [M4]
  have h:¬ i<xs.length:=by omega
  simp [Bl,G5,trD,J4,A8,u7,o7,h]
 | succ j ih=>
  intro i hi N hN a0 a1 a2
  obtain⟨N,rfl⟩:∃M,N=M+1:=⟨N-1,by omega⟩
  have h:i<xs.length:=by omega
  obtain⟨q,e1,_,e2⟩:=hv.at h
  obtain⟨k,b0,b1,b2,g1⟩:=ih (i+1) (by omega) N (by omega) (.bool true) (.int .i64 i) (.bool false)
  refine⟨k,b0,b1,b2,?_⟩
  rw [M4,← g1]
  simp [Bl,G5,trD,J4,A8,u7,o7,h,e1,e2,KV _ n fu hfu hp,iW (i:=i) (by omega)]
theorem KY {m:Mem}{v:j6}{xs:List Int}{p:Nat}(hv:cO m v xs)(hp:m.get p=some (D9 [.nilSlice]))(hb:xs.length<1000)(n fu:Nat)(hfu:1000≤fu):
  G9 KW fu (n+4) (.func 127) [v,.func (.func 307) [] [.ptr p 0]] m=some [⟨.int .i64 (.negSucc 0),m⟩]:=by
 rw [enter (sf:=f127) rfl rfl]
 have l1:=hv.len
 obtain⟨k,b0,b1,b2,g1⟩:=KX hv hp (by omega) n fu hfu xs.length 0 (by omega) fu (by omega) .undef .undef .undef
 simp [f127,G5,trD,J4,A8,u7,o7,l1] at g1 ⊢
 simp [g1]
theorem KZ {m:Mem}{v:j6}{xs:List Int}{p:Nat}(hv:cO m v xs)(hp:m.get p=some (D9 [.nilSlice]))(hb:xs.length<1000)(n fu:Nat)(hfu:1000≤fu):
  G9 KW fu (n+5) (.func 306) [v,.func (.func 307) [] [.ptr p 0]] m=some [⟨v,m⟩]:=by
 rw [enter (sf:=f306) rfl rfl]
 simp [f306,G5,trD,J4,A8,u7,o7,KY hv hp hb n fu hfu]
theorem Ph {m:Mem}{v:j6}{xs:List Int}(hm:m.Ok)(hl:m.lim≤m.next)(hv:cO m v xs)(hb:xs.length<1000)(n fu:Nat):
  ∃v' m',G9 KW fu (n+1) (.func 183) [v] m=some [⟨v',m'⟩]∧Ext m m'∧cO m' v' xs:=by
 rw [enter (sf:=f183) rfl rfl]
 rcases hv with⟨rfl,rfl⟩ | hv
 ·refine⟨.nilSlice,m,?_,Ext.refl hm,.inl ⟨rfl,rfl⟩⟩
  simp [f183,G5,trD,J4,A8,u7,o7]
 ·have hv':cO m v xs:=.inr hv
  have hne:jd v .nilSlice=some false:=by
   obtain⟨id,⟨c,rfl⟩ | ⟨c,rfl⟩,_⟩:=hv<;>rfl
  have hz:jI 1 0 [] (fun b=>some (j6.slice m.next 0 0 0,some b))=some (.slice m.next 0 0 0,some (.cells 1 0 (T.ofList []))):=rfl
  have hL:∀z env,J8 1 0 z [] [] env m.next=some (.slice m.next 0 0 0,some (.cells 1 0 (T.ofList []))):=fun z env=>rfl
  have hv1:cO (m.new (.cells 1 0 (T.ofList []))) v xs:=hv'.ext ((Ext.refl hm).new _)
  cases hx:xs with
  | nil=>
   subst hx
   refine⟨.slice m.next 0 0 0,m.new (.cells 1 0 (T.ofList [])),?_,(Ext.refl hm).new _,.inr ⟨(m.next,0),.inl ⟨0,rfl⟩,by simp,.inl rfl⟩⟩
   have hA':∀(l r:T j6) cf,nX 1 8 oL0 (bM gH) cf [.slice m.next 0 0 0] (.nd l v r) (m.new (.cells 1 0 (T.ofList [])))=some [⟨.slice m.next 0 0 0,m.new (.cells 1 0 (T.ofList []))⟩]:=by
    intro l r cf
    show ob (Go.AM.lenOf v) (fun n=>ob (dh _ 1 n v) fun new=>wX _ 1 8 n new (.slice m.next 0 0 0))=_
    rw [hv'.lenOf];simp only [P5,List.length_nil]
    have:=hv1.read
    rw [List.length_nil] at this
    rw [this];rfl
   simp [f183,G5,trD,J4,A8,u7,o7,hne,hL,hA']
  | cons x xs'=>
   obtain⟨m',g1,g2,g3⟩:=EY (m:=m.new (.cells 1 0 (T.ofList []))) (Mem.Ok.new hm _) xs
   refine⟨_,m',?_,((Ext.refl hm).new _).trans g2,by rw [← hx];exact g3⟩
   have hA':∀(l r:T j6) cf,nX 1 8 oL0 (bM gH) cf [.slice m.next 0 0 0] (.nd l v r) (m.new (.cells 1 0 (T.ofList [])))=some [⟨.sliceU (m.new (.cells 1 0 (T.ofList []))).next 0 xs.length 1,m'⟩]:=by
    intro l r cf
    show ob (Go.AM.lenOf v) (fun n=>ob (dh _ 1 n v) fun new=>wX _ 1 8 n new (.slice m.next 0 0 0))=_
    rw [hv'.lenOf];simp only [P5]
    rw [hv1.read];simp only [P5]
    show om _ 1 8 xs.length (ints xs) m.next 0 0 0=_
    unfold om
    have hp:0<xs.length:=by rw [hx];simp
    rw [show Nat.ble (Nat.add 0 xs.length) 0=false from by
     cases hb':Nat.ble (Nat.add 0 xs.length) 0 with
     | false=>rfl
     | true=>
      have h1:=Nat.le_of_ble_eq_true hb'
      have e0:Nat.add 0 xs.length=xs.length:=Nat.zero_add _
      rw [e0] at h1
      omega]
    rw [aY]
    have hbig:big (Nat.add 0 xs.length) 8 1=true:=by
     have e:Nat.add 0 xs.length=xs.length:=Nat.zero_add _
     unfold big
     rw [e,show Nat.ble (Nat.mul (Nat.add (Nat.mul 2 xs.length) 2048) 8) 281474976710656=true from Nat.ble_eq_true_of_le (by show (2*xs.length+2048)*8≤281474976710656;omega)]
     rfl
    rw [hbig,bO]
    show ob (R9 _ m.next 0 (Nat.mul 0 1)) _=_
    have e:Nat.mul 0 1=0:=rfl
    rw [e]
    show grown (m.new (.cells 1 0 (T.ofList []))) 1 (Nat.add 0 xs.length) (jc [] (ints xs))=_
    have e2:Nat.add 0 xs.length=xs.length:=Nat.zero_add _
    rw [e2,X9,List.nil_append,g1]
   simp [f183,G5,trD,J4,A8,u7,o7,hne,hL,hA']
theorem IG {m:Mem}{v:j6}{xs:List Int}(hm:m.Ok)(hl:m.lim≤m.next)(hv:cO m v xs)(hb:xs.length<1000)(n fu:Nat)(hfu:1000≤fu):
  ∃v' m',G9 KW fu (n+6) (.func 240) [v,.nilSlice] m=some [⟨v',m'⟩]∧Ext m m'∧cO m' v' xs:=by
 rw [enter (sf:=f240) rfl rfl]
 have hv1:=hv.ext (H6 hm [D9 [.nilSlice]])
 obtain⟨v',m',g1,g2,g3⟩:=Ph (m:=ext m [D9 [.nilSlice]]) (K7 hm _) (by simp;omega) hv1 hb (n+4) fu
 have hp:m'.get m.next=some (D9 [.nilSlice]):=by
  rw [g2.old _ (by simp)]
  rw [j3 hm];rfl
 refine⟨v',m',?_,(H6 hm _).trans g2,g3⟩
 simp [f240,G5,trD,J4,A8,u7,o7,A9,g1,g3.pan,KZ g3 hp hb n fu hfu]
theorem Fg {m:Mem}{v:j6}{xs:List Int}(hm:m.Ok)(hl:m.lim≤m.next)(hv:cO m v xs)(n fu:Nat)(hfu:1000≤fu):
  G9 KW fu (n+6) (.func 240) [.nilSlice,v] m=some [⟨.nilSlice,ext m [D9 [v]]⟩]:=by
 rw [enter (sf:=f240) rfl rfl]
 obtain⟨N,rfl⟩:∃M,fu=M+1:=⟨fu-1,by omega⟩
 have hz:=hv.cells
 have c153:G9 KW (N+1) (n+5) (.func 183) [.nilSlice] (ext m [D9 [v]])=some [⟨.nilSlice,ext m [D9 [v]]⟩]:=by
  rw [enter (sf:=f183) rfl rfl]
  simp [f183,G5,trD,J4,A8,u7,o7]
 have c130:G9 KW (N+1) (n+4) (.func 127) [.nilSlice,.func (.func 307) [] [.ptr m.next 0]] (ext m [D9 [v]])=some [⟨.int .i64 (.negSucc 0),ext m [D9 [v]]⟩]:=by
  rw [enter (sf:=f127) rfl rfl]
  simp [f127,G5,trD,J4,A8,u7,o7,M4,Bl]
 have c299:G9 KW (N+1) (n+5) (.func 306) [.nilSlice,.func (.func 307) [] [.ptr m.next 0]] (ext m [D9 [v]])=some [⟨.nilSlice,ext m [D9 [v]]⟩]:=by
  rw [enter (sf:=f306) rfl rfl]
  simp [f306,G5,trD,J4,A8,u7,o7,c130]
 simp [f240,G5,trD,J4,A8,u7,o7,A9,hz,c153,c299]
theorem Pj {m:Mem}{v:j6}{xs:List Int}(hm:m.Ok)(hl:m.lim≤m.next)(hv:cO m v xs)(hb:xs.length<1000)(n fu:Nat)(hfu:1000≤fu):
  ∃v1 v2 m',G9 KW fu (n+7) (.func 313) [v,.nilSlice] m=some [⟨.tuple [v1,v2,.int .i64 (bif (Y0 (okB xs) xs.length 0&&decide (xs.length≤6)) then 0 else 1)],m'⟩]∧Ext m m':=by
 rw [enter (sf:=f313) rfl rfl]
 have c1:=IE hv hb (n+4) fu hfu
 have c2:G9 KW fu (n+6) (.func 394) [.nilSlice] m=some [⟨.bool true,m⟩]:=IE (m:=m) (v:=.nilSlice) (xs:=[]) (.inl ⟨rfl,rfl⟩) (by simp) (n+4) fu hfu
 cases ha:(Y0 (okB xs) xs.length 0&&decide (xs.length≤6)) with
 | false=>
  rw [ha] at c1
  refine⟨.nilSlice,.nilSlice,m,?_,Ext.refl hm⟩
  simp [f313,G5,trD,J4,A8,u7,o7,c1]
 | true=>
  rw [ha] at c1
  obtain⟨v',m',g1,g2,g3⟩:=IG hm hl hv hb n fu hfu
  have hv2:=hv.ext g2
  have c3:=Fg (m:=m') g2.ok (by have h1:=g2.lim;have h2:=g2.next;omega) hv2 n fu hfu
  refine⟨v',.nilSlice,ext m' [D9 [v]],?_,g2.trans (H6 g2.ok _)⟩
  simp [f313,G5,trD,J4,A8,u7,o7,c1,c2,g1,g3.pan,c3]
theorem II {m:Mem}{v:j6}{xs:List Int}(hm:m.Ok)(hl:m.lim≤m.next)(hv:cO m v xs)(hb:xs.length<1000)(n fu:Nat)(hfu:1000≤fu):
  ∃m',G9 KW fu (n+8) (.func 243) [v] m=some [⟨.bool (Y0 (okB xs) xs.length 0&&decide (xs.length≤6)),m'⟩]∧Ext m m':=by
 rw [enter (sf:=f243) rfl rfl]
 obtain⟨v1,v2,m',g1,g2⟩:=Pj hm hl hv hb n fu hfu
 refine⟨m',?_,g2⟩
 cases ha:(Y0 (okB xs) xs.length 0&&decide (xs.length≤6))<;>rw [ha] at g1<;>simp [f243,G5,trD,J4,A8,u7,o7,g1]
end Go.Proofs.YtfnlnpllpfhhnaaGreatDoor.TT
namespace Go.Proofs.YtfnlnpllpfhhnaaGreatDoor.TT
open Go Go.AM
set_option linter.unusedSimpArgs false
set_option linter.unusedVariables false
theorem Pk {m:Mem}{v w:j6}{xs ys:List Int}(hv:cO m v xs)(hw:cO m w ys)(hxy:ys.length=xs.length)(hb:xs.length<1000000)(cf:M6)(fu:Nat)(a2:j6):
  ∀(j i:Nat),i+j=xs.length→∀(N:Nat),j<N→∀(a4 a5:j6),
   ∃x k b4 b5,gu (fun env m k=>Im cf fu none env m k) N (.nd (.nd (.nd .e (.int .i64 ((i:Nat):Int)) .e) w (.nd .e a5 .e)) v (.nd (.nd .e a4 .e) a2 (.nd .e (.bool false) .e))) m []=some [⟨x,(.nd (.nd (.nd .e (.int .i64 ((k:Nat):Int)) .e) w (.nd .e b5 .e)) v (.nd (.nd .e b4 .e) a2 (.nd .e (.bool false) .e))),m,[],none⟩]∧
    x=(if xs.drop i=ys.drop i then aX.exit 0 else .ret):=by
 have l1:=hv.len
 intro j
 induction j with
 | zero=>
  intro i hi N hN a4 a5
  obtain⟨N,rfl⟩:∃M,N=M+1:=⟨N-1,by omega⟩
  refine⟨.exit 0,i,.bool false,a5,?_,?_⟩
  ·rw [M4]
   have h:¬ i<xs.length:=by omega
   simp [Im,G5,trD,J4,h,l1]
  ·rw [List.drop_of_length_le (by omega),List.drop_of_length_le (by omega)];rfl
 | succ j ih=>
  intro i hi N hN a4 a5
  obtain⟨N,rfl⟩:∃M,N=M+1:=⟨N-1,by omega⟩
  have h:i<xs.length:=by omega
  have h':i<ys.length:=by omega
  obtain⟨p,e1,_,e2⟩:=hv.at h
  obtain⟨q,e3,_,e4⟩:=hw.at h'
  by_cases he:xs[i]=ys[i]
  ·obtain⟨x,k,b4,b5,g1,g2⟩:=ih (i+1) (by omega) N (by omega) (.bool true) (.bool false)
   refine⟨x,k,b4,b5,?_,?_⟩
   ·rw [M4,← g1]
    simp [Im,trD,J4,h,l1,e1,e2,e3,e4,he,iW (i:=i) (by omega)]
   ·rw [g2]
    have hd:(xs.drop i=ys.drop i)↔(xs.drop (i+1)=ys.drop (i+1)):=by
     rw [List.drop_eq_getElem_cons h,List.drop_eq_getElem_cons h',he]
     exact⟨fun hh=>(List.cons.inj hh).2,fun hh=>by rw [hh]⟩
    simp only [hd]
  ·refine⟨.ret,i,.bool true,.bool true,?_,?_⟩
   ·rw [M4]
    simp [Im,trD,J4,h,l1,e1,e2,e3,e4,he]
   ·rw [if_neg]
    intro hh
    rw [List.drop_eq_getElem_cons h,List.drop_eq_getElem_cons h'] at hh
    exact he (List.cons.inj hh).1
theorem IJ {m:Mem}{v w:j6}{xs ys:List Int}(hv:cO m v xs)(hw:cO m w ys)(hb:xs.length<1000)(n fu:Nat)(hfu:1000≤fu):
  G9 KW fu (n+1) (.func 34) [v,w] m=some [⟨.bool (decide (xs=ys)),m⟩]:=by
 rw [enter (sf:=f34) rfl rfl]
 have l1:=hv.len
 have l2:=hw.len
 by_cases hxy:ys.length=xs.length
 ·obtain⟨x,k,b4,b5,g1,g2⟩:=Pk hv hw hxy (by omega) (G9 KW fu n) fu (.bool false) xs.length 0 (by omega) fu (by omega) .undef .undef
  have g2:x=if xs=ys then aX.exit 0 else .ret:=g2
  by_cases he:xs=ys
  ·rw [if_pos he] at g2
   subst g2
   simp [G5,f34,trD,J4,l1,l2,hxy,he] at g1 ⊢
   simp [g1]
  ·rw [if_neg he] at g2
   subst g2
   simp [G5,f34,trD,J4,l1,l2,hxy,he] at g1 ⊢
   simp [g1]
 ·have h1:¬ xs.length=ys.length:=fun h=>hxy h.symm
  have h2:¬ xs=ys:=fun h=>h1 (by rw [h])
  have h3:¬ ((xs.length:Nat):Int)=((ys.length:Nat):Int):=by omega
  simp [G5,f34,trD,J4,l1,l2,h3,h2]
structure bH (m:Mem)(f:Fct)(xa xb xl:List Int):Prop where
 a:cO m f.A xa
 b:cO m f.B xb
 l:cO m f.L xl
 la:xa.length<1000
 lb:xb.length<1000
 ll:xl.length<1000
theorem bH.ext {m m':Mem}(h:Ext m m'){f:Fct}{a b l:List Int}(k:bH m f a b l):bH m' f a b l:=⟨k.a.ext h,k.b.ext h,k.l.ext h,k.la,k.lb,k.ll⟩
theorem bH.same {m:Mem}{f:Fct}{a b l:List Int}(k:bH m f a b l):cu 100 (.agg f.cells) (.agg f.cells)=true:=by
 rw [Bc]
 simp [Fct.cells,Bb,DV,J3,gG k.a,gG k.b,gG k.l]
def qL (f g:Fct)(a b a' b':List Int):Bool:=
 decide (f.cid=g.cid)&&(decide (f.cday=g.cday)&&(decide (f.diff=g.diff)&&(decide (f.err=g.err)&&(decide (f.hlo=g.hlo)&&(decide (f.hhi=g.hhi)&&(decide (a=a')&&decide (b=b')))))))
def Fct.cmp (f:Fct):List j6:=[.int .i64 f.cid,.int .i64 f.cday,f.A,f.B,.int .i64 f.diff,.int .i64 f.err,.int .i64 f.hlo,.int .i64 f.hhi]
@[simp] theorem Fct.ahl (f:Fct):f.cmp.length=8:=id rfl
@[simp] theorem Fct.ahm (f:Fct):(f.cmp.drop 6).take 2=[.int .i64 f.hlo,.int .i64 f.hhi]:=id rfl
@[simp] theorem Fct.V8 (f:Fct):[.int .i64 f.cid,.int .i64 f.cday,f.A,f.B,.int .i64 f.diff,.int .i64 f.err,.int .i64 f.hlo,.int .i64 f.hhi]=f.cmp:=id rfl
@[simp] theorem Fct.k0 (f:Fct)(h:0<f.cmp.length):f.cmp[0]'h=j6.int .i64 f.cid:=id rfl
@[simp] theorem Fct.kk0 (f:Fct):f.cmp[0]?=some (j6.int .i64 f.cid):=id rfl
@[simp] theorem Fct.k1 (f:Fct)(h:1<f.cmp.length):f.cmp[1]'h=j6.int .i64 f.cday:=id rfl
@[simp] theorem Fct.kk1 (f:Fct):f.cmp[1]?=some (j6.int .i64 f.cday):=id rfl
@[simp] theorem Fct.k2 (f:Fct)(h:2<f.cmp.length):f.cmp[2]'h=f.A:=id rfl
@[simp] theorem Fct.kk2 (f:Fct):f.cmp[2]?=some (f.A):=id rfl
@[simp] theorem Fct.k3 (f:Fct)(h:3<f.cmp.length):f.cmp[3]'h=f.B:=id rfl
@[simp] theorem Fct.kk3 (f:Fct):f.cmp[3]?=some (f.B):=id rfl
@[simp] theorem Fct.k4 (f:Fct)(h:4<f.cmp.length):f.cmp[4]'h=j6.int .i64 f.diff:=id rfl
@[simp] theorem Fct.kk4 (f:Fct):f.cmp[4]?=some (j6.int .i64 f.diff):=id rfl
@[simp] theorem Fct.k5 (f:Fct)(h:5<f.cmp.length):f.cmp[5]'h=j6.int .i64 f.err:=id rfl
@[simp] theorem Fct.kk5 (f:Fct):f.cmp[5]?=some (j6.int .i64 f.err):=id rfl
@[simp] theorem Fct.k6 (f:Fct)(h:6<f.cmp.length):f.cmp[6]'h=j6.int .i64 f.hlo:=id rfl
@[simp] theorem Fct.kk6 (f:Fct):f.cmp[6]?=some (j6.int .i64 f.hlo):=id rfl
@[simp] theorem Fct.k7 (f:Fct)(h:7<f.cmp.length):f.cmp[7]'h=j6.int .i64 f.hhi:=id rfl
@[simp] theorem Fct.kk7 (f:Fct):f.cmp[7]?=some (j6.int .i64 f.hhi):=id rfl
theorem Xf {m:Mem}{f g:Fct}{a b l a' b' l':List Int}(hm:m.Ok)(hf:bH m f a b l)(hg:bH m g a' b' l')(n fu:Nat)(hfu:1000≤fu):
  G9 KW fu (n+2) (.func 52) [.agg f.cmp,.agg g.cmp] m=some [⟨.bool (qL f g a b a' b'),ext m [D9 f.cmp,D9 g.cmp]⟩]:=by
 rw [enter (sf:=f52) rfl rfl]
 have hf:=hf.ext (H6 hm [D9 f.cmp,D9 g.cmp])
 have hg:=hg.ext (H6 hm [D9 f.cmp,D9 g.cmp])
 have c1:=IC hf.a hg.a hf.la n fu hfu
 have c2:=IC hf.b hg.b hf.lb n fu hfu
 by_cases h0:f.cid=g.cid
 ·by_cases h1:f.cday=g.cday
  ·by_cases h2:f.diff=g.diff
   ·by_cases h3:f.err=g.err
    ·by_cases h4:f.hlo=g.hlo
     ·by_cases h5:f.hhi=g.hhi
      ·by_cases h6:a=a'
       ·by_cases h7:b=b'
        ·simp [f52,G5,trD,J4,A8,u7,o7,A9,C8,j3 hm,j5 hm,l8 hm,l6 hm,G6,o8,w9,z8,L6,c1,c2,qL,h0,h1,h2,h3,h4,h5,h6,h7]
        ·simp [f52,G5,trD,J4,A8,u7,o7,A9,C8,j3 hm,j5 hm,l8 hm,l6 hm,G6,o8,w9,z8,L6,c1,c2,qL,h0,h1,h2,h3,h4,h5,h6,h7]
       ·simp [f52,G5,trD,J4,A8,u7,o7,A9,C8,j3 hm,j5 hm,l8 hm,l6 hm,G6,o8,w9,z8,L6,c1,c2,qL,h0,h1,h2,h3,h4,h5,h6]
      ·simp [f52,G5,trD,J4,A8,u7,o7,A9,C8,j3 hm,j5 hm,l8 hm,l6 hm,G6,o8,w9,z8,L6,c1,c2,qL,h0,h1,h2,h3,h4,h5]
     ·simp [f52,G5,trD,J4,A8,u7,o7,A9,C8,j3 hm,j5 hm,l8 hm,l6 hm,G6,o8,w9,z8,L6,c1,c2,qL,h0,h1,h2,h3,h4]
    ·simp [f52,G5,trD,J4,A8,u7,o7,A9,C8,j3 hm,j5 hm,l8 hm,l6 hm,G6,o8,w9,z8,L6,c1,c2,qL,h0,h1,h2,h3]
   ·simp [f52,G5,trD,J4,A8,u7,o7,A9,C8,j3 hm,j5 hm,l8 hm,l6 hm,G6,o8,w9,z8,L6,c1,c2,qL,h0,h1,h2]
  ·simp [f52,G5,trD,J4,A8,u7,o7,A9,C8,j3 hm,j5 hm,l8 hm,l6 hm,G6,o8,w9,z8,L6,c1,c2,qL,h0,h1]
 ·simp [f52,G5,trD,J4,A8,u7,o7,A9,C8,j3 hm,j5 hm,l8 hm,l6 hm,G6,o8,w9,z8,L6,c1,c2,qL,h0]
theorem Xg {m:Mem}{f g:Fct}{a b l a' b' l':List Int}(hm:m.Ok)(hf:bH m f a b l)(hg:bH m g a' b' l')(n fu:Nat)(hfu:1000≤fu):
  G9 KW fu (n+2) (.func 45) [.agg f.cmp,.agg g.cmp] m=some [⟨.bool (qL f g a b a' b'),ext m [D9 f.cmp,D9 g.cmp]⟩]:=by
 rw [enter (sf:=f45) rfl rfl]
 have hf:=hf.ext (H6 hm [D9 f.cmp,D9 g.cmp])
 have hg:=hg.ext (H6 hm [D9 f.cmp,D9 g.cmp])
 have c1:=IJ hf.a hg.a hf.la n fu hfu
 have c2:=IJ hf.b hg.b hf.lb n fu hfu
 by_cases h0:a=a'
 ·by_cases h1:b=b'
  ·by_cases h2:f.cid=g.cid
   ·by_cases h3:f.cday=g.cday
    ·by_cases h4:f.diff=g.diff
     ·by_cases h5:f.err=g.err
      ·by_cases h6:f.hlo=g.hlo
       ·by_cases h7:f.hhi=g.hhi
        ·simp [f45,G5,trD,J4,A8,u7,o7,A9,C8,j3 hm,j5 hm,l8 hm,l6 hm,G6,o8,w9,z8,L6,c1,c2,qL,h0,h1,h2,h3,h4,h5,h6,h7]
        ·simp [f45,G5,trD,J4,A8,u7,o7,A9,C8,j3 hm,j5 hm,l8 hm,l6 hm,G6,o8,w9,z8,L6,c1,c2,qL,h0,h1,h2,h3,h4,h5,h6,h7]
       ·simp [f45,G5,trD,J4,A8,u7,o7,A9,C8,j3 hm,j5 hm,l8 hm,l6 hm,G6,o8,w9,z8,L6,c1,c2,qL,h0,h1,h2,h3,h4,h5,h6]
      ·simp [f45,G5,trD,J4,A8,u7,o7,A9,C8,j3 hm,j5 hm,l8 hm,l6 hm,G6,o8,w9,z8,L6,c1,c2,qL,h0,h1,h2,h3,h4,h5]
     ·simp [f45,G5,trD,J4,A8,u7,o7,A9,C8,j3 hm,j5 hm,l8 hm,l6 hm,G6,o8,w9,z8,L6,c1,c2,qL,h0,h1,h2,h3,h4]
    ·simp [f45,G5,trD,J4,A8,u7,o7,A9,C8,j3 hm,j5 hm,l8 hm,l6 hm,G6,o8,w9,z8,L6,c1,c2,qL,h0,h1,h2,h3]
   ·simp [f45,G5,trD,J4,A8,u7,o7,A9,C8,j3 hm,j5 hm,l8 hm,l6 hm,G6,o8,w9,z8,L6,c1,c2,qL,h0,h1,h2]
  ·simp [f45,G5,trD,J4,A8,u7,o7,A9,C8,j3 hm,j5 hm,l8 hm,l6 hm,G6,o8,w9,z8,L6,c1,c2,qL,h0,h1]
 ·simp [f45,G5,trD,J4,A8,u7,o7,A9,C8,j3 hm,j5 hm,l8 hm,l6 hm,G6,o8,w9,z8,L6,c1,c2,qL,h0]
end Go.Proofs.YtfnlnpllpfhhnaaGreatDoor.TT
namespace Go.Proofs.YtfnlnpllpfhhnaaGreatDoor.TT
open Go Go.AM
set_option linter.unusedSimpArgs false
set_option linter.unusedVariables false
set_option maxRecDepth 100000
set_option maxHeartbeats 2000000
def aU (f g:Fct):Bool:=(decide (f.room=g.room)&&decide (f.no=g.no))&&(decide (f.known=g.known)&&(decide (f.kind=g.kind)&&((decide (f.flo=g.flo)&&decide (f.fhi=g.fhi))&&((decide (f.gid=g.gid)&&(decide (f.made=g.made)&&(decide (f.nom=g.nom)&&(decide (f.tlo=g.tlo)&&(decide (f.thi=g.thi)&&(decide (f.gn=g.gn)&&(decide (f.gd=g.gd)&&decide (f.wear=g.wear))))))))&&((decide (f.ug=g.ug)&&decide (f.ud=g.ud))&&((decide (f.lg=g.lg)&&(decide (f.ll=g.ll)&&(decide (f.lh=g.lh)&&decide (f.lw=g.lw))))&&((decide (f.tr=g.tr)&&decide (f.tn=g.tn)))))))))
def aC (f g:Fct)(a b l a' b' l':List Int):Bool:=aU f g&&(qL f g a b a' b'&&(decide (f.mday=g.mday)&&decide (l=l')))
noncomputable def Fct.nm (f:Fct):Blk:=D9 [.int .i64 f.room,.int .i64 f.no]
theorem rV {m:Mem}{f g:Fct}{a b l a' b' l':List Int}(hm:m.Ok)(hl:m.lim≤m.next)(hf:bH m f a b l)(hg:bH m g a' b' l')(n fu:Nat)(hfu:1000≤fu):
  G9 KW fu (n+3) (.func 19) [.agg f.cells,.agg g.cells] m=some [⟨.bool (aC f g a b l a' b' l'),ext m ([D9 f.cells,D9 g.cells,D9 f.cells,f.nm,D9 g.cells,g.nm]++(bif aU f g then [D9 f.cmp,D9 g.cmp] else []))⟩]:=by
 rw [enter (sf:=f19) rfl rfl]
 have s1:=hf.same
 have s2:=hg.same
 have c1:=Iz (n+1) fu f (ext m [D9 f.cells,D9 g.cells]) (K7 hm _) (by simp;omega)
 have c2:=Iz (n+1) fu g (ext m [D9 f.cells,D9 g.cells,D9 f.cells,f.nm]) (K7 hm _) (by simp;omega)
 have hf2:=hf.ext (H6 hm [D9 f.cells,D9 g.cells,D9 f.cells,f.nm,D9 g.cells,g.nm])
 have hg2:=hg.ext (H6 hm [D9 f.cells,D9 g.cells,D9 f.cells,f.nm,D9 g.cells,g.nm])
 have c3:=Xf (K7 hm _) hf2 hg2 n fu hfu
 have hf3:=hf.ext (H6 hm [D9 f.cells,D9 g.cells,D9 f.cells,f.nm,D9 g.cells,g.nm,D9 f.cmp,D9 g.cmp])
 have hg3:=hg.ext (H6 hm [D9 f.cells,D9 g.cells,D9 f.cells,f.nm,D9 g.cells,g.nm,D9 f.cmp,D9 g.cmp])
 have c4:=IC hf3.l hg3.l hf.ll (n+1) fu hfu
 simp only [Fct.nm] at c1 c2 c3 c4 ⊢
 cases h0:(decide (f.room=g.room)&&decide (f.no=g.no)) with
 | true=>
  cases h1:decide (f.known=g.known) with
  | true=>
   cases h2:decide (f.kind=g.kind) with
   | true=>
    cases h3:(decide (f.flo=g.flo)&&decide (f.fhi=g.fhi)) with
    | true=>
     cases h4:(decide (f.gid=g.gid)&&(decide (f.made=g.made)&&(decide (f.nom=g.nom)&&(decide (f.tlo=g.tlo)&&(decide (f.thi=g.thi)&&(decide (f.gn=g.gn)&&(decide (f.gd=g.gd)&&decide (f.wear=g.wear)))))))) with
     | true=>
      cases h5:(decide (f.ug=g.ug)&&decide (f.ud=g.ud)) with
      | true=>
       cases h6:(decide (f.lg=g.lg)&&(decide (f.ll=g.ll)&&(decide (f.lh=g.lh)&&decide (f.lw=g.lw)))) with
       | true=>
        cases h7:(decide (f.tr=g.tr)&&decide (f.tn=g.tn)) with
        | true=>
         cases h8:qL f g a b a' b' with
         | true=>
          cases h9:decide (f.mday=g.mday) with
          | true=>
           cases h10:decide (l=l') with
           | true=>
            simp [f19,G5,trD,J4,A8,u7,o7,A9,C8,j3 hm,j5 hm,l8 hm,l6 hm,G6,o8,w9,z8,L6,c1,c2,c3,c4,s1,s2,aC,aU,h0,h1,h2,h3,h4,h5,h6,h7,h8,h9,h10]
           | false=>simp [f19,G5,trD,J4,A8,u7,o7,A9,C8,j3 hm,j5 hm,l8 hm,l6 hm,G6,o8,w9,z8,L6,c1,c2,c3,c4,s1,s2,aC,aU,h0,h1,h2,h3,h4,h5,h6,h7,h8,h9,h10]
          | false=>simp [f19,G5,trD,J4,A8,u7,o7,A9,C8,j3 hm,j5 hm,l8 hm,l6 hm,G6,o8,w9,z8,L6,c1,c2,c3,c4,s1,s2,aC,aU,h0,h1,h2,h3,h4,h5,h6,h7,h8,h9]
         | false=>simp [f19,G5,trD,J4,A8,u7,o7,A9,C8,j3 hm,j5 hm,l8 hm,l6 hm,G6,o8,w9,z8,L6,c1,c2,c3,c4,s1,s2,aC,aU,h0,h1,h2,h3,h4,h5,h6,h7,h8]
        | false=>simp [f19,G5,trD,J4,A8,u7,o7,A9,C8,j3 hm,j5 hm,l8 hm,l6 hm,G6,o8,w9,z8,L6,c1,c2,c3,c4,s1,s2,aC,aU,h0,h1,h2,h3,h4,h5,h6,h7]
       | false=>simp [f19,G5,trD,J4,A8,u7,o7,A9,C8,j3 hm,j5 hm,l8 hm,l6 hm,G6,o8,w9,z8,L6,c1,c2,c3,c4,s1,s2,aC,aU,h0,h1,h2,h3,h4,h5,h6]
      | false=>simp [f19,G5,trD,J4,A8,u7,o7,A9,C8,j3 hm,j5 hm,l8 hm,l6 hm,G6,o8,w9,z8,L6,c1,c2,c3,c4,s1,s2,aC,aU,h0,h1,h2,h3,h4,h5]
     | false=>simp [f19,G5,trD,J4,A8,u7,o7,A9,C8,j3 hm,j5 hm,l8 hm,l6 hm,G6,o8,w9,z8,L6,c1,c2,c3,c4,s1,s2,aC,aU,h0,h1,h2,h3,h4]
    | false=>simp [f19,G5,trD,J4,A8,u7,o7,A9,C8,j3 hm,j5 hm,l8 hm,l6 hm,G6,o8,w9,z8,L6,c1,c2,c3,c4,s1,s2,aC,aU,h0,h1,h2,h3]
   | false=>simp [f19,G5,trD,J4,A8,u7,o7,A9,C8,j3 hm,j5 hm,l8 hm,l6 hm,G6,o8,w9,z8,L6,c1,c2,c3,c4,s1,s2,aC,aU,h0,h1,h2]
  | false=>simp [f19,G5,trD,J4,A8,u7,o7,A9,C8,j3 hm,j5 hm,l8 hm,l6 hm,G6,o8,w9,z8,L6,c1,c2,c3,c4,s1,s2,aC,aU,h0,h1]
 | false=>simp [f19,G5,trD,J4,A8,u7,o7,A9,C8,j3 hm,j5 hm,l8 hm,l6 hm,G6,o8,w9,z8,L6,c1,c2,c3,c4,s1,s2,aC,aU,h0]
end Go.Proofs.YtfnlnpllpfhhnaaGreatDoor.TT
namespace Go.Proofs.YtfnlnpllpfhhnaaGreatDoor.TT
open Go Go.AM
set_option linter.unusedSimpArgs false
set_option linter.unusedVariables false
set_option maxRecDepth 100000
set_option maxHeartbeats 2000000
theorem Xh {m:Mem}{f g:Fct}{a b l a' b' l':List Int}(hm:m.Ok)(hf:bH m f a b l)(hg:bH m g a' b' l')(n fu:Nat)(hfu:1000≤fu):
  G9 KW fu (n+3) (.func 13) [.agg f.cells,.agg g.cells] m=some [⟨.bool (aC f g a b l a' b' l'),ext m [D9 f.cells,D9 g.cells,D9 f.cmp,D9 g.cmp]⟩]:=by
 rw [enter (sf:=f13) rfl rfl]
 have hf2:=hf.ext (H6 hm [D9 f.cells,D9 g.cells])
 have hg2:=hg.ext (H6 hm [D9 f.cells,D9 g.cells])
 have c3:=Xg (K7 hm _) hf2 hg2 n fu hfu
 have hf3:=hf.ext (H6 hm [D9 f.cells,D9 g.cells,D9 f.cmp,D9 g.cmp])
 have hg3:=hg.ext (H6 hm [D9 f.cells,D9 g.cells,D9 f.cmp,D9 g.cmp])
 have c4:=IJ hf3.l hg3.l hf.ll (n+1) fu hfu
 cases h0:decide (f.room=g.room) with
 | true=>
  cases h1:decide (f.no=g.no) with
  | true=>
   cases h2:decide (f.known=g.known) with
   | true=>
    cases h3:decide (f.kind=g.kind) with
    | true=>
     cases h4:(decide (f.flo=g.flo)&&decide (f.fhi=g.fhi)) with
     | true=>
      cases h5:(decide (f.gid=g.gid)&&(decide (f.made=g.made)&&(decide (f.nom=g.nom)&&(decide (f.tlo=g.tlo)&&(decide (f.thi=g.thi)&&(decide (f.gn=g.gn)&&(decide (f.gd=g.gd)&&decide (f.wear=g.wear)))))))) with
      | true=>
       cases h6:(decide (f.ug=g.ug)&&decide (f.ud=g.ud)) with
       | true=>
        cases h7:(decide (f.lg=g.lg)&&(decide (f.ll=g.ll)&&(decide (f.lh=g.lh)&&decide (f.lw=g.lw)))) with
        | true=>
         cases h8:qL f g a b a' b' with
         | true=>
          cases h9:decide (f.mday=g.mday) with
          | true=>
           cases h10:decide (l=l') with
           | true=>
            cases h11:(decide (f.tr=g.tr)&&decide (f.tn=g.tn)) with
            | true=>
             simp [f13,G5,trD,J4,A8,u7,o7,A9,C8,j3 hm,j5 hm,l8 hm,l6 hm,G6,o8,w9,z8,L6,c3,c4,aC,aU,h0,h1,h2,h3,h4,h5,h6,h7,h8,h9,h10,h11]
            | false=>simp [f13,G5,trD,J4,A8,u7,o7,A9,C8,j3 hm,j5 hm,l8 hm,l6 hm,G6,o8,w9,z8,L6,c3,c4,aC,aU,h0,h1,h2,h3,h4,h5,h6,h7,h8,h9,h10,h11]
           | false=>simp [f13,G5,trD,J4,A8,u7,o7,A9,C8,j3 hm,j5 hm,l8 hm,l6 hm,G6,o8,w9,z8,L6,c3,c4,aC,aU,h0,h1,h2,h3,h4,h5,h6,h7,h8,h9,h10]
          | false=>simp [f13,G5,trD,J4,A8,u7,o7,A9,C8,j3 hm,j5 hm,l8 hm,l6 hm,G6,o8,w9,z8,L6,c3,c4,aC,aU,h0,h1,h2,h3,h4,h5,h6,h7,h8,h9]
         | false=>simp [f13,G5,trD,J4,A8,u7,o7,A9,C8,j3 hm,j5 hm,l8 hm,l6 hm,G6,o8,w9,z8,L6,c3,c4,aC,aU,h0,h1,h2,h3,h4,h5,h6,h7,h8]
        | false=>simp [f13,G5,trD,J4,A8,u7,o7,A9,C8,j3 hm,j5 hm,l8 hm,l6 hm,G6,o8,w9,z8,L6,c3,c4,aC,aU,h0,h1,h2,h3,h4,h5,h6,h7]
       | false=>simp [f13,G5,trD,J4,A8,u7,o7,A9,C8,j3 hm,j5 hm,l8 hm,l6 hm,G6,o8,w9,z8,L6,c3,c4,aC,aU,h0,h1,h2,h3,h4,h5,h6]
      | false=>simp [f13,G5,trD,J4,A8,u7,o7,A9,C8,j3 hm,j5 hm,l8 hm,l6 hm,G6,o8,w9,z8,L6,c3,c4,aC,aU,h0,h1,h2,h3,h4,h5]
     | false=>simp [f13,G5,trD,J4,A8,u7,o7,A9,C8,j3 hm,j5 hm,l8 hm,l6 hm,G6,o8,w9,z8,L6,c3,c4,aC,aU,h0,h1,h2,h3,h4]
    | false=>simp [f13,G5,trD,J4,A8,u7,o7,A9,C8,j3 hm,j5 hm,l8 hm,l6 hm,G6,o8,w9,z8,L6,c3,c4,aC,aU,h0,h1,h2,h3]
   | false=>simp [f13,G5,trD,J4,A8,u7,o7,A9,C8,j3 hm,j5 hm,l8 hm,l6 hm,G6,o8,w9,z8,L6,c3,c4,aC,aU,h0,h1,h2]
  | false=>simp [f13,G5,trD,J4,A8,u7,o7,A9,C8,j3 hm,j5 hm,l8 hm,l6 hm,G6,o8,w9,z8,L6,c3,c4,aC,aU,h0,h1]
 | false=>simp [f13,G5,trD,J4,A8,u7,o7,A9,C8,j3 hm,j5 hm,l8 hm,l6 hm,G6,o8,w9,z8,L6,c3,c4,aC,aU,h0]
def P8 (f:Fct):Fct:={room:=f.room,no:=f.no,known:=f.known,kind:=f.kind,flo:=0,fhi:=0,gid:=0,made:=0,nom:=0,tlo:=0,thi:=0,gn:=0,gd:=0,wear:=0,ug:=0,ud:=0,lg:=0,ll:=0,lh:=0,lw:=0,cid:=0,cday:=0,A:=.nilSlice,B:=.nilSlice,diff:=0,err:=0,hlo:=0,hhi:=0,mday:=0,L:=.nilSlice,tr:=0,tn:=0}
def P9 (f:Fct):Fct:=if f.kind=1 then {P8 f with flo:=f.flo,fhi:=f.fhi} else if f.kind=2 then {P8 f with gid:=f.gid,made:=f.made,nom:=f.nom,tlo:=f.tlo,thi:=f.thi,gn:=f.gn,gd:=f.gd,wear:=f.wear} else if f.kind=3 then {P8 f with ug:=f.ug,ud:=f.ud} else if f.kind=4 then {P8 f with lg:=f.lg,ll:=f.ll,lh:=f.lh,lw:=f.lw} else if f.kind=5 then {P8 f with cid:=f.cid,cday:=f.cday,A:=f.A,B:=f.B,diff:=f.diff,err:=f.err,hlo:=f.hlo,hhi:=f.hhi} else if f.kind=6 then {P8 f with mday:=f.mday,L:=f.L} else if f.kind=7 then {P8 f with tr:=f.tr,tn:=f.tn} else P8 f
theorem nU {m:Mem}{f:Fct}{a b l:List Int}(hf:bH m f a b l):bH m (P9 f) (if f.kind=5 then a else []) (if f.kind=5 then b else []) (if f.kind=6 then l else []):=by
 have hn:cO m .nilSlice []:=.inl ⟨rfl,rfl⟩
 by_cases h5:f.kind=5
 ·refine⟨?_,?_,?_,?_,?_,?_⟩<;>simp [P9,h5,P8,hf.a,hf.b,hf.la,hf.lb,hn]
 ·by_cases h6:f.kind=6
  ·refine⟨?_,?_,?_,?_,?_,?_⟩<;>simp [P9,h6,P8,hf.l,hf.ll,hn]
  ·have e:(P9 f).A=.nilSlice∧(P9 f).B=.nilSlice∧(P9 f).L=.nilSlice:=by
    unfold P9
    simp only [h5,h6,if_false]
    repeat' split
    all_goals exact⟨rfl,rfl,rfl⟩
   simp only [h5,h6,if_false]
   exact⟨by rw [e.1];exact hn,by rw [e.2.1];exact hn,by rw [e.2.2];exact hn,by simp,by simp,by simp⟩
end Go.Proofs.YtfnlnpllpfhhnaaGreatDoor.TT
namespace Go.Proofs.YtfnlnpllpfhhnaaGreatDoor.TT
open Go Go.AM
set_option linter.unusedSimpArgs false
set_option linter.unusedVariables false
set_option maxRecDepth 100000
set_option maxHeartbeats 2000000
def uU (xs:List Int):Bool:=Y0 (okB xs) xs.length 0&&decide (xs.length≤6)
def Fh (f:Fct):Bool:=(decide (0≤f.flo)&&decide (f.flo≤f.fhi)&&decide (f.fhi≤1000000))
def Uo (f:Fct):Bool:=(decide (1≤f.ug)&&decide (f.ug≤1099511627776))&&(decide (0≤f.ud)&&decide (f.ud≤20000))
def uV (f:Fct):Bool:=(decide (1≤f.lg)&&decide (f.lg≤1099511627776))&&((decide (0≤f.ll)&&decide (f.ll≤f.lh)&&decide (f.lh≤20000))&&(decide (0≤f.lw)&&decide (f.lw≤1048576)))
def fK (f:Fct)(a b:List Int):Bool:=decide (f.cid=0)&&((decide (0≤f.cday)&&decide (f.cday≤20000))&&((decide (-1125899906842624≤f.diff)&&decide (f.diff≤1125899906842624))&&((decide (0≤f.err)&&decide (f.err≤1073741824))&&((decide (-10000≤f.hlo)&&decide (f.hlo≤f.hhi)&&decide (f.hhi≤10000))&&(uU a&&uU b)))))
def MX (f:Fct)(l:List Int):Bool:=Y0 (okB l) l.length 0&&((decide (0≤f.mday)&&decide (f.mday≤19999))&&(decide (2≤l.length)&&decide (l.length≤5)))
def wdB (f:Fct):Bool:=(decide (1≤f.tr)&&decide (f.tr≤6))&&((decide (1≤f.tn)&&decide (f.tn≤60)) && !(decide (f.tr=f.room)&&decide (f.tn=f.no)))
theorem Pm (n fu:Nat)(f:Fct)(m:Mem)(hm:m.Ok)(hl:m.lim≤m.next):∃m',G9 KW fu (n+3) (.func 137) [.agg f.cells] m=some [⟨.bool (uV f),m'⟩]∧Ext m m':=by
 rw [enter (sf:=f137) rfl rfl]
 have c1:=CX (n+1) fu f.ll f.lh 0 20000 (ext m [D9 f.cells]) (K7 hm _)
 cases h0:(decide (1≤f.lg)&&decide (f.lg≤1099511627776)) with
 | true=>
  cases h1:(decide (0≤f.ll)&&decide (f.ll≤f.lh)&&decide (f.lh≤20000)) with
  | true=>
   cases h2:(decide (0≤f.lw)&&decide (f.lw≤1048576)) with
   | true=>
    exact⟨ext m [D9 f.cells,D9 [.int .i64 f.ll,.int .i64 f.lh]],by simp [f137,G5,trD,J4,A8,u7,o7,A9,C8,j3 hm,j5 hm,l8 hm,l6 hm,G6,o8,w9,z8,L6,jk,O4,c1,uV,h0,h1,h2],H6 hm _⟩
   | false=>exact⟨ext m [D9 f.cells,D9 [.int .i64 f.ll,.int .i64 f.lh]],by simp [f137,G5,trD,J4,A8,u7,o7,A9,C8,j3 hm,j5 hm,l8 hm,l6 hm,G6,o8,w9,z8,L6,jk,O4,c1,uV,h0,h1,h2],H6 hm _⟩
  | false=>exact⟨ext m [D9 f.cells,D9 [.int .i64 f.ll,.int .i64 f.lh]],by simp [f137,G5,trD,J4,A8,u7,o7,A9,C8,j3 hm,j5 hm,l8 hm,l6 hm,G6,o8,w9,z8,L6,jk,O4,c1,uV,h0,h1],H6 hm _⟩
 | false=>exact⟨ext m [D9 f.cells],by simp [f137,G5,trD,J4,A8,u7,o7,A9,C8,j3 hm,j5 hm,l8 hm,l6 hm,G6,o8,w9,z8,L6,jk,O4,c1,uV,h0],H6 hm _⟩
theorem Pn {m:Mem}{f:Fct}{a b l:List Int}(hm:m.Ok)(hl:m.lim≤m.next)(hf:bH m f a b l)(n fu:Nat)(hfu:1000≤fu):
  ∃m',G9 KW fu (n+9) (.func 140) [.agg f.cmp] m=some [⟨.bool (fK f a b),m'⟩]∧Ext m m':=by
 rw [enter (sf:=f140) rfl rfl]
 have c1:=CX (n+7) fu f.hlo f.hhi (-10000) 10000 (ext m [D9 f.cmp]) (K7 hm _)
 have E2:=H6 hm [D9 f.cmp,D9 [.int .i64 f.hlo,.int .i64 f.hhi]]
 obtain⟨m3,g3,E3⟩:=II (K7 hm _) (by simp;omega) (hf.a.ext E2) hf.la n fu hfu
 have q3:m3.get m.next=some (D9 f.cmp):=by rw [E3.old _ (by simp),j3 hm];rfl
 have E23:=E2.trans E3
 obtain⟨m4,g4,E4⟩:=II (m:=m3) E3.ok (by have h1:=E23.lim;have h2:=E23.next;omega) (hf.b.ext E23) hf.lb n fu hfu
 cases h0:decide (f.cid=0) with
 | true=>
  cases h1:(decide (0≤f.cday)&&decide (f.cday≤20000)) with
  | true=>
   cases h2:(decide (-1125899906842624≤f.diff)&&decide (f.diff≤1125899906842624)) with
   | true=>
    cases h3:(decide (0≤f.err)&&decide (f.err≤1073741824)) with
    | true=>
     cases h4:(decide (-10000≤f.hlo)&&decide (f.hlo≤f.hhi)&&decide (f.hhi≤10000)) with
     | true=>
      cases h5:Y0 (okB a) a.length 0&&decide (a.length≤6) with
      | true=>
       cases h6:Y0 (okB b) b.length 0&&decide (b.length≤6) with
       | true=>
        exact⟨m4,by rw [h5] at g3;rw [h6] at g4;simp [f140,G5,trD,J4,A8,u7,o7,A9,C8,j3 hm,j5 hm,l8 hm,l6 hm,G6,o8,w9,z8,L6,O4,c1,g3,q3,g4,fK,uU,h0,h1,h2,h3,h4,h5,h6],E23.trans E4⟩
       | false=>exact⟨m4,by rw [h5] at g3;rw [h6] at g4;simp [f140,G5,trD,J4,A8,u7,o7,A9,C8,j3 hm,j5 hm,l8 hm,l6 hm,G6,o8,w9,z8,L6,O4,c1,g3,q3,g4,fK,uU,h0,h1,h2,h3,h4,h5,h6],E23.trans E4⟩
      | false=>exact⟨m3,by rw [h5] at g3;simp [f140,G5,trD,J4,A8,u7,o7,A9,C8,j3 hm,j5 hm,l8 hm,l6 hm,G6,o8,w9,z8,L6,O4,c1,g3,q3,fK,uU,h0,h1,h2,h3,h4,h5],E23⟩
     | false=>exact⟨ext m [D9 f.cmp,D9 [.int .i64 f.hlo,.int .i64 f.hhi]],by simp [f140,G5,trD,J4,A8,u7,o7,A9,C8,j3 hm,j5 hm,l8 hm,l6 hm,G6,o8,w9,z8,L6,O4,c1,fK,uU,h0,h1,h2,h3,h4],H6 hm _⟩
    | false=>exact⟨ext m [D9 f.cmp],by simp [f140,G5,trD,J4,A8,u7,o7,A9,C8,j3 hm,j5 hm,l8 hm,l6 hm,G6,o8,w9,z8,L6,O4,c1,fK,uU,h0,h1,h2,h3],H6 hm _⟩
   | false=>exact⟨ext m [D9 f.cmp],by simp [f140,G5,trD,J4,A8,u7,o7,A9,C8,j3 hm,j5 hm,l8 hm,l6 hm,G6,o8,w9,z8,L6,O4,c1,fK,uU,h0,h1,h2],H6 hm _⟩
  | false=>exact⟨ext m [D9 f.cmp],by simp [f140,G5,trD,J4,A8,u7,o7,A9,C8,j3 hm,j5 hm,l8 hm,l6 hm,G6,o8,w9,z8,L6,O4,c1,fK,uU,h0,h1],H6 hm _⟩
 | false=>exact⟨ext m [D9 f.cmp],by simp [f140,G5,trD,J4,A8,u7,o7,A9,C8,j3 hm,j5 hm,l8 hm,l6 hm,G6,o8,w9,z8,L6,O4,c1,fK,uU,h0],H6 hm _⟩
theorem Po {m:Mem}{f:Fct}{a b l:List Int}(hm:m.Ok)(hl:m.lim≤m.next)(hf:bH m f a b l)(n fu:Nat)(hfu:1000≤fu):
  ∃m',G9 KW fu (n+10) (.func 139) [.agg f.cells] m=some [⟨.bool (fK f a b),m'⟩]∧Ext m m':=by
 rw [enter (sf:=f139) rfl rfl]
 obtain⟨m3,g3,E3⟩:=Pn (K7 hm [D9 f.cells]) (by simp;omega) (hf.ext (H6 hm _)) n fu hfu
 exact⟨m3,by simp [f139,G5,trD,J4,A8,u7,o7,A9,C8,j3 hm,j5 hm,l8 hm,l6 hm,G6,o8,w9,z8,L6,g3],(H6 hm _).trans E3⟩
theorem Pp {m:Mem}{f:Fct}{a b l:List Int}(hm:m.Ok)(hl:m.lim≤m.next)(hf:bH m f a b l)(n fu:Nat)(hfu:1000≤fu):
  ∃m',G9 KW fu (n+4) (.func 142) [.agg f.cells] m=some [⟨.bool (MX f l),m'⟩]∧Ext m m':=by
 rw [enter (sf:=f142) rfl rfl]
 have g3:=Pf (K7 hm [D9 f.cells]) (day:=f.mday) (hf.l.ext (H6 hm _)) hf.ll n fu hfu
 exact⟨ext m [D9 f.cells,D9 [.int .i64 f.mday,f.L]],by simp [f142,G5,trD,J4,A8,u7,o7,A9,C8,j3 hm,j5 hm,l8 hm,l6 hm,G6,o8,w9,z8,L6,g3,MX],H6 hm _⟩
theorem Pq {m:Mem}{f:Fct}{a b l:List Int}(hm:m.Ok)(hl:m.lim≤m.next)(hf:bH m f a b l)(n fu:Nat):
  ∃m',G9 KW fu (n+2) (.func 145) [.agg f.cells] m=some [⟨.bool (wdB f),m'⟩]∧Ext m m':=by
 rw [enter (sf:=f145) rfl rfl]
 have s1:=hf.same
 have s2:cu 100 (.agg [.int .i64 f.tr,.int .i64 f.tn]) (.agg [.int .i64 f.tr,.int .i64 f.tn])=true:=by
  rw [Bc];simp [Bb,DV,J3]
 have c1:=Iz n fu f (ext m [D9 f.cells]) (K7 hm _) (by simp;omega)
 cases h0:(decide (1≤f.tr)&&decide (f.tr≤6)) with
 | true=>
  cases h1:(decide (1≤f.tn)&&decide (f.tn≤60)) with
  | true=>
   cases h2:(decide (f.tr=f.room)&&decide (f.tn=f.no)) with
   | true=>
    exact⟨ext m [D9 f.cells,D9 f.cells,D9 [.int .i64 f.room,.int .i64 f.no]],by simp [f145,G5,trD,J4,A8,u7,o7,A9,C8,j3 hm,j5 hm,l8 hm,l6 hm,G6,o8,w9,z8,L6,O4,c1,s1,s2,wdB,eq_comm (a:=f.room),eq_comm (a:=f.no),h0,h1,h2],H6 hm _⟩
   | false=>exact⟨ext m [D9 f.cells,D9 f.cells,D9 [.int .i64 f.room,.int .i64 f.no]],by simp [f145,G5,trD,J4,A8,u7,o7,A9,C8,j3 hm,j5 hm,l8 hm,l6 hm,G6,o8,w9,z8,L6,O4,c1,s1,s2,wdB,eq_comm (a:=f.room),eq_comm (a:=f.no),h0,h1,h2],H6 hm _⟩
  | false=>exact⟨ext m [D9 f.cells],by simp [f145,G5,trD,J4,A8,u7,o7,A9,C8,j3 hm,j5 hm,l8 hm,l6 hm,G6,o8,w9,z8,L6,O4,c1,s1,s2,wdB,eq_comm (a:=f.room),eq_comm (a:=f.no),h0,h1],H6 hm _⟩
 | false=>exact⟨ext m [D9 f.cells],by simp [f145,G5,trD,J4,A8,u7,o7,A9,C8,j3 hm,j5 hm,l8 hm,l6 hm,G6,o8,w9,z8,L6,O4,c1,s1,s2,wdB,eq_comm (a:=f.room),eq_comm (a:=f.no),h0],H6 hm _⟩
theorem Pt {m:Mem}{f g:Fct}{a b l:List Int}{p:Nat}(hm:m.Ok)(hl:m.lim≤p)(hp:p<m.next)(hf:bH m f a b l)(hg:m.get p=some (D9 g.cells))(n fu:Nat):
  ∃m',G9 KW fu (n+1) (.func 131) [.ptr p 0,.agg f.cells] m=some [⟨.tuple [],m'⟩]∧m'.Ok∧m'.lim=m.lim∧m.next≤m'.next∧(∀i,i<m.next→i≠p→m'.get i=m.get i)∧m'.get p=some (D9 ({g with flo:=f.flo,fhi:=f.fhi}:Fct).cells):=by
 rw [enter (sf:=f131) rfl rfl]
 have o1:=hf.a.L6
 have o2:=hf.b.L6
 have o3:=hf.l.L6
 have hi:∀i,L6 (.int .i64 i)=true:=fun _=>rfl
 have hg1:(ext m [D9 f.cells]).get p=some (D9 g.cells):=by rw [J2 hm _ hp];exact hg
 have hp1:p<(ext m [D9 f.cells]).next:=by simp;omega
 refine⟨(ext m [D9 f.cells]).set p (D9 ({g with flo:=f.flo,fhi:=f.fhi}:Fct).cells),?_,(K7 hm _).set hp1 _,by simp,by simp,fun i hi hne=>?_,aj (K7 hm _) _ hp1 rfl⟩
 ·simp only [Fct.cells] at hg1 ⊢
  simp [-Fct.V8,f131,G5,trD,J4,A8,u7,o7,A9,C8,j3 hm,j5 hm,l8 hm,l6 hm,G6,o8,w9,z8,Z7,hl,hg1,o1,o2,o3,hi]
 ·rw [bX (K7 hm _) _ hp1 hne,J2 hm _ hi]
theorem Pv {m:Mem}{f g:Fct}{a b l:List Int}{p:Nat}(hm:m.Ok)(hl:m.lim≤p)(hp:p<m.next)(hf:bH m f a b l)(hg:m.get p=some (D9 g.cells))(n fu:Nat):
  ∃m',G9 KW fu (n+1) (.func 133) [.ptr p 0,.agg f.cells] m=some [⟨.tuple [],m'⟩]∧m'.Ok∧m'.lim=m.lim∧m.next≤m'.next∧(∀i,i<m.next→i≠p→m'.get i=m.get i)∧m'.get p=some (D9 ({g with gid:=f.gid,made:=f.made,nom:=f.nom,tlo:=f.tlo,thi:=f.thi,gn:=f.gn,gd:=f.gd,wear:=f.wear}:Fct).cells):=by
 rw [enter (sf:=f133) rfl rfl]
 have o1:=hf.a.L6
 have o2:=hf.b.L6
 have o3:=hf.l.L6
 have hi:∀i,L6 (.int .i64 i)=true:=fun _=>rfl
 have hg1:(ext m [D9 f.cells]).get p=some (D9 g.cells):=by rw [J2 hm _ hp];exact hg
 have hp1:p<(ext m [D9 f.cells]).next:=by simp;omega
 refine⟨(ext m [D9 f.cells]).set p (D9 ({g with gid:=f.gid,made:=f.made,nom:=f.nom,tlo:=f.tlo,thi:=f.thi,gn:=f.gn,gd:=f.gd,wear:=f.wear}:Fct).cells),?_,(K7 hm _).set hp1 _,by simp,by simp,fun i hi hne=>?_,aj (K7 hm _) _ hp1 rfl⟩
 ·simp only [Fct.cells] at hg1 ⊢
  simp [-Fct.V8,f133,G5,trD,J4,A8,u7,o7,A9,C8,j3 hm,j5 hm,l8 hm,l6 hm,G6,o8,w9,z8,Z7,hl,hg1,o1,o2,o3,hi]
 ·rw [bX (K7 hm _) _ hp1 hne,J2 hm _ hi]
theorem Pw {m:Mem}{f g:Fct}{a b l:List Int}{p:Nat}(hm:m.Ok)(hl:m.lim≤p)(hp:p<m.next)(hf:bH m f a b l)(hg:m.get p=some (D9 g.cells))(n fu:Nat):
  ∃m',G9 KW fu (n+1) (.func 136) [.ptr p 0,.agg f.cells] m=some [⟨.tuple [],m'⟩]∧m'.Ok∧m'.lim=m.lim∧m.next≤m'.next∧(∀i,i<m.next→i≠p→m'.get i=m.get i)∧m'.get p=some (D9 ({g with ug:=f.ug,ud:=f.ud}:Fct).cells):=by
 rw [enter (sf:=f136) rfl rfl]
 have o1:=hf.a.L6
 have o2:=hf.b.L6
 have o3:=hf.l.L6
 have hi:∀i,L6 (.int .i64 i)=true:=fun _=>rfl
 have hg1:(ext m [D9 f.cells]).get p=some (D9 g.cells):=by rw [J2 hm _ hp];exact hg
 have hp1:p<(ext m [D9 f.cells]).next:=by simp;omega
 refine⟨(ext m [D9 f.cells]).set p (D9 ({g with ug:=f.ug,ud:=f.ud}:Fct).cells),?_,(K7 hm _).set hp1 _,by simp,by simp,fun i hi hne=>?_,aj (K7 hm _) _ hp1 rfl⟩
 ·simp only [Fct.cells] at hg1 ⊢
  simp [-Fct.V8,f136,G5,trD,J4,A8,u7,o7,A9,C8,j3 hm,j5 hm,l8 hm,l6 hm,G6,o8,w9,z8,Z7,hl,hg1,o1,o2,o3,hi]
 ·rw [bX (K7 hm _) _ hp1 hne,J2 hm _ hi]
theorem Px {m:Mem}{f g:Fct}{a b l:List Int}{p:Nat}(hm:m.Ok)(hl:m.lim≤p)(hp:p<m.next)(hf:bH m f a b l)(hg:m.get p=some (D9 g.cells))(n fu:Nat):
  ∃m',G9 KW fu (n+1) (.func 138) [.ptr p 0,.agg f.cells] m=some [⟨.tuple [],m'⟩]∧m'.Ok∧m'.lim=m.lim∧m.next≤m'.next∧(∀i,i<m.next→i≠p→m'.get i=m.get i)∧m'.get p=some (D9 ({g with lg:=f.lg,ll:=f.ll,lh:=f.lh,lw:=f.lw}:Fct).cells):=by
 rw [enter (sf:=f138) rfl rfl]
 have o1:=hf.a.L6
 have o2:=hf.b.L6
 have o3:=hf.l.L6
 have hi:∀i,L6 (.int .i64 i)=true:=fun _=>rfl
 have hg1:(ext m [D9 f.cells]).get p=some (D9 g.cells):=by rw [J2 hm _ hp];exact hg
 have hp1:p<(ext m [D9 f.cells]).next:=by simp;omega
 refine⟨(ext m [D9 f.cells]).set p (D9 ({g with lg:=f.lg,ll:=f.ll,lh:=f.lh,lw:=f.lw}:Fct).cells),?_,(K7 hm _).set hp1 _,by simp,by simp,fun i hi hne=>?_,aj (K7 hm _) _ hp1 rfl⟩
 ·simp only [Fct.cells] at hg1 ⊢
  simp [-Fct.V8,f138,G5,trD,J4,A8,u7,o7,A9,C8,j3 hm,j5 hm,l8 hm,l6 hm,G6,o8,w9,z8,Z7,hl,hg1,o1,o2,o3,hi]
 ·rw [bX (K7 hm _) _ hp1 hne,J2 hm _ hi]
theorem Py {m:Mem}{f g:Fct}{a b l:List Int}{p:Nat}(hm:m.Ok)(hl:m.lim≤p)(hp:p<m.next)(hf:bH m f a b l)(hg:m.get p=some (D9 g.cells))(n fu:Nat):
  ∃m',G9 KW fu (n+1) (.func 141) [.ptr p 0,.agg f.cells] m=some [⟨.tuple [],m'⟩]∧m'.Ok∧m'.lim=m.lim∧m.next≤m'.next∧(∀i,i<m.next→i≠p→m'.get i=m.get i)∧m'.get p=some (D9 ({g with cid:=f.cid,cday:=f.cday,A:=f.A,B:=f.B,diff:=f.diff,err:=f.err,hlo:=f.hlo,hhi:=f.hhi}:Fct).cells):=by
 rw [enter (sf:=f141) rfl rfl]
 have o1:=hf.a.L6
 have o2:=hf.b.L6
 have o3:=hf.l.L6
 have hi:∀i,L6 (.int .i64 i)=true:=fun _=>rfl
 have hg1:(ext m [D9 f.cells]).get p=some (D9 g.cells):=by rw [J2 hm _ hp];exact hg
 have hp1:p<(ext m [D9 f.cells]).next:=by simp;omega
 refine⟨(ext m [D9 f.cells]).set p (D9 ({g with cid:=f.cid,cday:=f.cday,A:=f.A,B:=f.B,diff:=f.diff,err:=f.err,hlo:=f.hlo,hhi:=f.hhi}:Fct).cells),?_,(K7 hm _).set hp1 _,by simp,by simp,fun i hi hne=>?_,aj (K7 hm _) _ hp1 rfl⟩
 ·simp only [Fct.cells] at hg1 ⊢
  simp [-Fct.V8,f141,G5,trD,J4,A8,u7,o7,A9,C8,j3 hm,j5 hm,l8 hm,l6 hm,G6,o8,w9,z8,Z7,hl,hg1,o1,o2,o3,hi]
 ·rw [bX (K7 hm _) _ hp1 hne,J2 hm _ hi]
theorem Pz {m:Mem}{f g:Fct}{a b l:List Int}{p:Nat}(hm:m.Ok)(hl:m.lim≤p)(hp:p<m.next)(hf:bH m f a b l)(hg:m.get p=some (D9 g.cells))(n fu:Nat):
  ∃m',G9 KW fu (n+1) (.func 144) [.ptr p 0,.agg f.cells] m=some [⟨.tuple [],m'⟩]∧m'.Ok∧m'.lim=m.lim∧m.next≤m'.next∧(∀i,i<m.next→i≠p→m'.get i=m.get i)∧m'.get p=some (D9 ({g with mday:=f.mday,L:=f.L}:Fct).cells):=by
 rw [enter (sf:=f144) rfl rfl]
 have o1:=hf.a.L6
 have o2:=hf.b.L6
 have o3:=hf.l.L6
 have hi:∀i,L6 (.int .i64 i)=true:=fun _=>rfl
 have hg1:(ext m [D9 f.cells]).get p=some (D9 g.cells):=by rw [J2 hm _ hp];exact hg
 have hp1:p<(ext m [D9 f.cells]).next:=by simp;omega
 refine⟨(ext m [D9 f.cells]).set p (D9 ({g with mday:=f.mday,L:=f.L}:Fct).cells),?_,(K7 hm _).set hp1 _,by simp,by simp,fun i hi hne=>?_,aj (K7 hm _) _ hp1 rfl⟩
 ·simp only [Fct.cells] at hg1 ⊢
  simp [-Fct.V8,f144,G5,trD,J4,A8,u7,o7,A9,C8,j3 hm,j5 hm,l8 hm,l6 hm,G6,o8,w9,z8,Z7,hl,hg1,o1,o2,o3,hi]
 ·rw [bX (K7 hm _) _ hp1 hne,J2 hm _ hi]
theorem PD {m:Mem}{f g:Fct}{a b l:List Int}{p:Nat}(hm:m.Ok)(hl:m.lim≤p)(hp:p<m.next)(hf:bH m f a b l)(hg:m.get p=some (D9 g.cells))(n fu:Nat):
  ∃m',G9 KW fu (n+1) (.func 146) [.ptr p 0,.agg f.cells] m=some [⟨.tuple [],m'⟩]∧m'.Ok∧m'.lim=m.lim∧m.next≤m'.next∧(∀i,i<m.next→i≠p→m'.get i=m.get i)∧m'.get p=some (D9 ({g with tr:=f.tr,tn:=f.tn}:Fct).cells):=by
 rw [enter (sf:=f146) rfl rfl]
 have o1:=hf.a.L6
 have o2:=hf.b.L6
 have o3:=hf.l.L6
 have hi:∀i,L6 (.int .i64 i)=true:=fun _=>rfl
 have hg1:(ext m [D9 f.cells]).get p=some (D9 g.cells):=by rw [J2 hm _ hp];exact hg
 have hp1:p<(ext m [D9 f.cells]).next:=by simp;omega
 refine⟨(ext m [D9 f.cells]).set p (D9 ({g with tr:=f.tr,tn:=f.tn}:Fct).cells),?_,(K7 hm _).set hp1 _,by simp,by simp,fun i hi hne=>?_,aj (K7 hm _) _ hp1 rfl⟩
 ·simp only [Fct.cells] at hg1 ⊢
  simp [-Fct.V8,f146,G5,trD,J4,A8,u7,o7,A9,C8,j3 hm,j5 hm,l8 hm,l6 hm,G6,o8,w9,z8,Z7,hl,hg1,o1,o2,o3,hi]
 ·rw [bX (K7 hm _) _ hp1 hne,J2 hm _ hi]
end Go.Proofs.YtfnlnpllpfhhnaaGreatDoor.TT
namespace Go.Proofs.YtfnlnpllpfhhnaaGreatDoor.TT
open Go Go.AM
set_option linter.unusedSimpArgs false
set_option linter.unusedVariables false
set_option maxRecDepth 100000
set_option maxHeartbeats 2000000
theorem La (cf:M6)(fu:Nat)(m:Mem):∀(k a b:Nat),b<2^k→∀(N:Nat),2*k+1≤N→∀(a1:j6),
  ∃ba1,gu (fun env m k=>uT cf fu none env m k) N (.nd (.nd (.nd .e (.int .u64 0) .e) a1 .e) (.int .u64 ((b:Nat):Int)) (.nd .e (.int .u64 ((a:Nat):Int)) .e)) m []=some [⟨.exit 0,(.nd (.nd (.nd .e (.int .u64 0) .e) ba1 .e) (.int .u64 ((0:Nat):Int)) (.nd .e (.int .u64 (((Nat.gcd a b):Nat):Int)) .e)),m,[],none⟩]:=by
 have stop:∀(a N:Nat) (a1:j6),gu (fun env m k=>uT cf fu none env m k) (N+1) (.nd (.nd (.nd .e (.int .u64 0) .e) a1 .e) (.int .u64 ((0:Nat):Int)) (.nd .e (.int .u64 ((a:Nat):Int)) .e)) m []=some [⟨.exit 0,(.nd (.nd (.nd .e (.int .u64 0) .e) (.bool false) .e) (.int .u64 ((0:Nat):Int)) (.nd .e (.int .u64 ((a:Nat):Int)) .e)),m,[],none⟩]:=by
  intro a N a1
  rw [M4]
  simp [uT,G5,trD,J4,A8,u7,o7]
 have step:∀(a b N:Nat) (a1:j6),b≠0→gu (fun env m k=>uT cf fu none env m k) (N+1) (.nd (.nd (.nd .e (.int .u64 0) .e) a1 .e) (.int .u64 ((b:Nat):Int)) (.nd .e (.int .u64 ((a:Nat):Int)) .e)) m []=gu (fun env m k=>uT cf fu none env m k) N (.nd (.nd (.nd .e (.int .u64 0) .e) (.bool true) .e) (.int .u64 (((a%b):Nat):Int)) (.nd .e (.int .u64 ((b:Nat):Int)) .e)) m []:=by
  intro a b N a1 hb
  rw [M4]
  have h1:¬ ((b:Nat):Int)=0:=by omega
  simp [uT,G5,trD,J4,A8,u7,o7,hb,KH _ a b hb]
 intro k
 induction k with
 | zero=>
  intro a b hb N hN a1
  obtain⟨N,rfl⟩:∃M,N=M+1:=⟨N-1,by omega⟩
  have hb0:b=0:=by simpa using hb
  subst hb0
  exact⟨(.bool false),by rw [stop,Nat.gcd_zero_right]⟩
 | succ k ih=>
  intro a b hb N hN a1
  obtain⟨N,rfl⟩:∃M,N=M+2:=⟨N-2,by omega⟩
  by_cases h0:b=0
  ·subst h0
   exact⟨(.bool false),by rw [stop,Nat.gcd_zero_right]⟩
  ·by_cases hc:a%b=0
   ·refine⟨(.bool false),?_⟩
    have e:Nat.gcd a b=b:=by rw [Nat.gcd_comm,Nat.gcd_rec,hc,Nat.gcd_zero_left]
    rw [step _ _ _ _ h0,hc,stop,e]
   ·have h1:a%b<b:=Nat.mod_lt _ (by omega)
    have h2:b%(a%b)<a%b:=Nat.mod_lt _ (by omega)
    have h3:b%(a%b)+a%b≤b:=by
     have:=Nat.div_add_mod b (a%b)
     have h4:1≤b / (a%b):=(Nat.one_le_div_iff (by omega)).2 (by omega)
     have h5:a%b*1≤a%b*(b / (a%b)):=Nat.mul_le_mul_left _ h4
     omega
    have h6:b%(a%b)<2^k:=by rw [Nat.pow_succ] at hb;omega
    obtain⟨ca1,g⟩:=ih (a%b) (b%(a%b)) h6 N (by omega) ((.bool true))
    refine⟨ca1,?_⟩
    rw [step _ _ _ _ h0,step _ _ _ _ hc,g]
    have e:Nat.gcd (a%b) (b%(a%b))=Nat.gcd a b:=by
     rw [Nat.gcd_comm a b,Nat.gcd_rec b a,Nat.gcd_rec (a%b) b,Nat.gcd_comm]
    rw [e]
theorem PE (a b:Nat)(hb:b<2^64)(n fu:Nat)(hfu:1000≤fu)(m:Mem):G9 KW fu (n+1) (.func 452) [.int .u64 a,.int .u64 b] m=some [⟨.int .u64 (Nat.gcd a b:Nat),m⟩]:=by
 rw [enter (sf:=abC) rfl rfl]
 obtain⟨b1,g⟩:=La (G9 KW fu n) fu m 64 a b hb fu (by omega) .undef
 simp [abC,G5,trD,J4,A8,u7,o7] at g ⊢
 simp [g]
theorem wrap_u64 {n:Int}(h:0≤n)(h':n<18446744073709551616):IntKind.u64.wrap n=n:=by
 simp [IntKind.wrap,IntKind.bits,IntKind.signed]
 omega
theorem IK (a:Int)(h:-9223372036854775808≤a)(h':a<9223372036854775808)(n fu:Nat)(m:Mem):G9 KW fu (n+1) (.func 451) [.int .i64 a] m=some [⟨.int .u64 (a.natAbs:Nat),m⟩]:=by
 rw [enter (sf:=Xb) rfl rfl]
 by_cases h0:a<0
 ·have e:mU .u64 (0-mU .u64 a)=((a.natAbs:Nat):Int):=by
   show IntKind.u64.wrap (0-IntKind.u64.wrap a)=_
   simp [IntKind.wrap,IntKind.bits,IntKind.signed]
   omega
  simp only [Int.zero_sub] at e
  simp [Xb,G5,trD,J4,A8,u7,o7,h0,e]
 ·have e:mU .u64 a=((a.natAbs:Nat):Int):=by
   show IntKind.u64.wrap a=_
   rw [wrap_u64 (by omega) (by omega)];omega
  simp [Xb,G5,trD,J4,A8,u7,o7,h0,e]
end Go.Proofs.YtfnlnpllpfhhnaaGreatDoor.TT
namespace Go.Proofs.YtfnlnpllpfhhnaaGreatDoor.TT
open Go Go.AM
set_option linter.unusedSimpArgs false
set_option linter.unusedVariables false
set_option maxRecDepth 100000
set_option maxHeartbeats 2000000
def Lb (a b:Int):Bool:=decide (1≤b)&&(decide (b≤2147483647)&&(decide (((a.natAbs:Nat):Int)≤2147483647)&&decide (Nat.gcd a.natAbs b.natAbs=1)))
def bL (a:Int):Prop:=-9223372036854775808≤a∧a<9223372036854775808
theorem PG (a b:Int)(ha:bL a)(hb:bL b)(n fu:Nat)(hfu:1000≤fu)(m:Mem)(hm:m.Ok):G9 KW fu (n+2) (.func 388) [.agg [.int .i64 a,.int .i64 b]] m=some [⟨.bool (Lb a b),ext m [D9 [.int .i64 a,.int .i64 b]]⟩]:=by
 rw [enter (sf:=MV) rfl rfl]
 have c1:=IK a ha.1 ha.2 n fu
 have c2:=IK b hb.1 hb.2 n fu
 have c3:=PE a.natAbs b.natAbs (by have:=hb.1;have:=hb.2;omega) n fu hfu
 have s1:cu 100 (.int .i64 b) (.int .i64 b)=true:=J3 _ _ _
 have e1:decide (((Nat.gcd a.natAbs b.natAbs:Nat):Int)=1)=decide (Nat.gcd a.natAbs b.natAbs=1):=by rw [Bool.eq_iff_iff];simp;omega
 cases h0:decide (1≤b) with
 | true=>
  cases h1:decide (b≤2147483647) with
  | true=>
   cases h2:decide (((a.natAbs:Nat):Int)≤2147483647) with
   | true=>
    cases h3:decide (Nat.gcd a.natAbs b.natAbs=1) with
    | true=>
     simp [MV,G5,trD,J4,A8,u7,o7,A9,C8,j3 hm,j5 hm,l8 hm,l6 hm,G6,o8,w9,z8,L6,c1,c2,c3,s1,e1,Lb,h0,h1,h2,h3]
    | false=>simp [MV,G5,trD,J4,A8,u7,o7,A9,C8,j3 hm,j5 hm,l8 hm,l6 hm,G6,o8,w9,z8,L6,c1,c2,c3,s1,e1,Lb,h0,h1,h2,h3]
   | false=>simp [MV,G5,trD,J4,A8,u7,o7,A9,C8,j3 hm,j5 hm,l8 hm,l6 hm,G6,o8,w9,z8,L6,c1,c2,c3,s1,e1,Lb,h0,h1,h2]
  | false=>simp [MV,G5,trD,J4,A8,u7,o7,A9,C8,j3 hm,j5 hm,l8 hm,l6 hm,G6,o8,w9,z8,L6,c1,c2,c3,s1,e1,Lb,h0,h1]
 | false=>simp [MV,G5,trD,J4,A8,u7,o7,A9,C8,j3 hm,j5 hm,l8 hm,l6 hm,G6,o8,w9,z8,L6,c1,c2,c3,s1,e1,Lb,h0]
end Go.Proofs.YtfnlnpllpfhhnaaGreatDoor.TT
namespace Go.Proofs.YtfnlnpllpfhhnaaGreatDoor.TT
open Go Go.AM
set_option linter.unusedSimpArgs false
set_option linter.unusedVariables false
set_option maxRecDepth 100000
set_option maxHeartbeats 2000000
def Fct.gau (f:Fct):List j6:=[.int .i64 f.gid,.int .i64 f.made,.int .i64 f.nom,.int .i64 f.tlo,.int .i64 f.thi,.int .i64 f.gn,.int .i64 f.gd,.int .i64 f.wear]
def V6 (f:Fct):Bool:=(Lb f.gn f.gd&&((decide (-1000≤f.gn)&&decide (f.gn≤1000))&&(decide (f.gd≤100)&&((decide (1≤f.gid)&&decide (f.gid≤1099511627776))&&((decide (0≤f.made)&&decide (f.made≤20000))&&((decide (1≤f.nom)&&decide (f.nom≤1125899906842624))&&((decide (-1073741824≤f.tlo)&&decide (f.tlo≤f.thi)&&decide (f.thi≤1073741824))&&(decide (0≤f.wear)&&decide (f.wear≤1048576)))))))))
theorem PI (f:Fct)(ha:bL f.gn)(hb:bL f.gd)(n fu:Nat)(hfu:1000≤fu)(m:Mem)(hm:m.Ok):∃m',G9 KW fu (n+3) (.func 294) [.agg f.gau] m=some [⟨.bool (V6 f),m'⟩]∧Ext m m':=by
 rw [enter (sf:=f294) rfl rfl]
 have c1:=PG f.gn f.gd ha hb n fu hfu (ext m [D9 f.gau]) (K7 hm _)
 have c2:=Iy (n+1) fu f.tlo f.thi (-1073741824) 1073741824 (ext m [D9 f.gau,D9 [.int .i64 f.gn,.int .i64 f.gd]]) (K7 hm _)
 have e1:decide (100<f.gd)=!decide (f.gd≤100):=by rw [Bool.eq_iff_iff];simp
 simp only [Fct.gau] at c1 c2
 cases h0:Lb f.gn f.gd with
 | true=>
  cases h1:(decide (-1000≤f.gn)&&decide (f.gn≤1000)) with
  | true=>
   cases h2:decide (f.gd≤100) with
   | true=>
    cases h3:(decide (1≤f.gid)&&decide (f.gid≤1099511627776)) with
    | true=>
     cases h4:(decide (0≤f.made)&&decide (f.made≤20000)) with
     | true=>
      cases h5:(decide (1≤f.nom)&&decide (f.nom≤1125899906842624)) with
      | true=>
       cases h6:(decide (-1073741824≤f.tlo)&&decide (f.tlo≤f.thi)&&decide (f.thi≤1073741824)) with
       | true=>
        cases h7:(decide (0≤f.wear)&&decide (f.wear≤1048576)) with
        | true=>
         exact⟨ext m [D9 f.gau,D9 [.int .i64 f.gn,.int .i64 f.gd],D9 [.int .i64 f.tlo,.int .i64 f.thi]],by simp [f294,Fct.gau,G5,trD,J4,A8,u7,o7,A9,C8,j3 hm,j5 hm,l8 hm,l6 hm,G6,o8,w9,z8,L6,c1,c2,e1,U6,aD,V6,h0,h1,h2,h3,h4,h5,h6,h7],H6 hm _⟩
        | false=>exact⟨ext m [D9 f.gau,D9 [.int .i64 f.gn,.int .i64 f.gd],D9 [.int .i64 f.tlo,.int .i64 f.thi]],by simp [f294,Fct.gau,G5,trD,J4,A8,u7,o7,A9,C8,j3 hm,j5 hm,l8 hm,l6 hm,G6,o8,w9,z8,L6,c1,c2,e1,U6,aD,V6,h0,h1,h2,h3,h4,h5,h6,h7],H6 hm _⟩
       | false=>exact⟨ext m [D9 f.gau,D9 [.int .i64 f.gn,.int .i64 f.gd],D9 [.int .i64 f.tlo,.int .i64 f.thi]],by simp [f294,Fct.gau,G5,trD,J4,A8,u7,o7,A9,C8,j3 hm,j5 hm,l8 hm,l6 hm,G6,o8,w9,z8,L6,c1,c2,e1,U6,aD,V6,h0,h1,h2,h3,h4,h5,h6],H6 hm _⟩
      | false=>exact⟨ext m [D9 f.gau,D9 [.int .i64 f.gn,.int .i64 f.gd]],by simp [f294,Fct.gau,G5,trD,J4,A8,u7,o7,A9,C8,j3 hm,j5 hm,l8 hm,l6 hm,G6,o8,w9,z8,L6,c1,c2,e1,U6,aD,V6,h0,h1,h2,h3,h4,h5],H6 hm _⟩
     | false=>exact⟨ext m [D9 f.gau,D9 [.int .i64 f.gn,.int .i64 f.gd]],by simp [f294,Fct.gau,G5,trD,J4,A8,u7,o7,A9,C8,j3 hm,j5 hm,l8 hm,l6 hm,G6,o8,w9,z8,L6,c1,c2,e1,U6,aD,V6,h0,h1,h2,h3,h4],H6 hm _⟩
    | false=>exact⟨ext m [D9 f.gau,D9 [.int .i64 f.gn,.int .i64 f.gd]],by simp [f294,Fct.gau,G5,trD,J4,A8,u7,o7,A9,C8,j3 hm,j5 hm,l8 hm,l6 hm,G6,o8,w9,z8,L6,c1,c2,e1,U6,aD,V6,h0,h1,h2,h3],H6 hm _⟩
   | false=>
    cases h3:(decide (1≤f.gid)&&decide (f.gid≤1099511627776)) with
    | true=>
     cases h4:(decide (0≤f.made)&&decide (f.made≤20000)) with
     | true=>
      cases h5:(decide (1≤f.nom)&&decide (f.nom≤1125899906842624)) with
      | true=>
       cases h6:(decide (-1073741824≤f.tlo)&&decide (f.tlo≤f.thi)&&decide (f.thi≤1073741824)) with
       | true=>
        exact⟨ext m [D9 f.gau,D9 [.int .i64 f.gn,.int .i64 f.gd],D9 [.int .i64 f.tlo,.int .i64 f.thi]],by simp [f294,Fct.gau,G5,trD,J4,A8,u7,o7,A9,C8,j3 hm,j5 hm,l8 hm,l6 hm,G6,o8,w9,z8,L6,c1,c2,e1,U6,aD,V6,h0,h1,h2,h3,h4,h5,h6],H6 hm _⟩
       | false=>exact⟨ext m [D9 f.gau,D9 [.int .i64 f.gn,.int .i64 f.gd],D9 [.int .i64 f.tlo,.int .i64 f.thi]],by simp [f294,Fct.gau,G5,trD,J4,A8,u7,o7,A9,C8,j3 hm,j5 hm,l8 hm,l6 hm,G6,o8,w9,z8,L6,c1,c2,e1,U6,aD,V6,h0,h1,h2,h3,h4,h5,h6],H6 hm _⟩
      | false=>exact⟨ext m [D9 f.gau,D9 [.int .i64 f.gn,.int .i64 f.gd]],by simp [f294,Fct.gau,G5,trD,J4,A8,u7,o7,A9,C8,j3 hm,j5 hm,l8 hm,l6 hm,G6,o8,w9,z8,L6,c1,c2,e1,U6,aD,V6,h0,h1,h2,h3,h4,h5],H6 hm _⟩
     | false=>exact⟨ext m [D9 f.gau,D9 [.int .i64 f.gn,.int .i64 f.gd]],by simp [f294,Fct.gau,G5,trD,J4,A8,u7,o7,A9,C8,j3 hm,j5 hm,l8 hm,l6 hm,G6,o8,w9,z8,L6,c1,c2,e1,U6,aD,V6,h0,h1,h2,h3,h4],H6 hm _⟩
    | false=>exact⟨ext m [D9 f.gau,D9 [.int .i64 f.gn,.int .i64 f.gd]],by simp [f294,Fct.gau,G5,trD,J4,A8,u7,o7,A9,C8,j3 hm,j5 hm,l8 hm,l6 hm,G6,o8,w9,z8,L6,c1,c2,e1,U6,aD,V6,h0,h1,h2,h3],H6 hm _⟩
  | false=>
   cases h3:(decide (1≤f.gid)&&decide (f.gid≤1099511627776)) with
   | true=>
    cases h4:(decide (0≤f.made)&&decide (f.made≤20000)) with
    | true=>
     cases h5:(decide (1≤f.nom)&&decide (f.nom≤1125899906842624)) with
     | true=>
      cases h6:(decide (-1073741824≤f.tlo)&&decide (f.tlo≤f.thi)&&decide (f.thi≤1073741824)) with
      | true=>
       exact⟨ext m [D9 f.gau,D9 [.int .i64 f.gn,.int .i64 f.gd],D9 [.int .i64 f.tlo,.int .i64 f.thi]],by simp [f294,Fct.gau,G5,trD,J4,A8,u7,o7,A9,C8,j3 hm,j5 hm,l8 hm,l6 hm,G6,o8,w9,z8,L6,c1,c2,e1,U6,aD,V6,h0,h1,h3,h4,h5,h6],H6 hm _⟩
      | false=>exact⟨ext m [D9 f.gau,D9 [.int .i64 f.gn,.int .i64 f.gd],D9 [.int .i64 f.tlo,.int .i64 f.thi]],by simp [f294,Fct.gau,G5,trD,J4,A8,u7,o7,A9,C8,j3 hm,j5 hm,l8 hm,l6 hm,G6,o8,w9,z8,L6,c1,c2,e1,U6,aD,V6,h0,h1,h3,h4,h5,h6],H6 hm _⟩
     | false=>exact⟨ext m [D9 f.gau,D9 [.int .i64 f.gn,.int .i64 f.gd]],by simp [f294,Fct.gau,G5,trD,J4,A8,u7,o7,A9,C8,j3 hm,j5 hm,l8 hm,l6 hm,G6,o8,w9,z8,L6,c1,c2,e1,U6,aD,V6,h0,h1,h3,h4,h5],H6 hm _⟩
    | false=>exact⟨ext m [D9 f.gau,D9 [.int .i64 f.gn,.int .i64 f.gd]],by simp [f294,Fct.gau,G5,trD,J4,A8,u7,o7,A9,C8,j3 hm,j5 hm,l8 hm,l6 hm,G6,o8,w9,z8,L6,c1,c2,e1,U6,aD,V6,h0,h1,h3,h4],H6 hm _⟩
   | false=>exact⟨ext m [D9 f.gau,D9 [.int .i64 f.gn,.int .i64 f.gd]],by simp [f294,Fct.gau,G5,trD,J4,A8,u7,o7,A9,C8,j3 hm,j5 hm,l8 hm,l6 hm,G6,o8,w9,z8,L6,c1,c2,e1,U6,aD,V6,h0,h1,h3],H6 hm _⟩
 | false=>
  cases h3:(decide (1≤f.gid)&&decide (f.gid≤1099511627776)) with
  | true=>
   cases h4:(decide (0≤f.made)&&decide (f.made≤20000)) with
   | true=>
    cases h5:(decide (1≤f.nom)&&decide (f.nom≤1125899906842624)) with
    | true=>
     cases h6:(decide (-1073741824≤f.tlo)&&decide (f.tlo≤f.thi)&&decide (f.thi≤1073741824)) with
     | true=>
      exact⟨ext m [D9 f.gau,D9 [.int .i64 f.gn,.int .i64 f.gd],D9 [.int .i64 f.tlo,.int .i64 f.thi]],by simp [f294,Fct.gau,G5,trD,J4,A8,u7,o7,A9,C8,j3 hm,j5 hm,l8 hm,l6 hm,G6,o8,w9,z8,L6,c1,c2,e1,U6,aD,V6,h0,h3,h4,h5,h6],H6 hm _⟩
     | false=>exact⟨ext m [D9 f.gau,D9 [.int .i64 f.gn,.int .i64 f.gd],D9 [.int .i64 f.tlo,.int .i64 f.thi]],by simp [f294,Fct.gau,G5,trD,J4,A8,u7,o7,A9,C8,j3 hm,j5 hm,l8 hm,l6 hm,G6,o8,w9,z8,L6,c1,c2,e1,U6,aD,V6,h0,h3,h4,h5,h6],H6 hm _⟩
    | false=>exact⟨ext m [D9 f.gau,D9 [.int .i64 f.gn,.int .i64 f.gd]],by simp [f294,Fct.gau,G5,trD,J4,A8,u7,o7,A9,C8,j3 hm,j5 hm,l8 hm,l6 hm,G6,o8,w9,z8,L6,c1,c2,e1,U6,aD,V6,h0,h3,h4,h5],H6 hm _⟩
   | false=>exact⟨ext m [D9 f.gau,D9 [.int .i64 f.gn,.int .i64 f.gd]],by simp [f294,Fct.gau,G5,trD,J4,A8,u7,o7,A9,C8,j3 hm,j5 hm,l8 hm,l6 hm,G6,o8,w9,z8,L6,c1,c2,e1,U6,aD,V6,h0,h3,h4],H6 hm _⟩
  | false=>exact⟨ext m [D9 f.gau,D9 [.int .i64 f.gn,.int .i64 f.gd]],by simp [f294,Fct.gau,G5,trD,J4,A8,u7,o7,A9,C8,j3 hm,j5 hm,l8 hm,l6 hm,G6,o8,w9,z8,L6,c1,c2,e1,U6,aD,V6,h0,h3],H6 hm _⟩
end Go.Proofs.YtfnlnpllpfhhnaaGreatDoor.TT
namespace Go.Proofs.YtfnlnpllpfhhnaaGreatDoor.TT
open Go Go.AM
set_option linter.unusedSimpArgs false
set_option linter.unusedVariables false
set_option maxRecDepth 100000
set_option maxHeartbeats 2000000
def aF (id:Nat):List j6:=[.int .i64 0,.int .i64 0,.slice id 0 1 1,.nilSlice,.nilSlice,.nilSlice,.nilSlice]
@[simp] theorem ahn (f:Fct):f.gau.length=8:=id rfl
@[simp] theorem aqz (f:Fct):f.gau.take 8=f.gau:=id rfl
@[simp] theorem aqA (f:Fct)(h:0<f.gau.length):f.gau[0]'h=.int .i64 f.gid:=id rfl
@[simp] theorem aqB (f:Fct)(h:1<f.gau.length):f.gau[1]'h=.int .i64 f.made:=id rfl
@[simp] theorem aho (f:Fct):Q7 f.gau=true:=id rfl
@[simp] theorem IL (f:Fct):[j6.int .i64 f.gid,.int .i64 f.made,.int .i64 f.nom,.int .i64 f.tlo,.int .i64 f.thi,.int .i64 f.gn,.int .i64 f.gd,.int .i64 f.wear]=f.gau:=id rfl
theorem PL (f:Fct)(ha:bL f.gn)(hb:bL f.gd)(n fu:Nat)(hfu:1000≤fu)(m:Mem)(hm:m.Ok)(hl:m.lim≤m.next)(id:Nat)(hid:id<m.next)(hg:m.get id=some (D9 f.gau)):
  ∃m',G9 KW fu (n+4) (.func 229) [.agg (aF id)] m=some [⟨.int .i64 (bif V6 f then 0 else 1),m'⟩]∧Ext m m':=by
 rw [enter (sf:=f229) rfl rfl]
 obtain⟨N,rfl⟩:∃N,fu=N+2:=⟨fu-2,by omega⟩
 have hg1:(ext m [D9 (aF id)]).get id=some (D9 f.gau):=by rw [J2 hm _ hid];exact hg
 have hz:D9 [j6.int .i64 0,.int .i64 0,.int .i64 0,.int .i64 0,.int .i64 0,.int .i64 0,.int .i64 0,.int .i64 0]=D9 [j6.int .i64 0,.int .i64 0,.int .i64 0,.int .i64 0,.int .i64 0,.int .i64 0,.int .i64 0,.int .i64 0]:=rfl
 obtain⟨m1,g1,E1⟩:=PI f ha hb n (N+2) hfu (ext m [D9 (aF id),D9 f.gau]) (K7 hm _)
 refine⟨m1,?_,(H6 hm _).trans E1⟩
 simp only [aF] at hg1 g1 ⊢
 cases hgb:V6 f<;>rw [hgb] at g1
 ·simp [f229,Ir,M4,G5,trD,J4,A8,u7,o7,A9,C8,j3 hm,j5 hm,D8 hm hl,o9 hm hl,l8 hm,l6 hm,G6,o8,w9,z8,L6,hg1,g1]
 ·simp [f229,Ir,M4,G5,trD,J4,A8,u7,o7,A9,C8,j3 hm,j5 hm,D8 hm hl,o9 hm hl,l8 hm,l6 hm,G6,o8,w9,z8,L6,hg1,g1,show w64 1=1 from nD (by decide) (by decide)]
theorem PN (f:Fct)(n fu:Nat)(hfu:1000≤fu)(m:Mem)(hm:m.Ok)(hl:m.lim≤m.next)(id:Nat)(hid:id<m.next)(hg:m.get id=some (D9 f.gau)):
  ∃p m',G9 KW fu (n+1) (.func 230) [.agg (aF id)] m=some [⟨.map p,m'⟩]∧Ext m m':=by
 rw [enter (sf:=f230) rfl rfl]
 obtain⟨N,rfl⟩:∃N,fu=N+2:=⟨fu-2,by omega⟩
 have hbl:∀c,Nat.blt (m.next+c) m.lim=false:=fun c=>by have:=Ie hl [] c;rwa [fZ] at this
 have hg1:(ext m [D9 (aF id),.map []]).get id=some (D9 f.gau):=by rw [J2 hm _ hid];exact hg
 refine⟨m.next+1,ext m [D9 (aF id),.map [(.int .i64 f.gid,.agg f.gau)],D9 f.gau],?_,H6 hm _⟩
 simp only [aF] at hg1 ⊢
 simp [f230,MI,M4,G5,trD,J4,A8,u7,o7,A9,C8,j3 hm,j5 hm,D8 hm hl,o9 hm hl,l8 hm,l6 hm,G6,o8,w9,z8,L6,hg1,qJ,hbl,CP,lW,N9,show w64 1=1 from nD (by decide) (by decide)]
theorem PO (n fu:Nat)(m:Mem)(hm:m.Ok)(hl:m.lim≤m.next)(id p:Nat):
  G9 KW fu (n+1) (.func 231) [.agg (aF id),.map p] m=some [⟨.func (.func 298) [] [.ptr m.next 0,.ptr (m.next+2) 0,.ptr (m.next+1) 0],ext m [D9 (aF id),D9 [.map p],D9 [.func (.func 295) [] [.ptr (m.next+1) 0]]]⟩]:=by
 rw [enter (sf:=f231) rfl rfl]
 simp only [aF]
 simp [f231,G5,trD,J4,A8,u7,o7,A9,C8,j3 hm,j5 hm,D8 hm hl,o9 hm hl,l8 hm,l6 hm,G6,o8,w9,z8,L6]
theorem PS (n fu:Nat)(hfu:1000≤fu)(m:Mem)(id p q r:Nat)(y:j6)(hp:m.get p=some (D9 (aF id))):
  G9 KW fu (n+1) (.func 298) [y,.ptr p 0,.ptr q 0,.ptr r 0] m=some [⟨.tuple [],m⟩]:=by
 rw [enter (sf:=f298) rfl rfl]
 obtain⟨N,rfl⟩:∃N,fu=N+2:=⟨fu-2,by omega⟩
 simp only [aF] at hp
 simp [f298,MN,MO,MP,MQ,M4,G5,trD,J4,A8,u7,o7,hp]
end Go.Proofs.YtfnlnpllpfhhnaaGreatDoor.TT
namespace Go.Proofs.YtfnlnpllpfhhnaaGreatDoor.TT
open Go Go.AM
set_option linter.unusedSimpArgs false
set_option linter.unusedVariables false
set_option maxRecDepth 100000
set_option maxHeartbeats 2000000
theorem Xi (n fu:Nat)(m:Mem):G9 KW fu (n+1) (.func 344) [.int .u64 1] m=some [⟨.int .i64 1,m⟩]:=by
 rw [enter (sf:=f344) rfl rfl]
 have h1:mU .u8 1=1:=by decide +kernel
 have h2:mU .i64 1=1:=by decide +kernel
 have h3:w64 1=1:=nD (by decide) (by decide)
 have hs:∀(x:OF) (env:T j6) ls,x ls env=.int .u8 1→wU (O9 (.str [0,1,2,2,3,3,3,3,4,4,4,4,4,4,4,4,5,5,5,5,5,5,5,5,5,5,5,5,5,5,5,5,6,6,6,6,6,6,6,6,6,6,6,6,6,6,6,6,6,6,6,6,6,6,6,6,6,6,6,6,6,6,6,6,7,7,7,7,7,7,7,7,7,7,7,7,7,7,7,7,7,7,7,7,7,7,7,7,7,7,7,7,7,7,7,7,7,7,7,7,7,7,7,7,7,7,7,7,7,7,7,7,7,7,7,7,7,7,7,7,7,7,7,7,7,7,7,7,8,8,8,8,8,8,8,8,8,8,8,8,8,8,8,8,8,8,8,8,8,8,8,8,8,8,8,8,8,8,8,8,8,8,8,8,8,8,8,8,8,8,8,8,8,8,8,8,8,8,8,8,8,8,8,8,8,8,8,8,8,8,8,8,8,8,8,8,8,8,8,8,8,8,8,8,8,8,8,8,8,8,8,8,8,8,8,8,8,8,8,8,8,8,8,8,8,8,8,8,8,8,8,8,8,8,8,8,8,8,8,8,8,8,8,8,8,8,8,8,8,8,8,8,8,8,8,8])) x ls env=some (.int .u8 1):=by
  intro x env ls hx
  show qQ (x ls env) _=_
  rw [hx];rfl
 simp [f344,G5,trD,J4,A8,u7,o7,h1,h2,h3,hs]
theorem Xj (n fu:Nat)(m:Mem):G9 KW fu (n+2) (.func 270) [.int .u64 1] m=some [⟨.int .i64 1,m⟩]:=by
 rw [enter (sf:=f270) rfl rfl]
 simp [f270,G5,trD,J4,A8,u7,o7,Xi]
theorem Xk (v:j6)(n fu:Nat)(hfu:1000≤fu)(m:Mem):G9 KW fu (n+1) (.func 373) [v,.int .i64 0,.int .i64 1] m=some [⟨.tuple [],m⟩]:=by
 rw [enter (sf:=aby) rfl rfl]
 obtain⟨N,rfl⟩:∃N,fu=N+2:=⟨fu-2,by omega⟩
 simp [aby,MU,M4,G5,trD,J4,A8,u7,o7,show w64 1=1 from nD (by decide) (by decide)]
theorem Xl (v:j6)(n fu:Nat)(hfu:1000≤fu)(m:Mem):G9 KW fu (n+2) (.func 288) [v,.int .i64 0,.int .i64 1,.int .i64 1] m=some [⟨.tuple [],m⟩]:=by
 rw [enter (sf:=f288) rfl rfl]
 obtain⟨N,rfl⟩:∃N,fu=N+2:=⟨fu-2,by omega⟩
 have c:=Xk v n (N+2) hfu m
 simp [f288,ML,M4,G5,trD,J4,A8,u7,o7,show w64 1=1 from nD (by decide) (by decide),c]
theorem Xm (id c:Nat)(n fu:Nat)(hfu:1000≤fu)(m:Mem):G9 KW fu (n+3) (.func 217) [.slice id 0 1 c] m=some [⟨.tuple [],m⟩]:=by
 rw [enter (sf:=f217) rfl rfl]
 have c1:=Xl (.slice id 0 1 c) n fu hfu m
 have h1:mU .u64 1=1:=by decide +kernel
 simp [f217,G5,trD,J4,A8,u7,o7,h1,Xj,c1]
theorem Xn (id c:Nat)(n fu:Nat)(hfu:1000≤fu)(m:Mem):G9 KW fu (n+1) (.func 397) [.slice id 0 1 c] m=some [⟨.slice id 0 1 c,m⟩]:=by
 rw [enter (sf:=abB) rfl rfl]
 simp [abB,G5,trD,J4,A8,u7,o7]
theorem PU (f:Fct)(n fu:Nat)(hfu:1000≤fu)(m:Mem)(hm:m.Ok)(hl:m.lim≤m.next)(id:Nat):
  G9 KW fu (n+4) (.func 301) [.agg (aF id),.agg f.gau] m=some [⟨.slice (m.next+2) 0 1 1,ext m [D9 (aF id),D9 f.gau,D9 [.int .i64 f.made]]⟩]:=by
 rw [enter (sf:=f301) rfl rfl]
 obtain⟨N,rfl⟩:∃N,fu=N+2:=⟨fu-2,by omega⟩
 simp only [aF]
 simp [f301,MR,MS,M4,G5,trD,J4,A8,u7,o7,A9,C8,j3 hm,j5 hm,D8 hm hl,o9 hm hl,l8 hm,l6 hm,G6,o8,w9,z8,L6,fD,Xm _ _ n (N+2) hfu,Xn _ _ (n+2) (N+2) hfu]
theorem PV (a b:j6)(m:Mem)(hm:m.Ok)(id:Nat)(hg:m.get id=some (D9 [a,b])):dh m 2 1 (.slice id 0 1 1)=some [a,b]:=by
 show R9 m id 0 (Nat.mul 1 2)=_
 show aK (m.get id) (fun rs k rows=>O5 rs k rows 2 0)=_
 rw [hg];kernel_rfl
theorem Lc (a b:j6)(m:Mem)(hm:m.Ok)(id:Nat)(hg:m.get id=some (D9 [a,b]))(s x:OF)(cf:M6)(ls:List j6)(env:T j6)(hs:s ls env=.nilSlice)(hx:x ls env=.slice id 0 1 1):
  nX 2 16 s x cf ls env m=some [⟨.sliceU m.next 0 1 2,m.new (D9 [a,b])⟩]:=by
 show ob (lenOf (x ls env)) (fun n=>ob (dh m 2 n (x ls env)) fun new=>wX m 2 16 n new (s ls env))=_
 rw [hx,hs]
 show ob (dh m 2 1 (.slice id 0 1 1)) _=_
 rw [PV a b m hm id hg]
 rfl
theorem PW (f:Fct)(n fu:Nat)(hfu:1000≤fu)(m:Mem)(hm:m.Ok)(hl:m.lim≤m.next)(id:Nat)(hid:id<m.next)(hg:m.get id=some (D9 f.gau)):
  ∃p m',G9 KW fu (n+5) (.func 232) [.agg (aF id)] m=some [⟨.sliceU p 0 1 2,m'⟩]∧Ext m m':=by
 rw [enter (sf:=f232) rfl rfl]
 obtain⟨N,rfl⟩:∃N,fu=N+2:=⟨fu-2,by omega⟩
 have hg1:(ext m [D9 (aF id)]).get id=some (D9 f.gau):=by rw [J2 hm _ hid];exact hg
 have c1:=PU f n (N+2) hfu (ext m [D9 (aF id),D9 f.gau]) (K7 hm _) (by simp;omega) id
 have c2:∀(s x:OF) cf ls env,s ls env=.nilSlice→x ls env=.slice (m.next+5) 0 1 1→
   nX 2 16 s x cf ls env (ext m [D9 (aF id),D9 f.gau,D9 (aF id),D9 f.gau,D9 [.int .i64 f.made],D9 [.int .i64 f.gid,.int .i64 f.made]]) =
    some [⟨.sliceU (m.next+6) 0 1 2,ext m [D9 (aF id),D9 f.gau,D9 (aF id),D9 f.gau,D9 [.int .i64 f.made],D9 [.int .i64 f.gid,.int .i64 f.made],D9 [.int .i64 f.gid,.int .i64 f.made]]⟩]:=by
  intro s x cf ls env hs hx
  rw [Lc (.int .i64 f.gid) (.int .i64 f.made) _ (K7 hm _) (m.next+5) (by rw [j5 hm];rfl) s x cf ls env hs hx,← iX]
  simp
 refine⟨m.next+6,ext m [D9 (aF id),D9 f.gau,D9 (aF id),D9 f.gau,D9 [.int .i64 f.made],D9 [.int .i64 f.gid,.int .i64 f.made],D9 [.int .i64 f.gid,.int .i64 f.made]],?_,H6 hm _⟩
 simp only [aF] at hg1 c1 c2 ⊢
 simp [f232,MJ,MK,M4,G5,trD,J4,A8,u7,o7,A9,C8,j3 hm,j5 hm,D8 hm hl,o9 hm hl,l8 hm,l6 hm,G6,o8,w9,z8,L6,fD,Nat.add_assoc,hg1,c1,c2,show w64 1=1 from nD (by decide) (by decide)]
end Go.Proofs.YtfnlnpllpfhhnaaGreatDoor.TT
namespace Go.Proofs.YtfnlnpllpfhhnaaGreatDoor.TT
open Go Go.AM
set_option linter.unusedSimpArgs false
set_option linter.unusedVariables false
set_option maxRecDepth 100000
set_option maxHeartbeats 2000000
theorem PX (f:Fct)(ha:bL f.gn)(hb:bL f.gd)(n fu:Nat)(hfu:1000≤fu)(m:Mem)(hm:m.Ok)(hl:m.lim≤m.next)(id:Nat)(hid:id<m.next)(hg:m.get id=some (D9 f.gau)):
  ∃m',G9 KW fu (n+8) (.func 123) [.agg (aF id)] m=some [⟨.int .i64 (bif V6 f then 0 else 1),m'⟩]∧Ext m m':=by
 rw [enter (sf:=f123) rfl rfl]
 have c161:=Iy (n+6) fu 0 0 0 1000000 (ext m [D9 (aF id),D9 [.int .i64 0]]) (K7 hm _)
 have hg2:(ext m [D9 (aF id),D9 [.int .i64 0],D9 [.int .i64 0,.int .i64 0]]).get id=some (D9 f.gau):=by rw [J2 hm _ hid];exact hg
 have E2:=H6 hm [D9 (aF id),D9 [.int .i64 0],D9 [.int .i64 0,.int .i64 0]]
 obtain⟨m3,g3,E3⟩:=PL f ha hb (n+3) fu hfu _ (K7 hm [D9 (aF id),D9 [.int .i64 0],D9 [.int .i64 0,.int .i64 0]]) (by simp;omega) id (by simp;omega) hg2
 have q3a:m3.get m.next=some (D9 (aF id)):=by rw [E3.old _ (by simp),j3 hm];rfl
 have q3b:m3.get (m.next+1)=some (D9 [.int .i64 0]):=by rw [E3.old _ (by simp),j5 hm];rfl
 have E23:=E2.trans E3
 have l3:m3.lim≤m.next:=by rw [E23.lim];exact hl
 have n3:m.next+3≤m3.next:=by have:=E3.next;simpa using this
 have k3:m3.Ok:=E3.ok
 cases hgb:V6 f with
 | false=>
  rw [hgb] at g3
  refine⟨m3.set (m.next+1) (D9 [.int .i64 1]),?_,E23.set (by omega) (by omega) _⟩
  have r1:(m3.set (m.next+1) (D9 [.int .i64 1])).get (m.next+1)=some (D9 [.int .i64 1]):=aj k3 _ (by omega) rfl
  simp only [aF] at c161 g3 q3a ⊢
  simp [f123,G5,trD,J4,A8,u7,o7,A9,C8,j3 hm,j5 hm,D8 hm hl,o9 hm hl,l8 hm,l6 hm,G6,o8,w9,z8,L6,c161,g3,q3a,q3b,qK (show m3.lim≤m.next+1 by omega),r1]
 | true=>
  rw [hgb] at g3
  have hg3:m3.get id=some (D9 f.gau):=by rw [E3.old _ (by simp;omega)];exact hg2
  obtain⟨p,m4,g4,E4⟩:=PN f (n+6) fu hfu m3 k3 (by omega) id (by omega) hg3
  have k4:m4.Ok:=E4.ok
  have l4:m4.lim≤m.next:=by rw [E4.lim];exact l3
  have n4:m3.next≤m4.next:=E4.next
  have q4a:m4.get m.next=some (D9 (aF id)):=by rw [E4.old _ (by omega)];exact q3a
  have q4b:m4.get (m.next+1)=some (D9 [.int .i64 0]):=by rw [E4.old _ (by omega)];exact q3b
  have g5:=PO (n+6) fu m4 k4 (by omega) id p
  have g6:∀y st pend env ps asg bd,G9 KW fu (n+7) (.func 298) [y,.ptr m4.next 0,.ptr (m4.next+2) 0,.ptr (m4.next+1) 0] (ext m4 [D9 (aF id),D9 [.map p],D9 [.func (.func 295) [] [.ptr (m4.next+1) 0]],.deferred,.loop st pend env ps asg bd])=some [⟨.tuple [],ext m4 [D9 (aF id),D9 [.map p],D9 [.func (.func 295) [] [.ptr (m4.next+1) 0]],.deferred,.loop st pend env ps asg bd]⟩]:=fun y st pend env ps asg bd=>
   PS (n+6) fu hfu _ id _ _ _ y (by rw [j3 k4];rfl)
  have E6:=H6 k4 [D9 (aF id),D9 [.map p],D9 [.func (.func 295) [] [.ptr (m4.next+1) 0]],.deferred,.dead]
  have q6a:(ext m4 [D9 (aF id),D9 [.map p],D9 [.func (.func 295) [] [.ptr (m4.next+1) 0]],.deferred,.dead]).get m.next=some (D9 (aF id)):=by rw [E6.old _ (by omega)];exact q4a
  obtain⟨q,m7,g7,E7⟩:=PW f (n+2) fu hfu _ (K7 k4 [D9 (aF id),D9 [.map p],D9 [.func (.func 295) [] [.ptr (m4.next+1) 0]],.deferred,.dead]) (by simp;omega) id (by simp;omega)
   (by rw [J2 k4 _ (by omega),E4.old _ (by omega)];exact hg3)
  have E47:=E6.trans E7
  have k7:m7.Ok:=E7.ok
  have n7:m4.next+5≤m7.next:=by have:=E7.next;simpa using this
  have l7:m7.lim≤m.next:=by rw [E47.lim];exact l4
  have q7a:m7.get m.next=some (D9 (aF id)):=by rw [E47.old _ (by omega)];exact q4a
  have q7b:m7.get (m.next+1)=some (D9 [.int .i64 0]):=by rw [E47.old _ (by omega)];exact q4b
  have q7c:m7.get (m4.next+3)=some .deferred:=by rw [E7.old _ (by simp),j5 k4];rfl
  have E07:=(E23.trans E4).trans E47
  refine⟨(m7.set (m.next+1) (D9 [.int .i64 0])).set (m4.next+3) .dead,?_,(E07.set (by omega) (by omega) _).set (by simp;omega) (by omega) _⟩
  have k8:(m7.set (m.next+1) (D9 [.int .i64 0])).Ok:=k7.set (by omega) _
  have r0:(m7.set (m.next+1) (D9 [.int .i64 0])).get (m4.next+3)=some .deferred:=by rw [bX k7 _ (by omega) (by omega)];exact q7c
  have r1:((m7.set (m.next+1) (D9 [.int .i64 0])).set (m4.next+3) .dead).get (m.next+1)=some (D9 [.int .i64 0]):=by
   rw [bX k8 _ (by simp;omega) (by omega)]
   exact aj k7 _ (by omega) rfl
  simp only [aF] at c161 g3 q3a g4 q4a q6a g5 g6 g7 q7a ⊢
  simp [f123,G5,trD,J4,A8,u7,o7,A9,C8,j3 hm,j5 hm,D8 hm hl,o9 hm hl,l8 hm,l6 hm,G6,o8,w9,z8,L6,j3 k4,j5 k4,l8 k4,c161,g3,q3a,q3b,g4,q4a,q6a,g5,g6,g7,q7a,q7b,qK (show m7.lim≤m.next+1 by omega),OQ,r0,r1,
   show w64 2=2 from nD (by decide) (by decide),show w64 0=0 from nD (by decide) (by decide)]
theorem PY {m:Mem}{f:Fct}(ha:bL f.gn)(hb:bL f.gd)(hm:m.Ok)(hl:m.lim≤m.next)(n fu:Nat)(hfu:1000≤fu):
  ∃m',G9 KW fu (n+9) (.func 132) [.agg f.cells] m=some [⟨.bool (V6 f),m'⟩]∧Ext m m':=by
 rw [enter (sf:=f132) rfl rfl]
 obtain⟨m1,g1,E1⟩:=PX f ha hb n fu hfu (ext m [D9 f.cells,D9 f.gau]) (K7 hm _) (by simp;omega) (m.next+1) (by simp) (by rw [j5 hm];rfl)
 refine⟨m1,?_,(H6 hm _).trans E1⟩
 simp only [aF] at g1
 cases hgb:V6 f<;>rw [hgb] at g1<;>simp [f132,G5,trD,J4,A8,u7,o7,A9,C8,j3 hm,j5 hm,D8 hm hl,o9 hm hl,l8 hm,l6 hm,G6,o8,w9,z8,L6,fD,g1]
end Go.Proofs.YtfnlnpllpfhhnaaGreatDoor.TT
namespace Go.Proofs.YtfnlnpllpfhhnaaGreatDoor.TT
open Go Go.AM
set_option linter.unusedSimpArgs false
set_option linter.unusedVariables false
set_option maxRecDepth 100000
set_option maxHeartbeats 2000000
end Go.Proofs.YtfnlnpllpfhhnaaGreatDoor.TT
namespace Go.Proofs.YtfnlnpllpfhhnaaGreatDoor.TT
open Go Go.AM
set_option linter.unusedSimpArgs false
set_option linter.unusedVariables false
set_option maxRecDepth 100000
set_option maxHeartbeats 2000000
end Go.Proofs.YtfnlnpllpfhhnaaGreatDoor.TT
namespace Go.Proofs.YtfnlnpllpfhhnaaGreatDoor.TT
open Go Go.AM
set_option linter.unusedSimpArgs false
set_option linter.unusedVariables false
set_option maxRecDepth 100000
set_option maxHeartbeats 2000000
@[simp] theorem aqC (f:Fct)(h:2<f.gau.length):f.gau[2]'h=.int .i64 f.nom:=id rfl
@[simp] theorem aqD (f:Fct)(h:3<f.gau.length):f.gau[3]'h=.int .i64 f.tlo:=id rfl
@[simp] theorem aqE (f:Fct)(h:4<f.gau.length):f.gau[4]'h=.int .i64 f.thi:=id rfl
end Go.Proofs.YtfnlnpllpfhhnaaGreatDoor.TT
namespace Go.Proofs.YtfnlnpllpfhhnaaGreatDoor.TT
open Go Go.AM
set_option linter.unusedSimpArgs false
set_option linter.unusedVariables false
set_option maxRecDepth 100000
set_option maxHeartbeats 2000000
end Go.Proofs.YtfnlnpllpfhhnaaGreatDoor.TT
namespace Go.Proofs.YtfnlnpllpfhhnaaGreatDoor.TT
open Go Go.AM
set_option linter.unusedSimpArgs false
set_option linter.unusedVariables false
set_option maxRecDepth 100000
set_option maxHeartbeats 2000000
def rX (f:Fct)(a b l:List Int):Bool:=if f.kind=1 then Fh f else if f.kind=2 then V6 f else if f.kind=3 then Uo f else if f.kind=4 then uV f else if f.kind=5 then fK f a b else if f.kind=6 then MX f l else if f.kind=7 then wdB f else false
end Go.Proofs.YtfnlnpllpfhhnaaGreatDoor.TT
namespace Go.Proofs.YtfnlnpllpfhhnaaGreatDoor.TT
open Go Go.AM
set_option linter.unusedSimpArgs false
set_option linter.unusedVariables false
set_option maxRecDepth 100000
set_option maxHeartbeats 2000000
def Ld (f:Fct)(a b l:List Int):Bool:=aC f (P9 f) a b l (if f.kind=5 then a else []) (if f.kind=5 then b else []) (if f.kind=6 then l else [])
def Z5 (f:Fct):Bool:=(decide (1≤f.room)&&decide (f.room≤6))&&((decide (1≤f.no)&&decide (f.no≤60))&&(decide (0≤f.known)&&decide (f.known≤1099511627776)))
def iC (f:Fct)(a b l:List Int):Bool:=Z5 f&&(rX f a b l&&Ld f a b l)
end Go.Proofs.YtfnlnpllpfhhnaaGreatDoor.TT
namespace Go.Proofs.YtfnlnpllpfhhnaaGreatDoor.TT
open Go Go.AM
set_option linter.unusedSimpArgs false
set_option linter.unusedVariables false
set_option maxRecDepth 100000
set_option maxHeartbeats 2000000
theorem J9 (f:EqF)(k:j6)(e:j6×j6)(es:List (j6×j6))(i:Nat):findKey f k (e::es) i=ob (f k e.1) fun b=>bi b (some (some (i,e.2))) (findKey f k es (i+1)):=rfl
theorem K4 (f:EqF)(k:j6)(i:Nat):findKey f k [] i=some none:=rfl
noncomputable def fieldMap:List (j6×j6):=[(.int .i64 1,.agg [.func (.func 129) [] [],.func (.func 131) [] []]),(.int .i64 2,.agg [.func (.func 132) [] [],.func (.func 133) [] []]),(.int .i64 3,.agg [.func (.func 134) [] [],.func (.func 136) [] []]),(.int .i64 4,.agg [.func (.func 137) [] [],.func (.func 138) [] []]),(.int .i64 5,.agg [.func (.func 139) [] [],.func (.func 141) [] []]),(.int .i64 6,.agg [.func (.func 142) [] [],.func (.func 144) [] []]),(.int .i64 7,.agg [.func (.func 145) [] [],.func (.func 146) [] []])]
theorem U3 (f:EqF)(n:Nat)(zero:j6)(ok:Bool)(mp k:OF)(ls:List j6)(env:T j6)(m:Mem)(id:Nat)(es:List (j6×j6))(h:mp ls env=.map id)(hg:m.get id=some (.map es)):
  fT f n zero ok mp k ls env m=ob (bI f n (k ls env) es) fun r=>found ok zero r:=by
 show zC (mp ls env) _ _=_
 rw [h]
 show vEs (m.get id) _=_
 rw [hg];rfl
theorem rY (n fu:Nat)(m:Mem)(hm:m.Ok)(hl:m.lim≤m.next):G9 KW fu (n+1) (.func 78) [] m=some [⟨.map m.next,ext m [.map fieldMap]⟩]:=by
 rw [enter (sf:=f78) rfl rfl]
 have hbl:Nat.blt m.next m.lim=false:=by have:=rR hl [];rwa [fZ] at this
 simp [f78,G5,trD,J4,A8,u7,o7,A9,C8,j3 hm,j5 hm,D8 hm hl,o9 hm hl,l8 hm,l6 hm,G6,o8,w9,z8,L6,qJ,hbl,CP,lW,K5,J9,K4,N9,fieldMap]
end Go.Proofs.YtfnlnpllpfhhnaaGreatDoor.TT
namespace Go.Proofs.YtfnlnpllpfhhnaaGreatDoor.TT
open Go Go.AM
set_option linter.unusedSimpArgs false
set_option linter.unusedVariables false
set_option maxRecDepth 100000
set_option maxHeartbeats 2000000
theorem iD (f:Fct):Q7 (P8 f).cells=true:=rfl
def nV (f:Fct)(a b l:List Int):Bool:=aC (P9 f) f (if f.kind=5 then a else []) (if f.kind=5 then b else []) (if f.kind=6 then l else []) a b l
theorem ahp {m:Mem}{f:Fct}{a b l:List Int}(hm:m.Ok)(hl:m.lim≤m.next)(hf:bH m f a b l)(n fu:Nat)(hfu:1000≤fu)(ha:bL f.gn)(hb:bL f.gd)(h1:f.kind≠1)(h2:f.kind≠2)(h3:f.kind≠3)(h4:f.kind≠4)(h5:f.kind≠5)(h6:f.kind≠6)(h7:f.kind≠7):∃m',G9 KW fu (n+11) (.func 36) [.agg f.cells] m=some [⟨.bool false,m'⟩]∧Ext m m':=by
 rw [enter (sf:=f36) rfl rfl]
 have c68:=rY (n+9) fu (ext m [D9 f.cells,.void]) (K7 hm _) (by simp;omega)
 have hlook:∀(mp k:OF) ls env,mp ls env=.map (m.next+2)→k ls env=.int .i64 f.kind→fT bn 1 (.agg [.nilFunc,.nilFunc]) true mp k ls env (ext m [D9 f.cells,.void,.map fieldMap])=some (.tuple [.agg [.nilFunc,.nilFunc],.bool false]):=by
  intro mp k ls env e1 e2
  rw [U3 _ _ _ _ _ _ _ _ _ _ fieldMap e1 (by rw [j5 hm];rfl),e2]
  simp [fieldMap,K5,J9,K4,N9,h1,h2,h3,h4,h5,h6,h7]
  rfl
 exact⟨ext m [D9 f.cells,D9 [.nilFunc,.nilFunc],.map fieldMap],by simp [f36,G5,trD,J4,A8,u7,o7,A9,C8,j3 hm,j5 hm,D8 hm hl,o9 hm hl,l8 hm,l6 hm,G6,o8,w9,z8,L6,c68,hlook,J3,isVoid,Nat.add_assoc],H6 hm _⟩
theorem ahq {m:Mem}{f:Fct}{a b l:List Int}(hm:m.Ok)(hl:m.lim≤m.next)(hf:bH m f a b l)(n fu:Nat)(hfu:1000≤fu)(ha:bL f.gn)(hb:bL f.gd)(hk:f.kind=1):∃m',G9 KW fu (n+11) (.func 36) [.agg f.cells] m=some [⟨.bool (Z5 f&&(Fh f&&nV f a b l)),m'⟩]∧Ext m m':=by
 rw [enter (sf:=f36) rfl rfl]
 have c68:=rY (n+9) fu (ext m [D9 f.cells,.void]) (K7 hm _) (by simp;omega)
 have hlook:∀(mp k:OF) ls env,mp ls env=.map (m.next+2)→k ls env=.int .i64 1→fT bn 1 (.agg [.nilFunc,.nilFunc]) true mp k ls env (ext m [D9 f.cells,.void,.map fieldMap])=some (.tuple [.agg [.func (.func 129) [] [],.func (.func 131) [] []],.bool true]):=by
  intro mp k ls env e1 e2
  rw [U3 _ _ _ _ _ _ _ _ _ _ fieldMap e1 (by rw [j5 hm];rfl),e2]
  simp [fieldMap,K5,J9,K4,N9]
  rfl
 have hf3:=hf.ext (H6 hm [D9 f.cells,D9 [.func (.func 129) [] [],.func (.func 131) [] []],.map fieldMap])
 have E0:=H6 hm [D9 f.cells,D9 [.func (.func 129) [] [],.func (.func 131) [] []],.map fieldMap]
 obtain⟨m1,g1,E1⟩:∃m1,G9 KW fu (n+10) (.func 129) [.agg f.cells] (ext m [D9 f.cells,D9 [.func (.func 129) [] [],.func (.func 131) [] []],.map fieldMap])=some [⟨.bool (Fh f),m1⟩]∧Ext (ext m [D9 f.cells,D9 [.func (.func 129) [] [],.func (.func 131) [] []],.map fieldMap]) m1:=Pb (n+8) fu f _ (K7 hm _) (by simp;omega)
 have k1:m1.Ok:=E1.ok
 have E01:=E0.trans E1
 have n1:m.next+3≤m1.next:=by have:=E1.next;simpa using this
 have l1:m1.lim≤m1.next:=by rw [E01.lim];omega
 have q1:m1.get m.next=some (D9 f.cells):=by rw [E1.old _ (by simp),j3 hm];rfl
 have q2:m1.get (m.next+1)=some (D9 [.func (.func 129) [] [],.func (.func 131) [] []]):=by rw [E1.old _ (by simp),j5 hm];rfl
 have q1':(ext m1 [D9 (P8 f).cells]).get m.next=some (D9 f.cells):=by rw [J2 k1 _ (by omega)];exact q1
 have q2':(ext m1 [D9 (P8 f).cells]).get (m.next+1)=some (D9 [.func (.func 129) [] [],.func (.func 131) [] []]):=by rw [J2 k1 _ (by omega)];exact q2
 obtain⟨m2,g2,k2,lm2,n2,o2,p2⟩:=Pt (g:=P8 f) (p:=m1.next) (K7 k1 [D9 (P8 f).cells]) (by simp;omega) (by simp) ((hf.ext E01).ext (H6 k1 _)) (by rw [j3 k1];rfl) (n+9) fu
 have n2':m1.next+1≤m2.next:=by simpa using n2
 have E02:Ext m m2:=⟨k2,by omega,by rw [lm2,fZ];exact E01.lim,fun i hi=>by rw [o2 i (by simp;omega) (by omega),J2 k1 _ (by omega)];exact E01.old i hi⟩
 have q3:m2.get m.next=some (D9 f.cells):=by rw [o2 _ (by simp;omega) (by omega)];exact q1'
 have hbF:({P8 f with flo:=f.flo,fhi:=f.fhi}:Fct)=P9 f:=by simp [P9,hk]
 rw [hbF] at p2
 have hfz:=hf.ext E02
 have g3:=rV k2 (by rw [E02.lim];omega) (nU hfz) hfz (n+7) fu hfu
 have hz:[j6.int .i64 f.room,.int .i64 f.no,.int .i64 f.known,.int .i64 1,.int .i64 0,.int .i64 0,.int .i64 0,.int .i64 0,.int .i64 0,.int .i64 0,.int .i64 0,.int .i64 0,.int .i64 0,.int .i64 0,.int .i64 0,.int .i64 0,.int .i64 0,.int .i64 0,.int .i64 0,.int .i64 0,.int .i64 0,.int .i64 0,.nilSlice,.nilSlice,.int .i64 0,.int .i64 0,.int .i64 0,.int .i64 0,.int .i64 0,.nilSlice,.int .i64 0,.int .i64 0]=(P8 f).cells:=by simp [P8,Fct.cells,hk,-Fct.V8]
 have hz1:=iD f
 cases h0:(decide (1≤f.room)&&decide (f.room≤6)) with
 | true=>
  cases h1:(decide (1≤f.no)&&decide (f.no≤60)) with
  | true=>
   cases h2:(decide (0≤f.known)&&decide (f.known≤1099511627776)) with
   | true=>
    cases hF:Fh f with
    | false=>
     rw [hF] at g1
     exact⟨m1,by simp [f36,G5,trD,J4,A8,u7,o7,A9,C8,j3 hm,j5 hm,D8 hm hl,o9 hm hl,l8 hm,l6 hm,G6,o8,w9,z8,L6,c68,hlook,J3,isVoid,Nat.add_assoc,hk,O4,V4,Z5,h0,h1,h2,hF,g1,q1],E01⟩
    | true=>
     rw [hF] at g1
     exact⟨_,by simp [f36,G5,trD,J4,A8,u7,o7,A9,C8,j3 hm,j3 k1,j5 hm,j5 k1,D8 hm hl,D8 k1 l1,o9 k1 l1,o9 hm hl,l8 hm,l8 k1,l6 hm,l6 k1,G6,o8,w9,z8,L6,c68,hlook,J3,isVoid,Nat.add_assoc,hk,O4,V4,Z5,h0,h1,h2,hF,g1,q1,q2,hz,hz1,q1',q2',g2,q3,p2,g3,nV],E02.trans (H6 k2 ([D9 (P9 f).cells,D9 f.cells,D9 (P9 f).cells,(P9 f).nm,D9 f.cells,f.nm]++(bif aU (P9 f) f then [D9 (P9 f).cmp,D9 f.cmp] else [])))⟩
   | false=>exact⟨ext m [D9 f.cells,D9 [.func (.func 129) [] [],.func (.func 131) [] []],.map fieldMap],by simp [f36,G5,trD,J4,A8,u7,o7,A9,C8,j3 hm,j5 hm,D8 hm hl,o9 hm hl,l8 hm,l6 hm,G6,o8,w9,z8,L6,c68,hlook,J3,isVoid,Nat.add_assoc,hk,O4,V4,Z5,h0,h1,h2],E0⟩
  | false=>exact⟨ext m [D9 f.cells,D9 [.func (.func 129) [] [],.func (.func 131) [] []],.map fieldMap],by simp [f36,G5,trD,J4,A8,u7,o7,A9,C8,j3 hm,j5 hm,D8 hm hl,o9 hm hl,l8 hm,l6 hm,G6,o8,w9,z8,L6,c68,hlook,J3,isVoid,Nat.add_assoc,hk,O4,V4,Z5,h0,h1],E0⟩
 | false=>exact⟨ext m [D9 f.cells,D9 [.func (.func 129) [] [],.func (.func 131) [] []],.map fieldMap],by simp [f36,G5,trD,J4,A8,u7,o7,A9,C8,j3 hm,j5 hm,D8 hm hl,o9 hm hl,l8 hm,l6 hm,G6,o8,w9,z8,L6,c68,hlook,J3,isVoid,Nat.add_assoc,hk,O4,V4,Z5,h0],E0⟩
theorem ahr {m:Mem}{f:Fct}{a b l:List Int}(hm:m.Ok)(hl:m.lim≤m.next)(hf:bH m f a b l)(n fu:Nat)(hfu:1000≤fu)(ha:bL f.gn)(hb:bL f.gd)(hk:f.kind=2):∃m',G9 KW fu (n+11) (.func 36) [.agg f.cells] m=some [⟨.bool (Z5 f&&(V6 f&&nV f a b l)),m'⟩]∧Ext m m':=by
 rw [enter (sf:=f36) rfl rfl]
 have c68:=rY (n+9) fu (ext m [D9 f.cells,.void]) (K7 hm _) (by simp;omega)
 have hlook:∀(mp k:OF) ls env,mp ls env=.map (m.next+2)→k ls env=.int .i64 2→fT bn 1 (.agg [.nilFunc,.nilFunc]) true mp k ls env (ext m [D9 f.cells,.void,.map fieldMap])=some (.tuple [.agg [.func (.func 132) [] [],.func (.func 133) [] []],.bool true]):=by
  intro mp k ls env e1 e2
  rw [U3 _ _ _ _ _ _ _ _ _ _ fieldMap e1 (by rw [j5 hm];rfl),e2]
  simp [fieldMap,K5,J9,K4,N9]
  rfl
 have hf3:=hf.ext (H6 hm [D9 f.cells,D9 [.func (.func 132) [] [],.func (.func 133) [] []],.map fieldMap])
 have E0:=H6 hm [D9 f.cells,D9 [.func (.func 132) [] [],.func (.func 133) [] []],.map fieldMap]
 obtain⟨m1,g1,E1⟩:∃m1,G9 KW fu (n+10) (.func 132) [.agg f.cells] (ext m [D9 f.cells,D9 [.func (.func 132) [] [],.func (.func 133) [] []],.map fieldMap])=some [⟨.bool (V6 f),m1⟩]∧Ext (ext m [D9 f.cells,D9 [.func (.func 132) [] [],.func (.func 133) [] []],.map fieldMap]) m1:=PY ha hb (K7 hm _) (by simp;omega) (n+1) fu hfu
 have k1:m1.Ok:=E1.ok
 have E01:=E0.trans E1
 have n1:m.next+3≤m1.next:=by have:=E1.next;simpa using this
 have l1:m1.lim≤m1.next:=by rw [E01.lim];omega
 have q1:m1.get m.next=some (D9 f.cells):=by rw [E1.old _ (by simp),j3 hm];rfl
 have q2:m1.get (m.next+1)=some (D9 [.func (.func 132) [] [],.func (.func 133) [] []]):=by rw [E1.old _ (by simp),j5 hm];rfl
 have q1':(ext m1 [D9 (P8 f).cells]).get m.next=some (D9 f.cells):=by rw [J2 k1 _ (by omega)];exact q1
 have q2':(ext m1 [D9 (P8 f).cells]).get (m.next+1)=some (D9 [.func (.func 132) [] [],.func (.func 133) [] []]):=by rw [J2 k1 _ (by omega)];exact q2
 obtain⟨m2,g2,k2,lm2,n2,o2,p2⟩:=Pv (g:=P8 f) (p:=m1.next) (K7 k1 [D9 (P8 f).cells]) (by simp;omega) (by simp) ((hf.ext E01).ext (H6 k1 _)) (by rw [j3 k1];rfl) (n+9) fu
 have n2':m1.next+1≤m2.next:=by simpa using n2
 have E02:Ext m m2:=⟨k2,by omega,by rw [lm2,fZ];exact E01.lim,fun i hi=>by rw [o2 i (by simp;omega) (by omega),J2 k1 _ (by omega)];exact E01.old i hi⟩
 have q3:m2.get m.next=some (D9 f.cells):=by rw [o2 _ (by simp;omega) (by omega)];exact q1'
 have hbF:({P8 f with gid:=f.gid,made:=f.made,nom:=f.nom,tlo:=f.tlo,thi:=f.thi,gn:=f.gn,gd:=f.gd,wear:=f.wear}:Fct)=P9 f:=by simp [P9,hk]
 rw [hbF] at p2
 have hfz:=hf.ext E02
 have g3:=rV k2 (by rw [E02.lim];omega) (nU hfz) hfz (n+7) fu hfu
 have hz:[j6.int .i64 f.room,.int .i64 f.no,.int .i64 f.known,.int .i64 2,.int .i64 0,.int .i64 0,.int .i64 0,.int .i64 0,.int .i64 0,.int .i64 0,.int .i64 0,.int .i64 0,.int .i64 0,.int .i64 0,.int .i64 0,.int .i64 0,.int .i64 0,.int .i64 0,.int .i64 0,.int .i64 0,.int .i64 0,.int .i64 0,.nilSlice,.nilSlice,.int .i64 0,.int .i64 0,.int .i64 0,.int .i64 0,.int .i64 0,.nilSlice,.int .i64 0,.int .i64 0]=(P8 f).cells:=by simp [P8,Fct.cells,hk,-Fct.V8]
 have hz1:=iD f
 cases h0:(decide (1≤f.room)&&decide (f.room≤6)) with
 | true=>
  cases h1:(decide (1≤f.no)&&decide (f.no≤60)) with
  | true=>
   cases h2:(decide (0≤f.known)&&decide (f.known≤1099511627776)) with
   | true=>
    cases hF:V6 f with
    | false=>
     rw [hF] at g1
     exact⟨m1,by simp [f36,G5,trD,J4,A8,u7,o7,A9,C8,j3 hm,j5 hm,D8 hm hl,o9 hm hl,l8 hm,l6 hm,G6,o8,w9,z8,L6,c68,hlook,J3,isVoid,Nat.add_assoc,hk,O4,V4,Z5,h0,h1,h2,hF,g1,q1],E01⟩
    | true=>
     rw [hF] at g1
     exact⟨_,by simp [f36,G5,trD,J4,A8,u7,o7,A9,C8,j3 hm,j3 k1,j5 hm,j5 k1,D8 hm hl,D8 k1 l1,o9 k1 l1,o9 hm hl,l8 hm,l8 k1,l6 hm,l6 k1,G6,o8,w9,z8,L6,c68,hlook,J3,isVoid,Nat.add_assoc,hk,O4,V4,Z5,h0,h1,h2,hF,g1,q1,q2,hz,hz1,q1',q2',g2,q3,p2,g3,nV],E02.trans (H6 k2 ([D9 (P9 f).cells,D9 f.cells,D9 (P9 f).cells,(P9 f).nm,D9 f.cells,f.nm]++(bif aU (P9 f) f then [D9 (P9 f).cmp,D9 f.cmp] else [])))⟩
   | false=>exact⟨ext m [D9 f.cells,D9 [.func (.func 132) [] [],.func (.func 133) [] []],.map fieldMap],by simp [f36,G5,trD,J4,A8,u7,o7,A9,C8,j3 hm,j5 hm,D8 hm hl,o9 hm hl,l8 hm,l6 hm,G6,o8,w9,z8,L6,c68,hlook,J3,isVoid,Nat.add_assoc,hk,O4,V4,Z5,h0,h1,h2],E0⟩
  | false=>exact⟨ext m [D9 f.cells,D9 [.func (.func 132) [] [],.func (.func 133) [] []],.map fieldMap],by simp [f36,G5,trD,J4,A8,u7,o7,A9,C8,j3 hm,j5 hm,D8 hm hl,o9 hm hl,l8 hm,l6 hm,G6,o8,w9,z8,L6,c68,hlook,J3,isVoid,Nat.add_assoc,hk,O4,V4,Z5,h0,h1],E0⟩
 | false=>exact⟨ext m [D9 f.cells,D9 [.func (.func 132) [] [],.func (.func 133) [] []],.map fieldMap],by simp [f36,G5,trD,J4,A8,u7,o7,A9,C8,j3 hm,j5 hm,D8 hm hl,o9 hm hl,l8 hm,l6 hm,G6,o8,w9,z8,L6,c68,hlook,J3,isVoid,Nat.add_assoc,hk,O4,V4,Z5,h0],E0⟩
theorem ahs {m:Mem}{f:Fct}{a b l:List Int}(hm:m.Ok)(hl:m.lim≤m.next)(hf:bH m f a b l)(n fu:Nat)(hfu:1000≤fu)(ha:bL f.gn)(hb:bL f.gd)(hk:f.kind=3):∃m',G9 KW fu (n+11) (.func 36) [.agg f.cells] m=some [⟨.bool (Z5 f&&(Uo f&&nV f a b l)),m'⟩]∧Ext m m':=by
 rw [enter (sf:=f36) rfl rfl]
 have c68:=rY (n+9) fu (ext m [D9 f.cells,.void]) (K7 hm _) (by simp;omega)
 have hlook:∀(mp k:OF) ls env,mp ls env=.map (m.next+2)→k ls env=.int .i64 3→fT bn 1 (.agg [.nilFunc,.nilFunc]) true mp k ls env (ext m [D9 f.cells,.void,.map fieldMap])=some (.tuple [.agg [.func (.func 134) [] [],.func (.func 136) [] []],.bool true]):=by
  intro mp k ls env e1 e2
  rw [U3 _ _ _ _ _ _ _ _ _ _ fieldMap e1 (by rw [j5 hm];rfl),e2]
  simp [fieldMap,K5,J9,K4,N9]
  rfl
 have hf3:=hf.ext (H6 hm [D9 f.cells,D9 [.func (.func 134) [] [],.func (.func 136) [] []],.map fieldMap])
 have E0:=H6 hm [D9 f.cells,D9 [.func (.func 134) [] [],.func (.func 136) [] []],.map fieldMap]
 obtain⟨m1,g1,E1⟩:∃m1,G9 KW fu (n+10) (.func 134) [.agg f.cells] (ext m [D9 f.cells,D9 [.func (.func 134) [] [],.func (.func 136) [] []],.map fieldMap])=some [⟨.bool (Uo f),m1⟩]∧Ext (ext m [D9 f.cells,D9 [.func (.func 134) [] [],.func (.func 136) [] []],.map fieldMap]) m1:=Pd (n+7) fu f _ (K7 hm _) (by simp;omega)
 have k1:m1.Ok:=E1.ok
 have E01:=E0.trans E1
 have n1:m.next+3≤m1.next:=by have:=E1.next;simpa using this
 have l1:m1.lim≤m1.next:=by rw [E01.lim];omega
 have q1:m1.get m.next=some (D9 f.cells):=by rw [E1.old _ (by simp),j3 hm];rfl
 have q2:m1.get (m.next+1)=some (D9 [.func (.func 134) [] [],.func (.func 136) [] []]):=by rw [E1.old _ (by simp),j5 hm];rfl
 have q1':(ext m1 [D9 (P8 f).cells]).get m.next=some (D9 f.cells):=by rw [J2 k1 _ (by omega)];exact q1
 have q2':(ext m1 [D9 (P8 f).cells]).get (m.next+1)=some (D9 [.func (.func 134) [] [],.func (.func 136) [] []]):=by rw [J2 k1 _ (by omega)];exact q2
 obtain⟨m2,g2,k2,lm2,n2,o2,p2⟩:=Pw (g:=P8 f) (p:=m1.next) (K7 k1 [D9 (P8 f).cells]) (by simp;omega) (by simp) ((hf.ext E01).ext (H6 k1 _)) (by rw [j3 k1];rfl) (n+9) fu
 have n2':m1.next+1≤m2.next:=by simpa using n2
 have E02:Ext m m2:=⟨k2,by omega,by rw [lm2,fZ];exact E01.lim,fun i hi=>by rw [o2 i (by simp;omega) (by omega),J2 k1 _ (by omega)];exact E01.old i hi⟩
 have q3:m2.get m.next=some (D9 f.cells):=by rw [o2 _ (by simp;omega) (by omega)];exact q1'
 have hbF:({P8 f with ug:=f.ug,ud:=f.ud}:Fct)=P9 f:=by simp [P9,hk]
 rw [hbF] at p2
 have hfz:=hf.ext E02
 have g3:=rV k2 (by rw [E02.lim];omega) (nU hfz) hfz (n+7) fu hfu
 have hz:[j6.int .i64 f.room,.int .i64 f.no,.int .i64 f.known,.int .i64 3,.int .i64 0,.int .i64 0,.int .i64 0,.int .i64 0,.int .i64 0,.int .i64 0,.int .i64 0,.int .i64 0,.int .i64 0,.int .i64 0,.int .i64 0,.int .i64 0,.int .i64 0,.int .i64 0,.int .i64 0,.int .i64 0,.int .i64 0,.int .i64 0,.nilSlice,.nilSlice,.int .i64 0,.int .i64 0,.int .i64 0,.int .i64 0,.int .i64 0,.nilSlice,.int .i64 0,.int .i64 0]=(P8 f).cells:=by simp [P8,Fct.cells,hk,-Fct.V8]
 have hz1:=iD f
 cases h0:(decide (1≤f.room)&&decide (f.room≤6)) with
 | true=>
  cases h1:(decide (1≤f.no)&&decide (f.no≤60)) with
  | true=>
   cases h2:(decide (0≤f.known)&&decide (f.known≤1099511627776)) with
   | true=>
    cases hF:Uo f with
    | false=>
     rw [hF] at g1
     exact⟨m1,by simp [f36,G5,trD,J4,A8,u7,o7,A9,C8,j3 hm,j5 hm,D8 hm hl,o9 hm hl,l8 hm,l6 hm,G6,o8,w9,z8,L6,c68,hlook,J3,isVoid,Nat.add_assoc,hk,O4,V4,Z5,h0,h1,h2,hF,g1,q1],E01⟩
    | true=>
     rw [hF] at g1
     exact⟨_,by simp [f36,G5,trD,J4,A8,u7,o7,A9,C8,j3 hm,j3 k1,j5 hm,j5 k1,D8 hm hl,D8 k1 l1,o9 k1 l1,o9 hm hl,l8 hm,l8 k1,l6 hm,l6 k1,G6,o8,w9,z8,L6,c68,hlook,J3,isVoid,Nat.add_assoc,hk,O4,V4,Z5,h0,h1,h2,hF,g1,q1,q2,hz,hz1,q1',q2',g2,q3,p2,g3,nV],E02.trans (H6 k2 ([D9 (P9 f).cells,D9 f.cells,D9 (P9 f).cells,(P9 f).nm,D9 f.cells,f.nm]++(bif aU (P9 f) f then [D9 (P9 f).cmp,D9 f.cmp] else [])))⟩
   | false=>exact⟨ext m [D9 f.cells,D9 [.func (.func 134) [] [],.func (.func 136) [] []],.map fieldMap],by simp [f36,G5,trD,J4,A8,u7,o7,A9,C8,j3 hm,j5 hm,D8 hm hl,o9 hm hl,l8 hm,l6 hm,G6,o8,w9,z8,L6,c68,hlook,J3,isVoid,Nat.add_assoc,hk,O4,V4,Z5,h0,h1,h2],E0⟩
  | false=>exact⟨ext m [D9 f.cells,D9 [.func (.func 134) [] [],.func (.func 136) [] []],.map fieldMap],by simp [f36,G5,trD,J4,A8,u7,o7,A9,C8,j3 hm,j5 hm,D8 hm hl,o9 hm hl,l8 hm,l6 hm,G6,o8,w9,z8,L6,c68,hlook,J3,isVoid,Nat.add_assoc,hk,O4,V4,Z5,h0,h1],E0⟩
 | false=>exact⟨ext m [D9 f.cells,D9 [.func (.func 134) [] [],.func (.func 136) [] []],.map fieldMap],by simp [f36,G5,trD,J4,A8,u7,o7,A9,C8,j3 hm,j5 hm,D8 hm hl,o9 hm hl,l8 hm,l6 hm,G6,o8,w9,z8,L6,c68,hlook,J3,isVoid,Nat.add_assoc,hk,O4,V4,Z5,h0],E0⟩
theorem aht {m:Mem}{f:Fct}{a b l:List Int}(hm:m.Ok)(hl:m.lim≤m.next)(hf:bH m f a b l)(n fu:Nat)(hfu:1000≤fu)(ha:bL f.gn)(hb:bL f.gd)(hk:f.kind=4):∃m',G9 KW fu (n+11) (.func 36) [.agg f.cells] m=some [⟨.bool (Z5 f&&(uV f&&nV f a b l)),m'⟩]∧Ext m m':=by
 rw [enter (sf:=f36) rfl rfl]
 have c68:=rY (n+9) fu (ext m [D9 f.cells,.void]) (K7 hm _) (by simp;omega)
 have hlook:∀(mp k:OF) ls env,mp ls env=.map (m.next+2)→k ls env=.int .i64 4→fT bn 1 (.agg [.nilFunc,.nilFunc]) true mp k ls env (ext m [D9 f.cells,.void,.map fieldMap])=some (.tuple [.agg [.func (.func 137) [] [],.func (.func 138) [] []],.bool true]):=by
  intro mp k ls env e1 e2
  rw [U3 _ _ _ _ _ _ _ _ _ _ fieldMap e1 (by rw [j5 hm];rfl),e2]
  simp [fieldMap,K5,J9,K4,N9]
  rfl
 have hf3:=hf.ext (H6 hm [D9 f.cells,D9 [.func (.func 137) [] [],.func (.func 138) [] []],.map fieldMap])
 have E0:=H6 hm [D9 f.cells,D9 [.func (.func 137) [] [],.func (.func 138) [] []],.map fieldMap]
 obtain⟨m1,g1,E1⟩:∃m1,G9 KW fu (n+10) (.func 137) [.agg f.cells] (ext m [D9 f.cells,D9 [.func (.func 137) [] [],.func (.func 138) [] []],.map fieldMap])=some [⟨.bool (uV f),m1⟩]∧Ext (ext m [D9 f.cells,D9 [.func (.func 137) [] [],.func (.func 138) [] []],.map fieldMap]) m1:=Pm (n+7) fu f _ (K7 hm _) (by simp;omega)
 have k1:m1.Ok:=E1.ok
 have E01:=E0.trans E1
 have n1:m.next+3≤m1.next:=by have:=E1.next;simpa using this
 have l1:m1.lim≤m1.next:=by rw [E01.lim];omega
 have q1:m1.get m.next=some (D9 f.cells):=by rw [E1.old _ (by simp),j3 hm];rfl
 have q2:m1.get (m.next+1)=some (D9 [.func (.func 137) [] [],.func (.func 138) [] []]):=by rw [E1.old _ (by simp),j5 hm];rfl
 have q1':(ext m1 [D9 (P8 f).cells]).get m.next=some (D9 f.cells):=by rw [J2 k1 _ (by omega)];exact q1
 have q2':(ext m1 [D9 (P8 f).cells]).get (m.next+1)=some (D9 [.func (.func 137) [] [],.func (.func 138) [] []]):=by rw [J2 k1 _ (by omega)];exact q2
 obtain⟨m2,g2,k2,lm2,n2,o2,p2⟩:=Px (g:=P8 f) (p:=m1.next) (K7 k1 [D9 (P8 f).cells]) (by simp;omega) (by simp) ((hf.ext E01).ext (H6 k1 _)) (by rw [j3 k1];rfl) (n+9) fu
 have n2':m1.next+1≤m2.next:=by simpa using n2
 have E02:Ext m m2:=⟨k2,by omega,by rw [lm2,fZ];exact E01.lim,fun i hi=>by rw [o2 i (by simp;omega) (by omega),J2 k1 _ (by omega)];exact E01.old i hi⟩
 have q3:m2.get m.next=some (D9 f.cells):=by rw [o2 _ (by simp;omega) (by omega)];exact q1'
 have hbF:({P8 f with lg:=f.lg,ll:=f.ll,lh:=f.lh,lw:=f.lw}:Fct)=P9 f:=by simp [P9,hk]
 rw [hbF] at p2
 have hfz:=hf.ext E02
 have g3:=rV k2 (by rw [E02.lim];omega) (nU hfz) hfz (n+7) fu hfu
 have hz:[j6.int .i64 f.room,.int .i64 f.no,.int .i64 f.known,.int .i64 4,.int .i64 0,.int .i64 0,.int .i64 0,.int .i64 0,.int .i64 0,.int .i64 0,.int .i64 0,.int .i64 0,.int .i64 0,.int .i64 0,.int .i64 0,.int .i64 0,.int .i64 0,.int .i64 0,.int .i64 0,.int .i64 0,.int .i64 0,.int .i64 0,.nilSlice,.nilSlice,.int .i64 0,.int .i64 0,.int .i64 0,.int .i64 0,.int .i64 0,.nilSlice,.int .i64 0,.int .i64 0]=(P8 f).cells:=by simp [P8,Fct.cells,hk,-Fct.V8]
 have hz1:=iD f
 cases h0:(decide (1≤f.room)&&decide (f.room≤6)) with
 | true=>
  cases h1:(decide (1≤f.no)&&decide (f.no≤60)) with
  | true=>
   cases h2:(decide (0≤f.known)&&decide (f.known≤1099511627776)) with
   | true=>
    cases hF:uV f with
    | false=>
     rw [hF] at g1
     exact⟨m1,by simp [f36,G5,trD,J4,A8,u7,o7,A9,C8,j3 hm,j5 hm,D8 hm hl,o9 hm hl,l8 hm,l6 hm,G6,o8,w9,z8,L6,c68,hlook,J3,isVoid,Nat.add_assoc,hk,O4,V4,Z5,h0,h1,h2,hF,g1,q1],E01⟩
    | true=>
     rw [hF] at g1
     exact⟨_,by simp [f36,G5,trD,J4,A8,u7,o7,A9,C8,j3 hm,j3 k1,j5 hm,j5 k1,D8 hm hl,D8 k1 l1,o9 k1 l1,o9 hm hl,l8 hm,l8 k1,l6 hm,l6 k1,G6,o8,w9,z8,L6,c68,hlook,J3,isVoid,Nat.add_assoc,hk,O4,V4,Z5,h0,h1,h2,hF,g1,q1,q2,hz,hz1,q1',q2',g2,q3,p2,g3,nV],E02.trans (H6 k2 ([D9 (P9 f).cells,D9 f.cells,D9 (P9 f).cells,(P9 f).nm,D9 f.cells,f.nm]++(bif aU (P9 f) f then [D9 (P9 f).cmp,D9 f.cmp] else [])))⟩
   | false=>exact⟨ext m [D9 f.cells,D9 [.func (.func 137) [] [],.func (.func 138) [] []],.map fieldMap],by simp [f36,G5,trD,J4,A8,u7,o7,A9,C8,j3 hm,j5 hm,D8 hm hl,o9 hm hl,l8 hm,l6 hm,G6,o8,w9,z8,L6,c68,hlook,J3,isVoid,Nat.add_assoc,hk,O4,V4,Z5,h0,h1,h2],E0⟩
  | false=>exact⟨ext m [D9 f.cells,D9 [.func (.func 137) [] [],.func (.func 138) [] []],.map fieldMap],by simp [f36,G5,trD,J4,A8,u7,o7,A9,C8,j3 hm,j5 hm,D8 hm hl,o9 hm hl,l8 hm,l6 hm,G6,o8,w9,z8,L6,c68,hlook,J3,isVoid,Nat.add_assoc,hk,O4,V4,Z5,h0,h1],E0⟩
 | false=>exact⟨ext m [D9 f.cells,D9 [.func (.func 137) [] [],.func (.func 138) [] []],.map fieldMap],by simp [f36,G5,trD,J4,A8,u7,o7,A9,C8,j3 hm,j5 hm,D8 hm hl,o9 hm hl,l8 hm,l6 hm,G6,o8,w9,z8,L6,c68,hlook,J3,isVoid,Nat.add_assoc,hk,O4,V4,Z5,h0],E0⟩
theorem ahu {m:Mem}{f:Fct}{a b l:List Int}(hm:m.Ok)(hl:m.lim≤m.next)(hf:bH m f a b l)(n fu:Nat)(hfu:1000≤fu)(ha:bL f.gn)(hb:bL f.gd)(hk:f.kind=5):∃m',G9 KW fu (n+11) (.func 36) [.agg f.cells] m=some [⟨.bool (Z5 f&&(fK f a b&&nV f a b l)),m'⟩]∧Ext m m':=by
 rw [enter (sf:=f36) rfl rfl]
 have c68:=rY (n+9) fu (ext m [D9 f.cells,.void]) (K7 hm _) (by simp;omega)
 have hlook:∀(mp k:OF) ls env,mp ls env=.map (m.next+2)→k ls env=.int .i64 5→fT bn 1 (.agg [.nilFunc,.nilFunc]) true mp k ls env (ext m [D9 f.cells,.void,.map fieldMap])=some (.tuple [.agg [.func (.func 139) [] [],.func (.func 141) [] []],.bool true]):=by
  intro mp k ls env e1 e2
  rw [U3 _ _ _ _ _ _ _ _ _ _ fieldMap e1 (by rw [j5 hm];rfl),e2]
  simp [fieldMap,K5,J9,K4,N9]
  rfl
 have hf3:=hf.ext (H6 hm [D9 f.cells,D9 [.func (.func 139) [] [],.func (.func 141) [] []],.map fieldMap])
 have E0:=H6 hm [D9 f.cells,D9 [.func (.func 139) [] [],.func (.func 141) [] []],.map fieldMap]
 obtain⟨m1,g1,E1⟩:∃m1,G9 KW fu (n+10) (.func 139) [.agg f.cells] (ext m [D9 f.cells,D9 [.func (.func 139) [] [],.func (.func 141) [] []],.map fieldMap])=some [⟨.bool (fK f a b),m1⟩]∧Ext (ext m [D9 f.cells,D9 [.func (.func 139) [] [],.func (.func 141) [] []],.map fieldMap]) m1:=Po (K7 hm _) (by simp;omega) hf3 n fu hfu
 have k1:m1.Ok:=E1.ok
 have E01:=E0.trans E1
 have n1:m.next+3≤m1.next:=by have:=E1.next;simpa using this
 have l1:m1.lim≤m1.next:=by rw [E01.lim];omega
 have q1:m1.get m.next=some (D9 f.cells):=by rw [E1.old _ (by simp),j3 hm];rfl
 have q2:m1.get (m.next+1)=some (D9 [.func (.func 139) [] [],.func (.func 141) [] []]):=by rw [E1.old _ (by simp),j5 hm];rfl
 have q1':(ext m1 [D9 (P8 f).cells]).get m.next=some (D9 f.cells):=by rw [J2 k1 _ (by omega)];exact q1
 have q2':(ext m1 [D9 (P8 f).cells]).get (m.next+1)=some (D9 [.func (.func 139) [] [],.func (.func 141) [] []]):=by rw [J2 k1 _ (by omega)];exact q2
 obtain⟨m2,g2,k2,lm2,n2,o2,p2⟩:=Py (g:=P8 f) (p:=m1.next) (K7 k1 [D9 (P8 f).cells]) (by simp;omega) (by simp) ((hf.ext E01).ext (H6 k1 _)) (by rw [j3 k1];rfl) (n+9) fu
 have n2':m1.next+1≤m2.next:=by simpa using n2
 have E02:Ext m m2:=⟨k2,by omega,by rw [lm2,fZ];exact E01.lim,fun i hi=>by rw [o2 i (by simp;omega) (by omega),J2 k1 _ (by omega)];exact E01.old i hi⟩
 have q3:m2.get m.next=some (D9 f.cells):=by rw [o2 _ (by simp;omega) (by omega)];exact q1'
 have hbF:({P8 f with cid:=f.cid,cday:=f.cday,A:=f.A,B:=f.B,diff:=f.diff,err:=f.err,hlo:=f.hlo,hhi:=f.hhi}:Fct)=P9 f:=by simp [P9,hk]
 rw [hbF] at p2
 have hfz:=hf.ext E02
 have g3:=rV k2 (by rw [E02.lim];omega) (nU hfz) hfz (n+7) fu hfu
 have hz:[j6.int .i64 f.room,.int .i64 f.no,.int .i64 f.known,.int .i64 5,.int .i64 0,.int .i64 0,.int .i64 0,.int .i64 0,.int .i64 0,.int .i64 0,.int .i64 0,.int .i64 0,.int .i64 0,.int .i64 0,.int .i64 0,.int .i64 0,.int .i64 0,.int .i64 0,.int .i64 0,.int .i64 0,.int .i64 0,.int .i64 0,.nilSlice,.nilSlice,.int .i64 0,.int .i64 0,.int .i64 0,.int .i64 0,.int .i64 0,.nilSlice,.int .i64 0,.int .i64 0]=(P8 f).cells:=by simp [P8,Fct.cells,hk,-Fct.V8]
 have hz1:=iD f
 cases h0:(decide (1≤f.room)&&decide (f.room≤6)) with
 | true=>
  cases h1:(decide (1≤f.no)&&decide (f.no≤60)) with
  | true=>
   cases h2:(decide (0≤f.known)&&decide (f.known≤1099511627776)) with
   | true=>
    cases hF:fK f a b with
    | false=>
     rw [hF] at g1
     exact⟨m1,by simp [f36,G5,trD,J4,A8,u7,o7,A9,C8,j3 hm,j5 hm,D8 hm hl,o9 hm hl,l8 hm,l6 hm,G6,o8,w9,z8,L6,c68,hlook,J3,isVoid,Nat.add_assoc,hk,O4,V4,Z5,h0,h1,h2,hF,g1,q1],E01⟩
    | true=>
     rw [hF] at g1
     exact⟨_,by simp [f36,G5,trD,J4,A8,u7,o7,A9,C8,j3 hm,j3 k1,j5 hm,j5 k1,D8 hm hl,D8 k1 l1,o9 k1 l1,o9 hm hl,l8 hm,l8 k1,l6 hm,l6 k1,G6,o8,w9,z8,L6,c68,hlook,J3,isVoid,Nat.add_assoc,hk,O4,V4,Z5,h0,h1,h2,hF,g1,q1,q2,hz,hz1,q1',q2',g2,q3,p2,g3,nV],E02.trans (H6 k2 ([D9 (P9 f).cells,D9 f.cells,D9 (P9 f).cells,(P9 f).nm,D9 f.cells,f.nm]++(bif aU (P9 f) f then [D9 (P9 f).cmp,D9 f.cmp] else [])))⟩
   | false=>exact⟨ext m [D9 f.cells,D9 [.func (.func 139) [] [],.func (.func 141) [] []],.map fieldMap],by simp [f36,G5,trD,J4,A8,u7,o7,A9,C8,j3 hm,j5 hm,D8 hm hl,o9 hm hl,l8 hm,l6 hm,G6,o8,w9,z8,L6,c68,hlook,J3,isVoid,Nat.add_assoc,hk,O4,V4,Z5,h0,h1,h2],E0⟩
  | false=>exact⟨ext m [D9 f.cells,D9 [.func (.func 139) [] [],.func (.func 141) [] []],.map fieldMap],by simp [f36,G5,trD,J4,A8,u7,o7,A9,C8,j3 hm,j5 hm,D8 hm hl,o9 hm hl,l8 hm,l6 hm,G6,o8,w9,z8,L6,c68,hlook,J3,isVoid,Nat.add_assoc,hk,O4,V4,Z5,h0,h1],E0⟩
 | false=>exact⟨ext m [D9 f.cells,D9 [.func (.func 139) [] [],.func (.func 141) [] []],.map fieldMap],by simp [f36,G5,trD,J4,A8,u7,o7,A9,C8,j3 hm,j5 hm,D8 hm hl,o9 hm hl,l8 hm,l6 hm,G6,o8,w9,z8,L6,c68,hlook,J3,isVoid,Nat.add_assoc,hk,O4,V4,Z5,h0],E0⟩
theorem ahv {m:Mem}{f:Fct}{a b l:List Int}(hm:m.Ok)(hl:m.lim≤m.next)(hf:bH m f a b l)(n fu:Nat)(hfu:1000≤fu)(ha:bL f.gn)(hb:bL f.gd)(hk:f.kind=6):∃m',G9 KW fu (n+11) (.func 36) [.agg f.cells] m=some [⟨.bool (Z5 f&&(MX f l&&nV f a b l)),m'⟩]∧Ext m m':=by
 rw [enter (sf:=f36) rfl rfl]
 have c68:=rY (n+9) fu (ext m [D9 f.cells,.void]) (K7 hm _) (by simp;omega)
 have hlook:∀(mp k:OF) ls env,mp ls env=.map (m.next+2)→k ls env=.int .i64 6→fT bn 1 (.agg [.nilFunc,.nilFunc]) true mp k ls env (ext m [D9 f.cells,.void,.map fieldMap])=some (.tuple [.agg [.func (.func 142) [] [],.func (.func 144) [] []],.bool true]):=by
  intro mp k ls env e1 e2
  rw [U3 _ _ _ _ _ _ _ _ _ _ fieldMap e1 (by rw [j5 hm];rfl),e2]
  simp [fieldMap,K5,J9,K4,N9]
  rfl
 have hf3:=hf.ext (H6 hm [D9 f.cells,D9 [.func (.func 142) [] [],.func (.func 144) [] []],.map fieldMap])
 have E0:=H6 hm [D9 f.cells,D9 [.func (.func 142) [] [],.func (.func 144) [] []],.map fieldMap]
 obtain⟨m1,g1,E1⟩:∃m1,G9 KW fu (n+10) (.func 142) [.agg f.cells] (ext m [D9 f.cells,D9 [.func (.func 142) [] [],.func (.func 144) [] []],.map fieldMap])=some [⟨.bool (MX f l),m1⟩]∧Ext (ext m [D9 f.cells,D9 [.func (.func 142) [] [],.func (.func 144) [] []],.map fieldMap]) m1:=Pp (K7 hm _) (by simp;omega) hf3 (n+6) fu hfu
 have k1:m1.Ok:=E1.ok
 have E01:=E0.trans E1
 have n1:m.next+3≤m1.next:=by have:=E1.next;simpa using this
 have l1:m1.lim≤m1.next:=by rw [E01.lim];omega
 have q1:m1.get m.next=some (D9 f.cells):=by rw [E1.old _ (by simp),j3 hm];rfl
 have q2:m1.get (m.next+1)=some (D9 [.func (.func 142) [] [],.func (.func 144) [] []]):=by rw [E1.old _ (by simp),j5 hm];rfl
 have q1':(ext m1 [D9 (P8 f).cells]).get m.next=some (D9 f.cells):=by rw [J2 k1 _ (by omega)];exact q1
 have q2':(ext m1 [D9 (P8 f).cells]).get (m.next+1)=some (D9 [.func (.func 142) [] [],.func (.func 144) [] []]):=by rw [J2 k1 _ (by omega)];exact q2
 obtain⟨m2,g2,k2,lm2,n2,o2,p2⟩:=Pz (g:=P8 f) (p:=m1.next) (K7 k1 [D9 (P8 f).cells]) (by simp;omega) (by simp) ((hf.ext E01).ext (H6 k1 _)) (by rw [j3 k1];rfl) (n+9) fu
 have n2':m1.next+1≤m2.next:=by simpa using n2
 have E02:Ext m m2:=⟨k2,by omega,by rw [lm2,fZ];exact E01.lim,fun i hi=>by rw [o2 i (by simp;omega) (by omega),J2 k1 _ (by omega)];exact E01.old i hi⟩
 have q3:m2.get m.next=some (D9 f.cells):=by rw [o2 _ (by simp;omega) (by omega)];exact q1'
 have hbF:({P8 f with mday:=f.mday,L:=f.L}:Fct)=P9 f:=by simp [P9,hk]
 rw [hbF] at p2
 have hfz:=hf.ext E02
 have g3:=rV k2 (by rw [E02.lim];omega) (nU hfz) hfz (n+7) fu hfu
 have hz:[j6.int .i64 f.room,.int .i64 f.no,.int .i64 f.known,.int .i64 6,.int .i64 0,.int .i64 0,.int .i64 0,.int .i64 0,.int .i64 0,.int .i64 0,.int .i64 0,.int .i64 0,.int .i64 0,.int .i64 0,.int .i64 0,.int .i64 0,.int .i64 0,.int .i64 0,.int .i64 0,.int .i64 0,.int .i64 0,.int .i64 0,.nilSlice,.nilSlice,.int .i64 0,.int .i64 0,.int .i64 0,.int .i64 0,.int .i64 0,.nilSlice,.int .i64 0,.int .i64 0]=(P8 f).cells:=by simp [P8,Fct.cells,hk,-Fct.V8]
 have hz1:=iD f
 cases h0:(decide (1≤f.room)&&decide (f.room≤6)) with
 | true=>
  cases h1:(decide (1≤f.no)&&decide (f.no≤60)) with
  | true=>
   cases h2:(decide (0≤f.known)&&decide (f.known≤1099511627776)) with
   | true=>
    cases hF:MX f l with
    | false=>
     rw [hF] at g1
     exact⟨m1,by simp [f36,G5,trD,J4,A8,u7,o7,A9,C8,j3 hm,j5 hm,D8 hm hl,o9 hm hl,l8 hm,l6 hm,G6,o8,w9,z8,L6,c68,hlook,J3,isVoid,Nat.add_assoc,hk,O4,V4,Z5,h0,h1,h2,hF,g1,q1],E01⟩
    | true=>
     rw [hF] at g1
     exact⟨_,by simp [f36,G5,trD,J4,A8,u7,o7,A9,C8,j3 hm,j3 k1,j5 hm,j5 k1,D8 hm hl,D8 k1 l1,o9 k1 l1,o9 hm hl,l8 hm,l8 k1,l6 hm,l6 k1,G6,o8,w9,z8,L6,c68,hlook,J3,isVoid,Nat.add_assoc,hk,O4,V4,Z5,h0,h1,h2,hF,g1,q1,q2,hz,hz1,q1',q2',g2,q3,p2,g3,nV],E02.trans (H6 k2 ([D9 (P9 f).cells,D9 f.cells,D9 (P9 f).cells,(P9 f).nm,D9 f.cells,f.nm]++(bif aU (P9 f) f then [D9 (P9 f).cmp,D9 f.cmp] else [])))⟩
   | false=>exact⟨ext m [D9 f.cells,D9 [.func (.func 142) [] [],.func (.func 144) [] []],.map fieldMap],by simp [f36,G5,trD,J4,A8,u7,o7,A9,C8,j3 hm,j5 hm,D8 hm hl,o9 hm hl,l8 hm,l6 hm,G6,o8,w9,z8,L6,c68,hlook,J3,isVoid,Nat.add_assoc,hk,O4,V4,Z5,h0,h1,h2],E0⟩
  | false=>exact⟨ext m [D9 f.cells,D9 [.func (.func 142) [] [],.func (.func 144) [] []],.map fieldMap],by simp [f36,G5,trD,J4,A8,u7,o7,A9,C8,j3 hm,j5 hm,D8 hm hl,o9 hm hl,l8 hm,l6 hm,G6,o8,w9,z8,L6,c68,hlook,J3,isVoid,Nat.add_assoc,hk,O4,V4,Z5,h0,h1],E0⟩
 | false=>exact⟨ext m [D9 f.cells,D9 [.func (.func 142) [] [],.func (.func 144) [] []],.map fieldMap],by simp [f36,G5,trD,J4,A8,u7,o7,A9,C8,j3 hm,j5 hm,D8 hm hl,o9 hm hl,l8 hm,l6 hm,G6,o8,w9,z8,L6,c68,hlook,J3,isVoid,Nat.add_assoc,hk,O4,V4,Z5,h0],E0⟩
theorem ahw {m:Mem}{f:Fct}{a b l:List Int}(hm:m.Ok)(hl:m.lim≤m.next)(hf:bH m f a b l)(n fu:Nat)(hfu:1000≤fu)(ha:bL f.gn)(hb:bL f.gd)(hk:f.kind=7):∃m',G9 KW fu (n+11) (.func 36) [.agg f.cells] m=some [⟨.bool (Z5 f&&(wdB f&&nV f a b l)),m'⟩]∧Ext m m':=by
 rw [enter (sf:=f36) rfl rfl]
 have c68:=rY (n+9) fu (ext m [D9 f.cells,.void]) (K7 hm _) (by simp;omega)
 have hlook:∀(mp k:OF) ls env,mp ls env=.map (m.next+2)→k ls env=.int .i64 7→fT bn 1 (.agg [.nilFunc,.nilFunc]) true mp k ls env (ext m [D9 f.cells,.void,.map fieldMap])=some (.tuple [.agg [.func (.func 145) [] [],.func (.func 146) [] []],.bool true]):=by
  intro mp k ls env e1 e2
  rw [U3 _ _ _ _ _ _ _ _ _ _ fieldMap e1 (by rw [j5 hm];rfl),e2]
  simp [fieldMap,K5,J9,K4,N9]
  rfl
 have hf3:=hf.ext (H6 hm [D9 f.cells,D9 [.func (.func 145) [] [],.func (.func 146) [] []],.map fieldMap])
 have E0:=H6 hm [D9 f.cells,D9 [.func (.func 145) [] [],.func (.func 146) [] []],.map fieldMap]
 obtain⟨m1,g1,E1⟩:∃m1,G9 KW fu (n+10) (.func 145) [.agg f.cells] (ext m [D9 f.cells,D9 [.func (.func 145) [] [],.func (.func 146) [] []],.map fieldMap])=some [⟨.bool (wdB f),m1⟩]∧Ext (ext m [D9 f.cells,D9 [.func (.func 145) [] [],.func (.func 146) [] []],.map fieldMap]) m1:=Pq (K7 hm _) (by simp;omega) hf3 (n+8) fu
 have k1:m1.Ok:=E1.ok
 have E01:=E0.trans E1
 have n1:m.next+3≤m1.next:=by have:=E1.next;simpa using this
 have l1:m1.lim≤m1.next:=by rw [E01.lim];omega
 have q1:m1.get m.next=some (D9 f.cells):=by rw [E1.old _ (by simp),j3 hm];rfl
 have q2:m1.get (m.next+1)=some (D9 [.func (.func 145) [] [],.func (.func 146) [] []]):=by rw [E1.old _ (by simp),j5 hm];rfl
 have q1':(ext m1 [D9 (P8 f).cells]).get m.next=some (D9 f.cells):=by rw [J2 k1 _ (by omega)];exact q1
 have q2':(ext m1 [D9 (P8 f).cells]).get (m.next+1)=some (D9 [.func (.func 145) [] [],.func (.func 146) [] []]):=by rw [J2 k1 _ (by omega)];exact q2
 obtain⟨m2,g2,k2,lm2,n2,o2,p2⟩:=PD (g:=P8 f) (p:=m1.next) (K7 k1 [D9 (P8 f).cells]) (by simp;omega) (by simp) ((hf.ext E01).ext (H6 k1 _)) (by rw [j3 k1];rfl) (n+9) fu
 have n2':m1.next+1≤m2.next:=by simpa using n2
 have E02:Ext m m2:=⟨k2,by omega,by rw [lm2,fZ];exact E01.lim,fun i hi=>by rw [o2 i (by simp;omega) (by omega),J2 k1 _ (by omega)];exact E01.old i hi⟩
 have q3:m2.get m.next=some (D9 f.cells):=by rw [o2 _ (by simp;omega) (by omega)];exact q1'
 have hbF:({P8 f with tr:=f.tr,tn:=f.tn}:Fct)=P9 f:=by simp [P9,hk]
 rw [hbF] at p2
 have hfz:=hf.ext E02
 have g3:=rV k2 (by rw [E02.lim];omega) (nU hfz) hfz (n+7) fu hfu
 have hz:[j6.int .i64 f.room,.int .i64 f.no,.int .i64 f.known,.int .i64 7,.int .i64 0,.int .i64 0,.int .i64 0,.int .i64 0,.int .i64 0,.int .i64 0,.int .i64 0,.int .i64 0,.int .i64 0,.int .i64 0,.int .i64 0,.int .i64 0,.int .i64 0,.int .i64 0,.int .i64 0,.int .i64 0,.int .i64 0,.int .i64 0,.nilSlice,.nilSlice,.int .i64 0,.int .i64 0,.int .i64 0,.int .i64 0,.int .i64 0,.nilSlice,.int .i64 0,.int .i64 0]=(P8 f).cells:=by simp [P8,Fct.cells,hk,-Fct.V8]
 have hz1:=iD f
 cases h0:(decide (1≤f.room)&&decide (f.room≤6)) with
 | true=>
  cases h1:(decide (1≤f.no)&&decide (f.no≤60)) with
  | true=>
   cases h2:(decide (0≤f.known)&&decide (f.known≤1099511627776)) with
   | true=>
    cases hF:wdB f with
    | false=>
     rw [hF] at g1
     exact⟨m1,by simp [f36,G5,trD,J4,A8,u7,o7,A9,C8,j3 hm,j5 hm,D8 hm hl,o9 hm hl,l8 hm,l6 hm,G6,o8,w9,z8,L6,c68,hlook,J3,isVoid,Nat.add_assoc,hk,O4,V4,Z5,h0,h1,h2,hF,g1,q1],E01⟩
    | true=>
     rw [hF] at g1
     exact⟨_,by simp [f36,G5,trD,J4,A8,u7,o7,A9,C8,j3 hm,j3 k1,j5 hm,j5 k1,D8 hm hl,D8 k1 l1,o9 k1 l1,o9 hm hl,l8 hm,l8 k1,l6 hm,l6 k1,G6,o8,w9,z8,L6,c68,hlook,J3,isVoid,Nat.add_assoc,hk,O4,V4,Z5,h0,h1,h2,hF,g1,q1,q2,hz,hz1,q1',q2',g2,q3,p2,g3,nV],E02.trans (H6 k2 ([D9 (P9 f).cells,D9 f.cells,D9 (P9 f).cells,(P9 f).nm,D9 f.cells,f.nm]++(bif aU (P9 f) f then [D9 (P9 f).cmp,D9 f.cmp] else [])))⟩
   | false=>exact⟨ext m [D9 f.cells,D9 [.func (.func 145) [] [],.func (.func 146) [] []],.map fieldMap],by simp [f36,G5,trD,J4,A8,u7,o7,A9,C8,j3 hm,j5 hm,D8 hm hl,o9 hm hl,l8 hm,l6 hm,G6,o8,w9,z8,L6,c68,hlook,J3,isVoid,Nat.add_assoc,hk,O4,V4,Z5,h0,h1,h2],E0⟩
  | false=>exact⟨ext m [D9 f.cells,D9 [.func (.func 145) [] [],.func (.func 146) [] []],.map fieldMap],by simp [f36,G5,trD,J4,A8,u7,o7,A9,C8,j3 hm,j5 hm,D8 hm hl,o9 hm hl,l8 hm,l6 hm,G6,o8,w9,z8,L6,c68,hlook,J3,isVoid,Nat.add_assoc,hk,O4,V4,Z5,h0,h1],E0⟩
 | false=>exact⟨ext m [D9 f.cells,D9 [.func (.func 145) [] [],.func (.func 146) [] []],.map fieldMap],by simp [f36,G5,trD,J4,A8,u7,o7,A9,C8,j3 hm,j5 hm,D8 hm hl,o9 hm hl,l8 hm,l6 hm,G6,o8,w9,z8,L6,c68,hlook,J3,isVoid,Nat.add_assoc,hk,O4,V4,Z5,h0],E0⟩
end Go.Proofs.YtfnlnpllpfhhnaaGreatDoor.TT
namespace Go.Proofs.YtfnlnpllpfhhnaaGreatDoor.TT
open Go Go.AM
set_option linter.unusedSimpArgs false
set_option linter.unusedVariables false
set_option maxRecDepth 100000
set_option maxHeartbeats 2000000
theorem O6 {α:Type} [DecidableEq α](x y:α):decide (x=y)=decide (y=x):=by
 rw [Bool.eq_iff_iff];simp [eq_comm]
theorem Fj (f g:Fct):aU f g=aU g f:=by
 simp only [aU,O6 f.room g.room,O6 f.no g.no,O6 f.known g.known,O6 f.kind g.kind,O6 f.flo g.flo,O6 f.fhi g.fhi,O6 f.gid g.gid,O6 f.made g.made,O6 f.nom g.nom,O6 f.tlo g.tlo,O6 f.thi g.thi,O6 f.gn g.gn,O6 f.gd g.gd,O6 f.wear g.wear,O6 f.ug g.ug,O6 f.ud g.ud,O6 f.lg g.lg,O6 f.ll g.ll,O6 f.lh g.lh,O6 f.lw g.lw,O6 f.tr g.tr,O6 f.tn g.tn]
theorem Fp (f g:Fct)(a b l a' b' l':List Int):aC f g a b l a' b' l'=aC g f a' b' l' a b l:=by
 simp only [aC,Fj f g,qL,O6 f.cid g.cid,O6 f.cday g.cday,O6 f.diff g.diff,O6 f.err g.err,O6 f.hlo g.hlo,O6 f.hhi g.hhi,O6 f.mday g.mday,O6 a a',O6 b b',O6 l l']
theorem Le (f:Fct)(a b l:List Int):nV f a b l=Ld f a b l:=Fp ..
theorem MZ {m:Mem}{f:Fct}{a b l:List Int}(hm:m.Ok)(hl:m.lim≤m.next)(hf:bH m f a b l)(n fu:Nat)(hfu:1000≤fu)(ha:bL f.gn)(hb:bL f.gd):∃m',G9 KW fu (n+11) (.func 36) [.agg f.cells] m=some [⟨.bool (iC f a b l),m'⟩]∧Ext m m':=by
 unfold iC rX
 rw [← Le]
 by_cases h1:f.kind=1
 ·rw [if_pos h1];exact ahq hm hl hf n fu hfu ha hb h1
 by_cases h2:f.kind=2
 ·rw [if_neg h1];rw [if_pos h2];exact ahr hm hl hf n fu hfu ha hb h2
 by_cases h3:f.kind=3
 ·rw [if_neg h1];rw [if_neg h2];rw [if_pos h3];exact ahs hm hl hf n fu hfu ha hb h3
 by_cases h4:f.kind=4
 ·rw [if_neg h1];rw [if_neg h2];rw [if_neg h3];rw [if_pos h4];exact aht hm hl hf n fu hfu ha hb h4
 by_cases h5:f.kind=5
 ·rw [if_neg h1];rw [if_neg h2];rw [if_neg h3];rw [if_neg h4];rw [if_pos h5];exact ahu hm hl hf n fu hfu ha hb h5
 by_cases h6:f.kind=6
 ·rw [if_neg h1];rw [if_neg h2];rw [if_neg h3];rw [if_neg h4];rw [if_neg h5];rw [if_pos h6];exact ahv hm hl hf n fu hfu ha hb h6
 by_cases h7:f.kind=7
 ·rw [if_neg h1];rw [if_neg h2];rw [if_neg h3];rw [if_neg h4];rw [if_neg h5];rw [if_neg h6];rw [if_pos h7];exact ahw hm hl hf n fu hfu ha hb h7
 rw [if_neg h1];rw [if_neg h2];rw [if_neg h3];rw [if_neg h4];rw [if_neg h5];rw [if_neg h6];rw [if_neg h7];rw [Bool.false_and,Bool.and_false]
 exact ahp hm hl hf n fu hfu ha hb h1 h2 h3 h4 h5 h6 h7
end Go.Proofs.YtfnlnpllpfhhnaaGreatDoor.TT
namespace Go.Proofs.YtfnlnpllpfhhnaaGreatDoor.TT
open Go Go.AM
set_option linter.unusedSimpArgs false
set_option linter.unusedVariables false
set_option maxRecDepth 100000
set_option maxHeartbeats 2000000
structure FR where
 f:Fct
 a:List Int
 b:List Int
 l:List Int
structure kP (m:Mem)(r:FR):Prop where
 a:cO m r.f.A r.a
 b:cO m r.f.B r.b
 l:cO m r.f.L r.l
 ga:bL r.f.gn
 gb:bL r.f.gd
 nb:bL r.f.no
theorem kP.ext {m m':Mem}(h:Ext m m'){r:FR}(k:kP m r):kP m' r:=⟨k.a.ext h,k.b.ext h,k.l.ext h,k.ga,k.gb,k.nb⟩
def FR.small (r:FR):Bool:=decide (r.a.length≤9)&&(decide (r.b.length≤9)&&decide (r.l.length≤9))
theorem kP.at {m:Mem}{r:FR}(k:kP m r)(h:r.small=true):bH m r.f r.a r.b r.l:=by
 simp only [FR.small,Bool.and_eq_true,decide_eq_true_eq] at h
 exact⟨k.a,k.b,k.l,by omega,by omega,by omega⟩
theorem Xo {m:Mem}{r:FR}(hm:m.Ok)(hf:kP m r)(n fu:Nat):
  G9 KW fu (n+1) (.func 7) [.agg r.f.cells] m=some [⟨.bool r.small,ext m [D9 r.f.cells]⟩]:=by
 rw [enter (sf:=f7) rfl rfl]
 have l1:=hf.a.len
 have l2:=hf.b.len
 have l3:=hf.l.len
 have e1:decide (((r.a.length:Nat):Int)≤9)=decide (r.a.length≤9):=by rw [Bool.eq_iff_iff];simp;omega
 have e2:decide (((r.b.length:Nat):Int)≤9)=decide (r.b.length≤9):=by rw [Bool.eq_iff_iff];simp;omega
 have e3:decide (((r.l.length:Nat):Int)≤9)=decide (r.l.length≤9):=by rw [Bool.eq_iff_iff];simp;omega
 cases h0:decide (r.a.length≤9) with
 | true=>
  cases h1:decide (r.b.length≤9) with
  | true=>
   cases h2:decide (r.l.length≤9) with
   | true=>
    simp [f7,G5,trD,J4,A8,u7,o7,A9,C8,j3 hm,j5 hm,l8 hm,l6 hm,G6,o8,w9,z8,L6,l1,l2,l3,e1,e2,e3,FR.small,h0,h1,h2]
   | false=>simp [f7,G5,trD,J4,A8,u7,o7,A9,C8,j3 hm,j5 hm,l8 hm,l6 hm,G6,o8,w9,z8,L6,l1,l2,l3,e1,e2,e3,FR.small,h0,h1,h2]
  | false=>simp [f7,G5,trD,J4,A8,u7,o7,A9,C8,j3 hm,j5 hm,l8 hm,l6 hm,G6,o8,w9,z8,L6,l1,l2,l3,e1,e2,e3,FR.small,h0,h1]
 | false=>simp [f7,G5,trD,J4,A8,u7,o7,A9,C8,j3 hm,j5 hm,l8 hm,l6 hm,G6,o8,w9,z8,L6,l1,l2,l3,e1,e2,e3,FR.small,h0]
def IQ (m:Mem)(v:j6)(fs:List FR):Prop:=
 (v=.nilSlice∧fs=[])∨∃id,((∃c,v=.slice id 0 fs.length c)∨v=.sliceU id 0 fs.length 32)∧id<m.next∧(fs=[]∨∃c rows,m.get id=some (.cells 32 c rows)∧fs.length≤c∧∀i (h:i<fs.length),rows.get i=some fs[i].f.cells)
theorem IQ.ext {m m':Mem}(h:Ext m m'){v:j6}{fs:List FR}(hv:IQ m v fs):IQ m' v fs:=by
 rcases hv with hv | ⟨id,h1,h2,h3⟩
 ·exact .inl hv
 ·refine .inr ⟨id,h1,Nat.lt_of_lt_of_le h2 h.next,?_⟩
  rcases h3 with h3 | ⟨c,rows,h4,h5,h6⟩
  ·exact .inl h3
  ·exact .inr ⟨c,rows,(h.old id h2).trans h4,h5,h6⟩
theorem IQ.len {m:Mem}{v:j6}{fs:List FR}(h:IQ m v fs):vSl v (some (j6.int .i64 0)) (fun _ _ n _=>some (.int .i64 n)) (fun _ _ n _=>some (.int .i64 n))=some (.int .i64 fs.length):=by
 rcases h with⟨rfl,rfl⟩ | ⟨id,⟨c,rfl⟩ | rfl,_⟩<;>rfl
theorem IQ.cells {m:Mem}{v:j6}{fs:List FR}(h:IQ m v fs):v.cells=[v]:=by
 rcases h with⟨rfl,rfl⟩ | ⟨id,⟨c,rfl⟩ | rfl,_⟩<;>rfl
theorem IQ.pan {m:Mem}{v:j6}{fs:List FR}(h:IQ m v fs){β:Type}(p:j6→β)(q:β):jq v p q=q:=by
 rcases h with⟨rfl,rfl⟩ | ⟨id,⟨c,rfl⟩ | rfl,_⟩<;>rfl
theorem IQ.at {m:Mem}{v:j6}{fs:List FR}(h:IQ m v fs){i:Nat}(hi:i<fs.length):
  ∃id,vSl v none (fun id off len _=>idx len (.int .i64 i) fun k=>some (j6.ptr id (off+k*32))) (fun id off len _=>idx len (.int .i64 i) fun k=>some (j6.ptr id (off+k*32)))=some (.ptr id (i*32))∧id<m.next∧
   ldN (m.get id) (i*32) 32=some (.agg fs[i].f.cells)∧ld1 (m.get id) (i*32)=some (.int .i64 fs[i].f.room)∧ld1 (m.get id) (i*32+1)=some (.int .i64 fs[i].f.no)∧ld1 (m.get id) (i*32+3)=some (.int .i64 fs[i].f.kind):=by
 rcases h with⟨_,rfl⟩ | ⟨id,hv,h2,h3⟩
 ·simp at hi
 ·rcases h3 with rfl | ⟨c,rows,h4,h5,h6⟩
  ·simp at hi
  ·have hr:=h6 i hi
   have hc:i<c:=by omega
   refine⟨id,?_,h2,?_,?_,?_,?_⟩
   ·rcases hv with⟨c',rfl⟩ | rfl
    ·simp only [uP]
     rw [qH _ _ _ hi];simp
    ·simp only [qG]
     rw [qH _ _ _ hi];simp
   ·rw [h4]
    have hk:=qI (rs:=32) (j:=0) (k:=32) (by omega) hc hr (Fct.len _) (by omega)
    rw [Nat.add_zero] at hk
    unfold ldN
    rw [cK,hk,P5,List.drop_zero,List.take_of_length_le (by rw [Fct.len];omega)]
   ·have hk:=fJ (rs:=32) (j:=0) (by omega) hc hr
    rw [Nat.add_zero] at hk
    rw [h4,ld1,cK,hk]
    exact Fct.c0 _
   ·have hk:=fJ (rs:=32) (j:=1) (by omega) hc hr
    skip
    rw [h4,ld1,cK,hk]
    exact Fct.c1 _
   ·have hk:=fJ (rs:=32) (j:=3) (by omega) hc hr
    skip
    rw [h4,ld1,cK,hk]
    exact Fct.c3 _
end Go.Proofs.YtfnlnpllpfhhnaaGreatDoor.TT
