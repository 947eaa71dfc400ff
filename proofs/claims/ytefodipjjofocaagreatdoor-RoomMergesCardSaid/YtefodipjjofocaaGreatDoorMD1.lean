/- Functions that the law RoomMerges calls, walked: what each answers; conditions: the memory holds what the arguments say. -/
import Derived.Test.YtefodipjjofocaaGreatDoorMB4
set_option linter.unusedSimpArgs false
set_option linter.unusedVariables false
namespace Go.Proofs.YtefodipjjofocaaGreatDoor.TT
open Go Go.AM
set_option linter.unusedSimpArgs false
attribute [simp] I J S U Z A V tt ff zaa zab zar zav zaO za9 zbm zbZ zb5 zcL zdt zoH zsL
noncomputable def axx (f:FuncId):Option SFn:=(fns f).map fun sf=>{sf with pure:=Nat.beq f 8}
noncomputable def KW:Known:=⟨axx,base,sumOf [⟨8,[],[],.bool true,[]⟩]⟩
theorem enter {n fu:Nat}{f:FuncId}{sf:SFn}{vs:List o8}{m:Mem}(h:fns f=some sf)(hf:Nat.beq f 8=false):
  G9 KW fu (n+1) (.func f) vs m=F3 (G9 KW fu n) (EB KW (G9 KW fu n) fu) fu sf vs m:=by
 rw [gq]
 have h:KW.fns f=some {sf with pure:=false}:=by
  show (fns f).map _=_
  rw [h,hf];rfl
 simp only [h,O3,Y8]
 rfl
structure Fct where
 room:Int
 no:Int
 known:Int
 kind:Int
 flo:Int
 fhi:Int
 gid:Int
 made:Int
 nom:Int
 tlo:Int
 thi:Int
 gn:Int
 gd:Int
 wear:Int
 ug:Int
 ud:Int
 lg:Int
 ll:Int
 lh:Int
 lw:Int
 cid:Int
 cday:Int
 A:o8
 B:o8
 diff:Int
 err:Int
 hlo:Int
 hhi:Int
 mday:Int
 L:o8
 tr:Int
 tn:Int
def Fct.cells (f:Fct):List o8:=[o8.int .i64 f.room,o8.int .i64 f.no,o8.int .i64 f.known,o8.int .i64 f.kind,o8.int .i64 f.flo,o8.int .i64 f.fhi,o8.int .i64 f.gid,o8.int .i64 f.made,o8.int .i64 f.nom,o8.int .i64 f.tlo,o8.int .i64 f.thi,o8.int .i64 f.gn,o8.int .i64 f.gd,o8.int .i64 f.wear,o8.int .i64 f.ug,o8.int .i64 f.ud,o8.int .i64 f.lg,o8.int .i64 f.ll,o8.int .i64 f.lh,o8.int .i64 f.lw,o8.int .i64 f.cid,o8.int .i64 f.cday,f.A,f.B,o8.int .i64 f.diff,o8.int .i64 f.err,o8.int .i64 f.hlo,o8.int .i64 f.hhi,o8.int .i64 f.mday,f.L,o8.int .i64 f.tr,o8.int .i64 f.tn]
@[simp] theorem Fct.len (f:Fct):f.cells.length=32:=id rfl
@[simp] theorem Fct.c0 (f:Fct):f.cells[0]?=some (o8.int .i64 f.room):=id rfl
@[simp] theorem Fct.c1 (f:Fct):f.cells[1]?=some (o8.int .i64 f.no):=id rfl
@[simp] theorem Fct.c2 (f:Fct):f.cells[2]?=some (o8.int .i64 f.known):=id rfl
@[simp] theorem Fct.c3 (f:Fct):f.cells[3]?=some (o8.int .i64 f.kind):=id rfl
@[simp] theorem Fct.c4 (f:Fct):f.cells[4]?=some (o8.int .i64 f.flo):=id rfl
@[simp] theorem Fct.c5 (f:Fct):f.cells[5]?=some (o8.int .i64 f.fhi):=id rfl
@[simp] theorem Fct.c6 (f:Fct):f.cells[6]?=some (o8.int .i64 f.gid):=id rfl
@[simp] theorem Fct.c7 (f:Fct):f.cells[7]?=some (o8.int .i64 f.made):=id rfl
@[simp] theorem Fct.c8 (f:Fct):f.cells[8]?=some (o8.int .i64 f.nom):=id rfl
@[simp] theorem Fct.c9 (f:Fct):f.cells[9]?=some (o8.int .i64 f.tlo):=id rfl
@[simp] theorem Fct.c10 (f:Fct):f.cells[10]?=some (o8.int .i64 f.thi):=id rfl
@[simp] theorem Fct.c11 (f:Fct):f.cells[11]?=some (o8.int .i64 f.gn):=id rfl
@[simp] theorem Fct.c12 (f:Fct):f.cells[12]?=some (o8.int .i64 f.gd):=id rfl
@[simp] theorem Fct.c13 (f:Fct):f.cells[13]?=some (o8.int .i64 f.wear):=id rfl
@[simp] theorem Fct.c14 (f:Fct):f.cells[14]?=some (o8.int .i64 f.ug):=id rfl
@[simp] theorem Fct.c15 (f:Fct):f.cells[15]?=some (o8.int .i64 f.ud):=id rfl
@[simp] theorem Fct.c16 (f:Fct):f.cells[16]?=some (o8.int .i64 f.lg):=id rfl
@[simp] theorem Fct.c17 (f:Fct):f.cells[17]?=some (o8.int .i64 f.ll):=id rfl
@[simp] theorem Fct.c18 (f:Fct):f.cells[18]?=some (o8.int .i64 f.lh):=id rfl
@[simp] theorem Fct.c19 (f:Fct):f.cells[19]?=some (o8.int .i64 f.lw):=id rfl
@[simp] theorem Fct.c20 (f:Fct):f.cells[20]?=some (o8.int .i64 f.cid):=id rfl
@[simp] theorem Fct.c21 (f:Fct):f.cells[21]?=some (o8.int .i64 f.cday):=id rfl
@[simp] theorem Fct.c22 (f:Fct):f.cells[22]?=some (f.A):=id rfl
@[simp] theorem Fct.c23 (f:Fct):f.cells[23]?=some (f.B):=id rfl
@[simp] theorem Fct.c24 (f:Fct):f.cells[24]?=some (o8.int .i64 f.diff):=id rfl
@[simp] theorem Fct.c25 (f:Fct):f.cells[25]?=some (o8.int .i64 f.err):=id rfl
@[simp] theorem Fct.c26 (f:Fct):f.cells[26]?=some (o8.int .i64 f.hlo):=id rfl
@[simp] theorem Fct.c27 (f:Fct):f.cells[27]?=some (o8.int .i64 f.hhi):=id rfl
@[simp] theorem Fct.c28 (f:Fct):f.cells[28]?=some (o8.int .i64 f.mday):=id rfl
@[simp] theorem Fct.c29 (f:Fct):f.cells[29]?=some (f.L):=id rfl
@[simp] theorem Fct.c30 (f:Fct):f.cells[30]?=some (o8.int .i64 f.tr):=id rfl
@[simp] theorem Fct.c31 (f:Fct):f.cells[31]?=some (o8.int .i64 f.tn):=id rfl
@[simp] theorem Fct.g0 (f:Fct)(h:0<f.cells.length):f.cells[0]'h=o8.int .i64 f.room:=id rfl
@[simp] theorem Fct.g1 (f:Fct)(h:1<f.cells.length):f.cells[1]'h=o8.int .i64 f.no:=id rfl
@[simp] theorem Fct.g2 (f:Fct)(h:2<f.cells.length):f.cells[2]'h=o8.int .i64 f.known:=id rfl
@[simp] theorem Fct.g3 (f:Fct)(h:3<f.cells.length):f.cells[3]'h=o8.int .i64 f.kind:=id rfl
@[simp] theorem Fct.g4 (f:Fct)(h:4<f.cells.length):f.cells[4]'h=o8.int .i64 f.flo:=id rfl
@[simp] theorem Fct.g5 (f:Fct)(h:5<f.cells.length):f.cells[5]'h=o8.int .i64 f.fhi:=id rfl
@[simp] theorem Fct.g6 (f:Fct)(h:6<f.cells.length):f.cells[6]'h=o8.int .i64 f.gid:=id rfl
@[simp] theorem Fct.g7 (f:Fct)(h:7<f.cells.length):f.cells[7]'h=o8.int .i64 f.made:=id rfl
@[simp] theorem Fct.g8 (f:Fct)(h:8<f.cells.length):f.cells[8]'h=o8.int .i64 f.nom:=id rfl
@[simp] theorem Fct.g9 (f:Fct)(h:9<f.cells.length):f.cells[9]'h=o8.int .i64 f.tlo:=id rfl
@[simp] theorem Fct.g10 (f:Fct)(h:10<f.cells.length):f.cells[10]'h=o8.int .i64 f.thi:=id rfl
@[simp] theorem Fct.g11 (f:Fct)(h:11<f.cells.length):f.cells[11]'h=o8.int .i64 f.gn:=id rfl
@[simp] theorem Fct.g12 (f:Fct)(h:12<f.cells.length):f.cells[12]'h=o8.int .i64 f.gd:=id rfl
@[simp] theorem Fct.g13 (f:Fct)(h:13<f.cells.length):f.cells[13]'h=o8.int .i64 f.wear:=id rfl
@[simp] theorem Fct.g14 (f:Fct)(h:14<f.cells.length):f.cells[14]'h=o8.int .i64 f.ug:=id rfl
@[simp] theorem Fct.g15 (f:Fct)(h:15<f.cells.length):f.cells[15]'h=o8.int .i64 f.ud:=id rfl
@[simp] theorem Fct.g16 (f:Fct)(h:16<f.cells.length):f.cells[16]'h=o8.int .i64 f.lg:=id rfl
@[simp] theorem Fct.g17 (f:Fct)(h:17<f.cells.length):f.cells[17]'h=o8.int .i64 f.ll:=id rfl
@[simp] theorem Fct.g18 (f:Fct)(h:18<f.cells.length):f.cells[18]'h=o8.int .i64 f.lh:=id rfl
@[simp] theorem Fct.g19 (f:Fct)(h:19<f.cells.length):f.cells[19]'h=o8.int .i64 f.lw:=id rfl
@[simp] theorem Fct.g20 (f:Fct)(h:20<f.cells.length):f.cells[20]'h=o8.int .i64 f.cid:=id rfl
@[simp] theorem Fct.g21 (f:Fct)(h:21<f.cells.length):f.cells[21]'h=o8.int .i64 f.cday:=id rfl
@[simp] theorem Fct.g22 (f:Fct)(h:22<f.cells.length):f.cells[22]'h=f.A:=id rfl
@[simp] theorem Fct.g23 (f:Fct)(h:23<f.cells.length):f.cells[23]'h=f.B:=id rfl
@[simp] theorem Fct.g24 (f:Fct)(h:24<f.cells.length):f.cells[24]'h=o8.int .i64 f.diff:=id rfl
@[simp] theorem Fct.g25 (f:Fct)(h:25<f.cells.length):f.cells[25]'h=o8.int .i64 f.err:=id rfl
@[simp] theorem Fct.g26 (f:Fct)(h:26<f.cells.length):f.cells[26]'h=o8.int .i64 f.hlo:=id rfl
@[simp] theorem Fct.g27 (f:Fct)(h:27<f.cells.length):f.cells[27]'h=o8.int .i64 f.hhi:=id rfl
@[simp] theorem Fct.g28 (f:Fct)(h:28<f.cells.length):f.cells[28]'h=o8.int .i64 f.mday:=id rfl
@[simp] theorem Fct.g29 (f:Fct)(h:29<f.cells.length):f.cells[29]'h=f.L:=id rfl
@[simp] theorem Fct.g30 (f:Fct)(h:30<f.cells.length):f.cells[30]'h=o8.int .i64 f.tr:=id rfl
@[simp] theorem Fct.g31 (f:Fct)(h:31<f.cells.length):f.cells[31]'h=o8.int .i64 f.tn:=id rfl
@[simp] theorem Fct.aMN (f:Fct):(f.cells.drop 4).take 2=[o8.int .i64 f.flo,o8.int .i64 f.fhi]:=id rfl
@[simp] theorem Fct.aMO (f:Fct):(f.cells.drop 6).take 8=[o8.int .i64 f.gid,o8.int .i64 f.made,o8.int .i64 f.nom,o8.int .i64 f.tlo,o8.int .i64 f.thi,o8.int .i64 f.gn,o8.int .i64 f.gd,o8.int .i64 f.wear]:=id rfl
@[simp] theorem Fct.axy (f:Fct):(f.cells.drop 14).take 2=[o8.int .i64 f.ug,o8.int .i64 f.ud]:=id rfl
@[simp] theorem Fct.axz (f:Fct):(f.cells.drop 16).take 4=[o8.int .i64 f.lg,o8.int .i64 f.ll,o8.int .i64 f.lh,o8.int .i64 f.lw]:=id rfl
@[simp] theorem Fct.axA (f:Fct):(f.cells.drop 20).take 8=[o8.int .i64 f.cid,o8.int .i64 f.cday,f.A,f.B,o8.int .i64 f.diff,o8.int .i64 f.err,o8.int .i64 f.hlo,o8.int .i64 f.hhi]:=id rfl
@[simp] theorem Fct.axB (f:Fct):(f.cells.drop 28).take 2=[o8.int .i64 f.mday,f.L]:=id rfl
@[simp] theorem Fct.axC (f:Fct):(f.cells.drop 30).take 2=[o8.int .i64 f.tr,o8.int .i64 f.tn]:=id rfl
@[simp] theorem Fct.axD (f:Fct):(f.cells.drop 17).take 2=[o8.int .i64 f.ll,o8.int .i64 f.lh]:=id rfl
@[simp] theorem Fct.axE (f:Fct):(f.cells.drop 26).take 2=[o8.int .i64 f.hlo,o8.int .i64 f.hhi]:=id rfl
@[simp] theorem Fct.aMP (f:Fct):(f.cells.drop 9).take 2=[o8.int .i64 f.tlo,o8.int .i64 f.thi]:=id rfl
@[simp] theorem Fct.axF (f:Fct):(f.cells.drop 11).take 2=[o8.int .i64 f.gn,o8.int .i64 f.gd]:=id rfl
@[simp] theorem Fct.axG (f:Fct):f.cells.take 32=f.cells:=id rfl
theorem N9 (n fu:Nat)(a lo hi:Int)(m:Mem):G9 KW fu (n+1) (.func 66) [.int .i64 a,.int .i64 lo,.int .i64 hi] m=some [⟨.bool (decide (lo≤a)&&decide (a≤hi)),m⟩]:=by
 rw [enter (sf:=f66) rfl rfl]
 simp +contextual [F3,f66,trD,H9,w9]
theorem U8 (n fu:Nat)(a lo hi:Int)(m:Mem):G9 KW fu (n+1) (.func 36) [.int .i64 a,.int .i64 lo,.int .i64 hi] m=some [⟨.bool (decide (lo≤a)&&decide (a≤hi)),m⟩]:=by
 rw [enter (sf:=f36) rfl rfl]
 simp +contextual [F3,f36,trD,H9,w9]
theorem bQ (n fu:Nat)(a lo hi:Int)(m:Mem):G9 KW fu (n+1) (.func 107) [.int .i64 a,.int .i64 lo,.int .i64 hi] m=some [⟨.bool (decide (lo≤a)&&decide (a≤hi)),m⟩]:=by
 rw [enter (sf:=f107) rfl rfl]
 simp +contextual [F3,f107,trD,H9,w9]
theorem R6 (n fu:Nat)(a lo hi:Int)(m:Mem):G9 KW fu (n+1) (.func 324) [.int .i64 a,.int .i64 lo,.int .i64 hi] m=some [⟨.bool (decide (lo≤a)&&decide (a≤hi)),m⟩]:=by
 rw [enter (sf:=f324) rfl rfl]
 simp +contextual [F3,f324,trD,H9,w9]
theorem ig (n fu:Nat)(a:Int)(m:Mem):G9 KW fu (n+2) (.func 141) [.int .i64 a] m=some [⟨.bool (decide (1≤a)&&decide (a≤1099511627776)),m⟩]:=by
 rw [enter (sf:=f141) rfl rfl]
 simp [F3,f141,trD,H9,N9]
theorem U5 (n fu:Nat)(a:Int)(m:Mem):G9 KW fu (n+2) (.func 69) [.int .i64 a] m=some [⟨.bool (decide (0≤a)&&decide (a≤1099511627776)),m⟩]:=by
 rw [enter (sf:=f69) rfl rfl]
 simp [F3,f69,trD,H9,N9]
theorem zA (n fu:Nat)(a:Int)(m:Mem):G9 KW fu (n+2) (.func 37) [.int .i64 a] m=some [⟨.bool (decide (0≤a)&&decide (a≤1099511627776)),m⟩]:=by
 rw [enter (sf:=f37) rfl rfl]
 simp [F3,f37,trD,H9,U8]
theorem bX (n fu:Nat)(a:Int)(m:Mem):G9 KW fu (n+2) (.func 71) [.int .i64 a] m=some [⟨.bool (decide (0≤a)&&decide (a≤20000)),m⟩]:=by
 rw [enter (sf:=f71) rfl rfl]
 simp [F3,f71,trD,H9,bQ]
theorem Y7 (n fu:Nat)(a:Int)(m:Mem):G9 KW fu (n+2) (.func 260) [.int .i64 a] m=some [⟨.bool (decide (0≤a)&&decide (a≤20000)),m⟩]:=by
 rw [enter (sf:=f260) rfl rfl]
 simp [F3,f260,trD,H9,R6]
theorem Ba (n fu:Nat)(l h a b:Int)(m:Mem)(hm:m.Ok):G9 KW fu (n+1) (.func 136) [.agg [.int .i64 l,.int .i64 h],.int .i64 a,.int .i64 b] m =
  some [⟨.bool (decide (a≤l)&&decide (l≤h)&&decide (h≤b)),ext m [D9 [.int .i64 l,.int .i64 h]]⟩]:=by
 rw [enter (sf:=f136) rfl rfl]
 simp +contextual [F3,f136,trD,H9,w9,D5,D7,j5 hm,j6 hm]
theorem Gc (n fu:Nat)(l h a b:Int)(m:Mem)(hm:m.Ok):G9 KW fu (n+1) (.func 70) [.agg [.int .i64 l,.int .i64 h],.int .i64 a,.int .i64 b] m =
  some [⟨.bool (decide (a≤l)&&decide (l≤h)&&decide (h≤b)),ext m [D9 [.int .i64 l,.int .i64 h]]⟩]:=by
 rw [enter (sf:=f70) rfl rfl]
 simp +contextual [F3,f70,trD,H9,w9,D5,D7,j5 hm,j6 hm]
theorem LZ (n fu:Nat)(l h a b:Int)(m:Mem)(hm:m.Ok):G9 KW fu (n+1) (.func 98) [.agg [.int .i64 l,.int .i64 h],.int .i64 a,.int .i64 b] m =
  some [⟨.bool (decide (a≤l)&&decide (l≤h)&&decide (h≤b)),ext m [D9 [.int .i64 l,.int .i64 h]]⟩]:=by
 rw [enter (sf:=f98) rfl rfl]
 simp +contextual [F3,f98,trD,H9,w9,D5,D7,j5 hm,j6 hm]
theorem Gd (n fu:Nat)(l h a b:Int)(m:Mem)(hm:m.Ok):G9 KW fu (n+1) (.func 161) [.agg [.int .i64 l,.int .i64 h],.int .i64 a,.int .i64 b] m =
  some [⟨.bool (decide (a≤l)&&decide (l≤h)&&decide (h≤b)),ext m [D9 [.int .i64 l,.int .i64 h]]⟩]:=by
 rw [enter (sf:=f161) rfl rfl]
 simp +contextual [F3,f161,trD,H9,w9,D5,D7,j5 hm,j6 hm]
theorem rF (n fu:Nat)(f:Fct)(m:Mem)(hm:m.Ok)(hl:m.lim≤m.next):G9 KW fu (n+1) (.func 35) [.agg f.cells] m =
  some [⟨.agg [.int .i64 f.room,.int .i64 f.no],ext m [D9 f.cells,D9 [.int .i64 f.room,.int .i64 f.no]]⟩]:=by
 rw [enter (sf:=f35) rfl rfl]
 simp [f35,F3,trD,H9,w9,p8,l8,NU,D5,D7,j5 hm,j6 hm,G6 hm hl,x9 hm hl,l9 hm,l5 hm,G5,r9,C8,A8,K4]
theorem Od (n fu:Nat)(f:Fct)(m:Mem)(hm:m.Ok)(hl:m.lim≤m.next):∃m',G9 KW fu (n+2) (.func 135) [.agg f.cells] m=some [⟨.bool (decide (0≤f.flo)&&decide (f.flo≤f.fhi)&&decide (f.fhi≤1000000)),m'⟩]∧Ext m m':=by
 rw [enter (sf:=f135) rfl rfl]
 refine⟨ext m [D9 f.cells,D9 [.int .i64 f.flo,.int .i64 f.fhi]],?_,G7 hm _⟩
 simp +contextual [f135,F3,trD,H9,w9,p8,l8,NU,D5,D7,j5 hm,j6 hm,G6 hm hl,x9 hm hl,l9 hm,l5 hm,G5,r9,C8,A8,K4,Ba _ _ _ _ _ _ _ (K5 hm _)]
theorem Oe (n fu:Nat)(f:Fct)(m:Mem)(hm:m.Ok)(hl:m.lim≤m.next):∃m',G9 KW fu (n+3) (.func 140) [.agg f.cells] m=some [⟨.bool ((decide (1≤f.ug)&&decide (f.ug≤1099511627776))&&(decide (0≤f.ud)&&decide (f.ud≤20000))),m'⟩]∧Ext m m':=by
 rw [enter (sf:=f140) rfl rfl]
 refine⟨ext m [D9 f.cells],?_,G7 hm _⟩
 simp +contextual [f140,F3,trD,H9,w9,p8,l8,NU,D5,D7,j5 hm,j6 hm,G6 hm hl,x9 hm hl,l9 hm,l5 hm,G5,r9,C8,A8,K4,ig,N9]
end Go.Proofs.YtefodipjjofocaaGreatDoor.TT
namespace Go.Proofs.YtefodipjjofocaaGreatDoor.TT
open Go Go.AM
set_option linter.unusedSimpArgs false
set_option linter.unusedVariables false
theorem Og {m:Mem}{v w:o8}{xs ys:List Int}(hv:dF m v xs)(hw:dF m w ys)(hxy:ys.length=xs.length)(hb:xs.length<1000000)(cf:L8)(fu:Nat)(a2:o8):
  ∀(j i:Nat),i+j=xs.length→∀(N:Nat),j<N→∀(a5 a6 a7:o8),
   ∃x k b5 b6 b7,V9 (fun env m k=>Ga cf fu none env m k) N (.nd (.nd (.nd (.nd .e a7 .e) (.int .i64 ((i:Nat):Int)) .e) w (.nd .e a5 .e)) v (.nd (.nd (.nd .e (.bool false) .e) (.int .i64 ((xs.length:Nat):Int)) .e) a2 (.nd .e a6 .e))) m []=some [⟨x,(.nd (.nd (.nd (.nd .e b7 .e) (.int .i64 ((k:Nat):Int)) .e) w (.nd .e b5 .e)) v (.nd (.nd (.nd .e (.bool false) .e) (.int .i64 ((xs.length:Nat):Int)) .e) a2 (.nd .e b6 .e))),m,[],none⟩]∧
    x=(if xs.drop i=ys.drop i then X5.exit 0 else .ret):=by
 intro j
 induction j with
 | zero=>
  intro i hi N hN a5 a6 a7
  obtain⟨N,rfl⟩:∃M,N=M+1:=⟨N-1,by omega⟩
  refine⟨.exit 0,i,.bool false,a6,a7,?_,?_⟩
  ·rw [F7]
   have h:¬ i<xs.length:=by omega
   simp [Ga,F3,trD,H9,w9,p8,l8,D5,D7,G5,r9,C8,A8,K4,h]
  ·rw [List.drop_of_length_le (by omega),List.drop_of_length_le (by omega)];rfl
 | succ j ih=>
  intro i hi N hN a5 a6 a7
  obtain⟨N,rfl⟩:∃M,N=M+1:=⟨N-1,by omega⟩
  have h:i<xs.length:=by omega
  have h':i<ys.length:=by omega
  obtain⟨p,e1,_,e2⟩:=hv.at h
  obtain⟨q,e3,_,e4⟩:=hw.at h'
  by_cases he:xs[i]=ys[i]
  ·obtain⟨x,k,b5,b6,b7,g1,g2⟩:=ih (i+1) (by omega) N (by omega) (.bool true) (.int .i64 i) (.bool false)
   refine⟨x,k,b5,b6,b7,?_,?_⟩
   ·rw [F7,← g1]
    simp [Ga,trD,H9,h,e1,e2,e3,e4,he,U1 (i:=i) (by omega)]
   ·rw [g2]
    have hd:(xs.drop i=ys.drop i)↔(xs.drop (i+1)=ys.drop (i+1)):=by
     rw [List.drop_eq_getElem_cons h,List.drop_eq_getElem_cons h',he]
     exact⟨fun hh=>(List.cons.inj hh).2,fun hh=>by rw [hh]⟩
    simp only [hd]
  ·refine⟨.ret,i,.bool true,.int .i64 i,.bool true,?_,?_⟩
   ·rw [F7]
    simp [Ga,trD,H9,h,e1,e2,e3,e4,he]
   ·rw [if_neg]
    intro hh
    rw [List.drop_eq_getElem_cons h,List.drop_eq_getElem_cons h'] at hh
    exact he (List.cons.inj hh).1
theorem Gf {m:Mem}{v w:o8}{xs ys:List Int}(hv:dF m v xs)(hw:dF m w ys)(hb:xs.length<1000)(n fu:Nat)(hfu:1000≤fu):
  G9 KW fu (n+1) (.func 41) [v,w] m=some [⟨.bool (decide (xs=ys)),m⟩]:=by
 rw [enter (sf:=f41) rfl rfl]
 have l1:=hv.len
 have l2:=hw.len
 by_cases hxy:ys.length=xs.length
 ·obtain⟨x,k,b5,b6,b7,g1,g2⟩:=Og hv hw hxy (by omega) (G9 KW fu n) fu (.bool false) xs.length 0 (by omega) fu (by omega) .undef .undef .undef
  have g2:x=if xs=ys then X5.exit 0 else .ret:=g2
  by_cases he:xs=ys
  ·rw [if_pos he] at g2
   subst g2
   simp [F3,f41,trD,H9,l1,l2,hxy,he] at g1 ⊢
   simp [g1]
  ·rw [if_neg he] at g2
   subst g2
   simp [F3,f41,trD,H9,l1,l2,hxy,he] at g1 ⊢
   simp [g1]
 ·have h1:¬ xs.length=ys.length:=fun h=>hxy h.symm
  have h2:¬ xs=ys:=fun h=>h1 (by rw [h])
  have h3:¬ ((xs.length:Nat):Int)=((ys.length:Nat):Int):=by omega
  simp [F3,f41,trD,H9,l1,l2,h3,h2]
end Go.Proofs.YtefodipjjofocaaGreatDoor.TT
namespace Go.Proofs.YtefodipjjofocaaGreatDoor.TT
open Go Go.AM
set_option linter.unusedSimpArgs false
set_option linter.unusedVariables false
theorem Kc {m:Mem}{v:o8}{xs:List Int}(hv:dF m v xs)(hb:xs.length<1000000)(n fu:Nat):
  ∀(j i:Nat),i+j=xs.length→∀(N:Nat),j<N→∀(a0 a1 a2 a3:o8),
   ∃x k b0 b1 b2 b3,V9 (fun env m k=>nu (G9 KW fu (n+1)) fu none env m k) N (.nd (.nd (.nd (.nd .e a3 .e) a0 .e) (.int .i64 ((i:Nat):Int)) (.nd .e a1 .e)) v (.nd (.nd (.nd .e (.bool false) .e) v .e) (.int .i64 ((xs.length:Nat):Int)) (.nd .e a2 .e))) m []=some [⟨x,(.nd (.nd (.nd (.nd .e b3 .e) b0 .e) (.int .i64 ((k:Nat):Int)) (.nd .e b1 .e)) v (.nd (.nd (.nd .e (.bool false) .e) v .e) (.int .i64 ((xs.length:Nat):Int)) (.nd .e b2 .e))),m,[],none⟩]∧x=(bif P9 (okB xs) j i then X5.exit 0 else .ret):=by
 intro j
 induction j with
 | zero=>
  intro i hi N hN a0 a1 a2 a3
  obtain⟨N,rfl⟩:∃M,N=M+1:=⟨N-1,by omega⟩
  refine⟨.exit 0,i,.bool false,a1,a2,a3,?_,rfl⟩
  rw [F7]
  have h:¬ i<xs.length:=by omega
  have l1:=hv.len
  simp [nu,F3,trD,H9,w9,p8,l8,h,l1]
 | succ j ih=>
  intro i hi N hN a0 a1 a2 a3
  obtain⟨N,rfl⟩:∃M,N=M+1:=⟨N-1,by omega⟩
  have h:i<xs.length:=by omega
  have l1:=hv.len
  obtain⟨p,e1,_,e2⟩:=hv.at h
  have hg:=eP h
  have good:okB xs i=true→∃x k b0 b1 b2 b3,V9 (fun env m k=>nu (G9 KW fu (n+1)) fu none env m k) (N+1) (.nd (.nd (.nd (.nd .e a3 .e) a0 .e) (.int .i64 ((i:Nat):Int)) (.nd .e a1 .e)) v (.nd (.nd (.nd .e (.bool false) .e) v .e) (.int .i64 ((xs.length:Nat):Int)) (.nd .e a2 .e))) m []=some [⟨x,(.nd (.nd (.nd (.nd .e b3 .e) b0 .e) (.int .i64 ((k:Nat):Int)) (.nd .e b1 .e)) v (.nd (.nd (.nd .e (.bool false) .e) v .e) (.int .i64 ((xs.length:Nat):Int)) (.nd .e b2 .e))),m,[],none⟩]∧x=(bif P9 (okB xs) (j+1) i then X5.exit 0 else .ret):=by
   intro hok
   obtain⟨x,k,b0,b1,b2,b3,g1,g2⟩:=ih (i+1) (by omega) N (by omega) (.bool true) ((.int .i64 xs[i])) ((.int .i64 (i:Nat))) (.bool false)
   refine⟨x,k,b0,b1,b2,b3,?_,by rw [g2];simp [P9,hok]⟩
   rw [F7,← g1]
   simp only [okB,hg,Bool.and_eq_true,Bool.or_eq_true,decide_eq_true_eq] at hok
   obtain⟨⟨h1,h2⟩,h3⟩:=hok
   by_cases h0:i=0
   ·have h4:¬ 0<i:=by omega
    simp [nu,F3,trD,H9,w9,p8,l8,h,l1,e1,e2,h1,h2,h4,R6,U1 (i:=i) (by omega)]
   ·have hp:i-1<xs.length:=by omega
    obtain⟨q,e3,_,e4⟩:=hv.at hp
    have h3:=h3.resolve_left h0
    rw [eP hp] at h3
    have h4:0<i:=by omega
    have h5:¬ xs[i]≤xs[i-1]:=by omega
    simp [nu,F3,trD,H9,w9,p8,l8,h,l1,e1,e2,e3,e4,h1,h2,h4,h5,R6,U1 (i:=i) (by omega),gV (i:=i) h4 (by omega)]
  cases hok:okB xs i with
  | true=>exact good hok
  | false=>
   refine⟨.ret,i,.bool true,.int .i64 xs[i],.int .i64 (i:Nat),.bool true,?_,by simp [P9,hok]⟩
   rw [F7]
   simp only [okB,hg] at hok
   by_cases h0:i=0
   ·have hr:(decide (1≤xs[i])&&decide (xs[i]≤1099511627776))=false:=by simpa [h0] using hok
    simp [nu,F3,trD,H9,w9,p8,l8,h,l1,e1,e2,hr,R6]
   ·have hp:i-1<xs.length:=by omega
    obtain⟨q,e3,_,e4⟩:=hv.at hp
    have h4:0<i:=by omega
    rw [eP hp,show decide (i=0)=false from decide_eq_false h0,Bool.false_or] at hok
    cases hr:(decide (1≤xs[i])&&decide (xs[i]≤1099511627776)) with
    | false=>simp [nu,F3,trD,H9,w9,p8,l8,h,l1,e1,e2,hr,R6]
    | true=>
     rw [hr,Bool.true_and] at hok
     have h5:xs[i]≤xs[i-1]:=by simpa using hok
     simp [nu,F3,trD,H9,w9,p8,l8,h,l1,e1,e2,e3,e4,hr,h4,h5,R6,gV (i:=i) h4 (by omega)]
theorem Gg {m:Mem}{v:o8}{xs:List Int}(hv:dF m v xs)(hb:xs.length<1000)(n fu:Nat)(hfu:1000≤fu):
  G9 KW fu (n+2) (.func 329) [v] m=some [⟨.bool (P9 (okB xs) xs.length 0&&decide (xs.length≤6)),m⟩]:=by
 rw [enter (sf:=f329) rfl rfl]
 have l1:=hv.len
 obtain⟨x,k,b0,b1,b2,b3,g1,g2⟩:=Kc hv (by omega) n fu xs.length 0 (by omega) fu (by omega) .undef .undef .undef .undef
 cases ha:P9 (okB xs) xs.length 0<;>rw [ha] at g2<;>simp only [cond_true,cond_false] at g2<;>subst g2<;>simp [f329,F3,trD,H9,w9,p8,l8,l1] at g1 ⊢ <;> simp [g1,l1]
 omega
theorem Oh {m:Mem}{v:o8}{xs:List Int}(hv:dF m v xs)(hb:xs.length<1000000)(n fu:Nat):
  ∀(j i:Nat),i+j=xs.length→∀(N:Nat),j<N→∀(a0 a1:o8),
   ∃x k b0 b1,V9 (fun env m k=>vO (G9 KW fu (n+1)) fu none env m k) N (.nd (.nd (.nd .e a1 .e) v .e) (.int .i64 ((i:Nat):Int)) (.nd (.nd .e (.bool false) .e) a0 .e)) m []=some [⟨x,(.nd (.nd (.nd .e b1 .e) v .e) (.int .i64 ((k:Nat):Int)) (.nd (.nd .e (.bool false) .e) b0 .e)),m,[],none⟩]∧x=(bif P9 (okB xs) j i then X5.exit 0 else .ret):=by
 intro j
 induction j with
 | zero=>
  intro i hi N hN a0 a1
  obtain⟨N,rfl⟩:∃M,N=M+1:=⟨N-1,by omega⟩
  refine⟨.exit 0,i,.bool false,a1,?_,rfl⟩
  rw [F7]
  have h:¬ i<xs.length:=by omega
  have l1:=hv.len
  simp [vO,F3,trD,H9,w9,p8,l8,h,l1]
 | succ j ih=>
  intro i hi N hN a0 a1
  obtain⟨N,rfl⟩:∃M,N=M+1:=⟨N-1,by omega⟩
  have h:i<xs.length:=by omega
  have l1:=hv.len
  obtain⟨p,e1,_,e2⟩:=hv.at h
  have hg:=eP h
  have good:okB xs i=true→∃x k b0 b1,V9 (fun env m k=>vO (G9 KW fu (n+1)) fu none env m k) (N+1) (.nd (.nd (.nd .e a1 .e) v .e) (.int .i64 ((i:Nat):Int)) (.nd (.nd .e (.bool false) .e) a0 .e)) m []=some [⟨x,(.nd (.nd (.nd .e b1 .e) v .e) (.int .i64 ((k:Nat):Int)) (.nd (.nd .e (.bool false) .e) b0 .e)),m,[],none⟩]∧x=(bif P9 (okB xs) (j+1) i then X5.exit 0 else .ret):=by
   intro hok
   obtain⟨x,k,b0,b1,g1,g2⟩:=ih (i+1) (by omega) N (by omega) (.bool true) (.bool false)
   refine⟨x,k,b0,b1,?_,by rw [g2];simp [P9,hok]⟩
   rw [F7,← g1]
   simp only [okB,hg,Bool.and_eq_true,Bool.or_eq_true,decide_eq_true_eq] at hok
   obtain⟨⟨h1,h2⟩,h3⟩:=hok
   by_cases h0:i=0
   ·have h4:¬ 0<i:=by omega
    simp [vO,F3,trD,H9,w9,p8,l8,h,l1,e1,e2,h1,h2,h4,bQ,U1 (i:=i) (by omega)]
   ·have hp:i-1<xs.length:=by omega
    obtain⟨q,e3,_,e4⟩:=hv.at hp
    have h3:=h3.resolve_left h0
    rw [eP hp] at h3
    have h4:0<i:=by omega
    have h5:¬ xs[i]≤xs[i-1]:=by omega
    simp [vO,F3,trD,H9,w9,p8,l8,h,l1,e1,e2,e3,e4,h1,h2,h4,h5,bQ,U1 (i:=i) (by omega),gV (i:=i) h4 (by omega)]
  cases hok:okB xs i with
  | true=>exact good hok
  | false=>
   refine⟨.ret,i,.bool true,.bool true,?_,by simp [P9,hok]⟩
   rw [F7]
   simp only [okB,hg] at hok
   by_cases h0:i=0
   ·have hr:(decide (1≤xs[i])&&decide (xs[i]≤1099511627776))=false:=by simpa [h0] using hok
    simp [vO,F3,trD,H9,w9,p8,l8,h,l1,e1,e2,hr,bQ]
   ·have hp:i-1<xs.length:=by omega
    obtain⟨q,e3,_,e4⟩:=hv.at hp
    have h4:0<i:=by omega
    rw [eP hp,show decide (i=0)=false from decide_eq_false h0,Bool.false_or] at hok
    cases hr:(decide (1≤xs[i])&&decide (xs[i]≤1099511627776)) with
    | false=>simp [vO,F3,trD,H9,w9,p8,l8,h,l1,e1,e2,hr,bQ]
    | true=>
     rw [hr,Bool.true_and] at hok
     have h5:xs[i]≤xs[i-1]:=by simpa using hok
     simp [vO,F3,trD,H9,w9,p8,l8,h,l1,e1,e2,e3,e4,hr,h4,h5,bQ,gV (i:=i) h4 (by omega)]
theorem Ma {m:Mem}{v:o8}{xs:List Int}(hv:dF m v xs)(hb:xs.length<1000)(n fu:Nat)(hfu:1000≤fu):
  G9 KW fu (n+2) (.func 72) [v] m=some [⟨.bool (P9 (okB xs) xs.length 0&&decide (xs.length≤6)),m⟩]:=by
 rw [enter (sf:=f72) rfl rfl]
 have l1:=hv.len
 obtain⟨x,k,b0,b1,g1,g2⟩:=Oh hv (by omega) n fu xs.length 0 (by omega) fu (by omega) .undef .undef
 cases ha:P9 (okB xs) xs.length 0<;>rw [ha] at g2<;>simp only [cond_true,cond_false] at g2<;>subst g2<;>simp [f72,F3,trD,H9,w9,p8,l8,l1] at g1 ⊢ <;> simp [g1,l1]
 omega
theorem Ke {m:Mem}(hm:m.Ok){v:o8}{day:Int}{xs:List Int}(hv:dF (ext m [D9 [.int .i64 day,v]]) v xs)(hb:xs.length<1000000)(n fu:Nat):
  ∀(j i:Nat),i+j=xs.length→∀(N:Nat),j<N→∀(a0 a1 a2 a3:o8),
   ∃x k b0 b1 b2 b3,V9 (fun env m k=>ni (G9 KW fu (n+2)) fu none env m k) N (.nd (.nd (.nd (.nd .e a2 .e) (.int .i64 ((xs.length:Nat):Int)) .e) (.ptr m.next 0) (.nd (.nd .e (.bool false) .e) v .e)) (.agg [.int .i64 day,v]) (.nd (.nd (.nd .e a3 .e) a0 .e) (.int .i64 ((i:Nat):Int)) (.nd .e a1 .e))) (ext m [D9 [.int .i64 day,v]]) []=some [⟨x,(.nd (.nd (.nd (.nd .e b2 .e) (.int .i64 ((xs.length:Nat):Int)) .e) (.ptr m.next 0) (.nd (.nd .e (.bool false) .e) v .e)) (.agg [.int .i64 day,v]) (.nd (.nd (.nd .e b3 .e) b0 .e) (.int .i64 ((k:Nat):Int)) (.nd .e b1 .e))),(ext m [D9 [.int .i64 day,v]]),[],none⟩]∧x=(bif P9 (okB xs) j i then X5.exit 0 else .ret):=by
 intro j
 induction j with
 | zero=>
  intro i hi N hN a0 a1 a2 a3
  obtain⟨N,rfl⟩:∃M,N=M+1:=⟨N-1,by omega⟩
  refine⟨.exit 0,i,.bool false,a1,a2,a3,?_,rfl⟩
  rw [F7]
  have h:¬ i<xs.length:=by omega
  have l1:=hv.len
  simp [ni,F3,trD,H9,w9,p8,l8,h,l1,j5 hm]
 | succ j ih=>
  intro i hi N hN a0 a1 a2 a3
  obtain⟨N,rfl⟩:∃M,N=M+1:=⟨N-1,by omega⟩
  have h:i<xs.length:=by omega
  have l1:=hv.len
  obtain⟨p,e1,_,e2⟩:=hv.at h
  have hg:=eP h
  have good:okB xs i=true→∃x k b0 b1 b2 b3,V9 (fun env m k=>ni (G9 KW fu (n+2)) fu none env m k) (N+1) (.nd (.nd (.nd (.nd .e a2 .e) (.int .i64 ((xs.length:Nat):Int)) .e) (.ptr m.next 0) (.nd (.nd .e (.bool false) .e) v .e)) (.agg [.int .i64 day,v]) (.nd (.nd (.nd .e a3 .e) a0 .e) (.int .i64 ((i:Nat):Int)) (.nd .e a1 .e))) (ext m [D9 [.int .i64 day,v]]) []=some [⟨x,(.nd (.nd (.nd (.nd .e b2 .e) (.int .i64 ((xs.length:Nat):Int)) .e) (.ptr m.next 0) (.nd (.nd .e (.bool false) .e) v .e)) (.agg [.int .i64 day,v]) (.nd (.nd (.nd .e b3 .e) b0 .e) (.int .i64 ((k:Nat):Int)) (.nd .e b1 .e))),(ext m [D9 [.int .i64 day,v]]),[],none⟩]∧x=(bif P9 (okB xs) (j+1) i then X5.exit 0 else .ret):=by
   intro hok
   obtain⟨x,k,b0,b1,b2,b3,g1,g2⟩:=ih (i+1) (by omega) N (by omega) (.bool true) ((.int .i64 xs[i])) ((.int .i64 (i:Nat))) (.bool false)
   refine⟨x,k,b0,b1,b2,b3,?_,by rw [g2];simp [P9,hok]⟩
   rw [F7,← g1]
   simp only [okB,hg,Bool.and_eq_true,Bool.or_eq_true,decide_eq_true_eq] at hok
   obtain⟨⟨h1,h2⟩,h3⟩:=hok
   by_cases h0:i=0
   ·have h4:¬ 0<i:=by omega
    simp [ni,F3,trD,H9,w9,p8,l8,h,l1,e1,e2,h1,h2,h4,ig,U1 (i:=i) (by omega),j5 hm]
   ·have hp:i-1<xs.length:=by omega
    obtain⟨q,e3,_,e4⟩:=hv.at hp
    have h3:=h3.resolve_left h0
    rw [eP hp] at h3
    have h4:0<i:=by omega
    have h5:¬ xs[i]≤xs[i-1]:=by omega
    simp [ni,F3,trD,H9,w9,p8,l8,h,l1,e1,e2,e3,e4,h1,h2,h4,h5,ig,U1 (i:=i) (by omega),gV (i:=i) h4 (by omega),j5 hm]
  cases hok:okB xs i with
  | true=>exact good hok
  | false=>
   refine⟨.ret,i,.bool true,.int .i64 xs[i],.int .i64 (i:Nat),.bool true,?_,by simp [P9,hok]⟩
   rw [F7]
   simp only [okB,hg] at hok
   by_cases h0:i=0
   ·have hr:(decide (1≤xs[i])&&decide (xs[i]≤1099511627776))=false:=by simpa [h0] using hok
    simp [ni,F3,trD,H9,w9,p8,l8,h,l1,e1,e2,hr,ig,j5 hm]
   ·have hp:i-1<xs.length:=by omega
    obtain⟨q,e3,_,e4⟩:=hv.at hp
    have h4:0<i:=by omega
    rw [eP hp,show decide (i=0)=false from decide_eq_false h0,Bool.false_or] at hok
    cases hr:(decide (1≤xs[i])&&decide (xs[i]≤1099511627776)) with
    | false=>simp [ni,F3,trD,H9,w9,p8,l8,h,l1,e1,e2,hr,ig,j5 hm]
    | true=>
     rw [hr,Bool.true_and] at hok
     have h5:xs[i]≤xs[i-1]:=by simpa using hok
     simp [ni,F3,trD,H9,w9,p8,l8,h,l1,e1,e2,e3,e4,hr,h4,h5,ig,gV (i:=i) h4 (by omega),j5 hm]
theorem Oi {m:Mem}(hm:m.Ok){v:o8}{day:Int}{xs:List Int}(hv:dF m v xs)(hb:xs.length<1000)(n fu:Nat)(hfu:1000≤fu):
  G9 KW fu (n+3) (.func 149) [.agg [.int .i64 day,v]] m=some [⟨.bool (P9 (okB xs) xs.length 0&&((decide (0≤day)&&decide (day≤19999))&&(decide (2≤xs.length)&&decide (xs.length≤5)))),ext m [D9 [.int .i64 day,v]]⟩]:=by
 rw [enter (sf:=f149) rfl rfl]
 have hv:=hv.ext (G7 hm [D9 [.int .i64 day,v]])
 have l1:=hv.len
 have hz:v.cells=[v]:=hv.cells
 obtain⟨x,k,b0,b1,b2,b3,g1,g2⟩:=Ke hm hv (by omega) n fu xs.length 0 (by omega) fu (by omega) .undef .undef .undef .undef
 have c2:decide (2≤((xs.length:Nat):Int))=decide (2≤xs.length):=by rw [Bool.eq_iff_iff];simp;omega
 have c3:decide (((xs.length:Nat):Int)≤5)=decide (xs.length≤5):=by rw [Bool.eq_iff_iff];simp;omega
 cases ha:P9 (okB xs) xs.length 0<;>rw [ha] at g2<;>simp only [cond_true,cond_false] at g2<;>subst g2<;>simp [f149,F3,trD,H9,w9,p8,l8,l1,D5,j5 hm,hz] at g1 ⊢
 ·simp [g1]
 ·simp +contextual [g1,l1,j5 hm,F3,trD,H9,w9,p8,l8,N9,c2,c3]
end Go.Proofs.YtefodipjjofocaaGreatDoor.TT
namespace Go.Proofs.YtefodipjjofocaaGreatDoor.TT
open Go Go.AM
set_option linter.unusedSimpArgs false
set_option linter.unusedVariables false
@[simp] theorem Oj:dK .nilSlice .nilSlice=some true:=id rfl
@[simp] theorem Kg (a b c d:Nat):dK (.slice a b c d) .nilSlice=some false:=id rfl
@[simp] theorem IY (a b c d:Nat):dK (.sliceU a b c d) .nilSlice=some false:=id rfl
theorem Kh (x:Int)(n fu:Nat)(hfu:1000≤fu)(m:Mem):G9 KW fu (n+1) (.func 184) [.nilSlice,.int .i64 x] m=some [⟨.int .i64 (.negSucc 0),m⟩]:=by
 rw [enter (sf:=f184) rfl rfl]
 obtain⟨N,rfl⟩:∃M,fu=M+1:=⟨fu-1,by omega⟩
 simp [f184,F3,trD,H9,w9,p8,l8,F7,LJ]
theorem Ki (x:Int)(n fu:Nat)(hfu:1000≤fu)(m:Mem):G9 KW fu (n+2) (.func 197) [.nilSlice,.int .i64 x] m=some [⟨.bool false,m⟩]:=by
 rw [enter (sf:=f197) rfl rfl]
 simp [f197,F3,trD,H9,w9,p8,l8,Kh x n fu hfu]
theorem Kj (x:Int)(n fu:Nat)(hfu:1000≤fu){m:Mem}{p:Nat}(hp:m.get p=some (D9 [.nilSlice])):G9 KW fu (n+3) (.func 300) [.int .i64 x,.ptr p 0] m=some [⟨.bool false,m⟩]:=by
 rw [enter (sf:=f300) rfl rfl]
 simp [f300,F3,trD,H9,w9,p8,l8,hp,Ki x n fu hfu]
theorem Kk {m:Mem}{v:o8}{xs:List Int}{p:Nat}(hv:dF m v xs)(hp:m.get p=some (D9 [.nilSlice]))(hb:xs.length<1000000)(n fu:Nat)(hfu:1000≤fu):
  ∀(j i:Nat),i+j=xs.length→∀(N:Nat),j<N→∀(a0 a1 a2:o8),
   ∃k b0 b1 b2,V9 (fun env m k=>zo (G9 KW fu (n+3)) fu none env m k) N (.nd (.nd (.nd (.nd .e (.int .i64 0) .e) a0 .e) (.int .i64 ((i:Nat):Int)) (.nd .e a1 .e)) v (.nd (.nd .e (.func (.func 300) [] [.ptr p 0]) .e) (.int .i64 ((xs.length:Nat):Int)) (.nd .e a2 .e))) m []=some [⟨.exit 0,(.nd (.nd (.nd (.nd .e (.int .i64 0) .e) b0 .e) (.int .i64 ((k:Nat):Int)) (.nd .e b1 .e)) v (.nd (.nd .e (.func (.func 300) [] [.ptr p 0]) .e) (.int .i64 ((xs.length:Nat):Int)) (.nd .e b2 .e))),m,[],none⟩]:=by
 intro j
 induction j with
 | zero=>
  intro i hi N hN a0 a1 a2
  obtain⟨N,rfl⟩:∃M,N=M+1:=⟨N-1,by omega⟩
  refine⟨i,.bool false,a1,a2,?_⟩
  rw [F7]
  have h:¬ i<xs.length:=by omega
  simp [zo,F3,trD,H9,w9,p8,l8,h]
 | succ j ih=>
  intro i hi N hN a0 a1 a2
  obtain⟨N,rfl⟩:∃M,N=M+1:=⟨N-1,by omega⟩
  have h:i<xs.length:=by omega
  obtain⟨q,e1,_,e2⟩:=hv.at h
  obtain⟨k,b0,b1,b2,g1⟩:=ih (i+1) (by omega) N (by omega) (.bool true) (.int .i64 i) (.bool false)
  refine⟨k,b0,b1,b2,?_⟩
  rw [F7,← g1]
  simp [zo,F3,trD,H9,w9,p8,l8,h,e1,e2,Kj _ n fu hfu hp,U1 (i:=i) (by omega)]
theorem Kl {m:Mem}{v:o8}{xs:List Int}{p:Nat}(hv:dF m v xs)(hp:m.get p=some (D9 [.nilSlice]))(hb:xs.length<1000)(n fu:Nat)(hfu:1000≤fu):
  G9 KW fu (n+4) (.func 130) [v,.func (.func 300) [] [.ptr p 0]] m=some [⟨.int .i64 (.negSucc 0),m⟩]:=by
 rw [enter (sf:=f130) rfl rfl]
 have l1:=hv.len
 obtain⟨k,b0,b1,b2,g1⟩:=Kk hv hp (by omega) n fu hfu xs.length 0 (by omega) fu (by omega) .undef .undef .undef
 simp [f130,F3,trD,H9,w9,p8,l8,l1] at g1 ⊢
 simp [g1]
theorem Km {m:Mem}{v:o8}{xs:List Int}{p:Nat}(hv:dF m v xs)(hp:m.get p=some (D9 [.nilSlice]))(hb:xs.length<1000)(n fu:Nat)(hfu:1000≤fu):
  G9 KW fu (n+5) (.func 299) [v,.func (.func 300) [] [.ptr p 0]] m=some [⟨v,m⟩]:=by
 rw [enter (sf:=f299) rfl rfl]
 simp [f299,F3,trD,H9,w9,p8,l8,Kl hv hp hb n fu hfu]
theorem vP {m:Mem}{v:o8}{xs:List Int}(hm:m.Ok)(hl:m.lim≤m.next)(hv:dF m v xs)(hb:xs.length<1000)(n fu:Nat):
  ∃v' m',G9 KW fu (n+1) (.func 153) [v] m=some [⟨v',m'⟩]∧Ext m m'∧dF m' v' xs:=by
 rw [enter (sf:=f153) rfl rfl]
 rcases hv with⟨rfl,rfl⟩ | hv
 ·refine⟨.nilSlice,m,?_,Ext.refl hm,.inl ⟨rfl,rfl⟩⟩
  simp [f153,F3,trD,H9,w9,p8,l8]
 ·have hv':dF m v xs:=.inr hv
  have hne:dK v .nilSlice=some false:=by
   obtain⟨id,⟨c,rfl⟩ | ⟨c,rfl⟩,_⟩:=hv<;>rfl
  have hz:dL 1 0 [] (fun b=>some (o8.slice m.next 0 0 0,some b))=some (.slice m.next 0 0 0,some (.cells 1 0 (T.ofList []))):=rfl
  have hL:∀z env,I6 1 0 z [] [] env m.next=some (.slice m.next 0 0 0,some (.cells 1 0 (T.ofList []))):=fun z env=>rfl
  have hv1:dF (m.new (.cells 1 0 (T.ofList []))) v xs:=hv'.ext ((Ext.refl hm).new _)
  cases hx:xs with
  | nil=>
   subst hx
   refine⟨.slice m.next 0 0 0,m.new (.cells 1 0 (T.ofList [])),?_,(Ext.refl hm).new _,.inr ⟨m.next,.inl ⟨0,rfl⟩,by simp,.inl rfl⟩⟩
   have hA':∀(l r:T o8) cf,dG 1 8 oL0 (R5 gH) cf [.slice m.next 0 0 0] (.nd l v r) (m.new (.cells 1 0 (T.ofList [])))=some [⟨.slice m.next 0 0 0,m.new (.cells 1 0 (T.ofList []))⟩]:=by
    intro l r cf
    show ob (Go.AM.lenOf v) (fun n=>ob (U2 _ 1 n v) fun new=>lX _ 1 8 n new (.slice m.next 0 0 0))=_
    rw [hv'.lenOf];simp only [O3,List.length_nil]
    have:=hv1.read
    rw [List.length_nil] at this
    rw [this];rfl
   simp [f153,F3,trD,H9,w9,p8,l8,hne,hL,hA']
  | cons x xs'=>
   obtain⟨m',g1,g2,g3⟩:=Du (m:=m.new (.cells 1 0 (T.ofList []))) (Mem.Ok.new hm _) xs
   refine⟨_,m',?_,((Ext.refl hm).new _).trans g2,by rw [← hx];exact g3⟩
   have hA':∀(l r:T o8) cf,dG 1 8 oL0 (R5 gH) cf [.slice m.next 0 0 0] (.nd l v r) (m.new (.cells 1 0 (T.ofList [])))=some [⟨.sliceU (m.new (.cells 1 0 (T.ofList []))).next 0 xs.length 1,m'⟩]:=by
    intro l r cf
    show ob (Go.AM.lenOf v) (fun n=>ob (U2 _ 1 n v) fun new=>lX _ 1 8 n new (.slice m.next 0 0 0))=_
    rw [hv'.lenOf];simp only [O3]
    rw [hv1.read];simp only [O3]
    show lW _ 1 8 xs.length (ints xs) m.next 0 0 0=_
    unfold lW
    have hp:0<xs.length:=by rw [hx];simp
    rw [show Nat.ble (Nat.add 0 xs.length) 0=false from by
     cases hb':Nat.ble (Nat.add 0 xs.length) 0 with
     | false=>rfl
     | true=>
      have h1:=Nat.le_of_ble_eq_true hb'
      have e0:Nat.add 0 xs.length=xs.length:=Nat.zero_add _
      rw [e0] at h1
      omega]
    rw [Y8]
    have hbig:big (Nat.add 0 xs.length) 8 1=true:=by
     have e:Nat.add 0 xs.length=xs.length:=Nat.zero_add _
     unfold big
     rw [e,show Nat.ble (Nat.mul (Nat.add (Nat.mul 2 xs.length) 2048) 8) 281474976710656=true from Nat.ble_eq_true_of_le (by show (2*xs.length+2048)*8≤281474976710656;omega)]
     rfl
    rw [hbig,ay]
    show ob (U6 _ m.next 0 (Nat.mul 0 1)) _=_
    have e:Nat.mul 0 1=0:=rfl
    rw [e]
    show grown (m.new (.cells 1 0 (T.ofList []))) 1 (Nat.add 0 xs.length) (gJ [] (ints xs))=_
    have e2:Nat.add 0 xs.length=xs.length:=Nat.zero_add _
    rw [e2,U9,List.nil_append,g1]
   simp [f153,F3,trD,H9,w9,p8,l8,hne,hL,hA']
theorem Gh {m:Mem}{v:o8}{xs:List Int}(hm:m.Ok)(hl:m.lim≤m.next)(hv:dF m v xs)(hb:xs.length<1000)(n fu:Nat)(hfu:1000≤fu):
  ∃v' m',G9 KW fu (n+6) (.func 205) [v,.nilSlice] m=some [⟨v',m'⟩]∧Ext m m'∧dF m' v' xs:=by
 rw [enter (sf:=f205) rfl rfl]
 have hv1:=hv.ext (G7 hm [D9 [.nilSlice]])
 obtain⟨v',m',g1,g2,g3⟩:=vP (m:=ext m [D9 [.nilSlice]]) (K5 hm _) (by simp;omega) hv1 hb (n+4) fu
 have hp:m'.get m.next=some (D9 [.nilSlice]):=by
  rw [g2.old _ (by simp)]
  rw [j5 hm];rfl
 refine⟨v',m',?_,(G7 hm _).trans g2,g3⟩
 simp [f205,F3,trD,H9,w9,p8,l8,D5,g1,g3.pan,Km g3 hp hb n fu hfu]
theorem Dx {m:Mem}{v:o8}{xs:List Int}(hm:m.Ok)(hl:m.lim≤m.next)(hv:dF m v xs)(n fu:Nat)(hfu:1000≤fu):
  G9 KW fu (n+6) (.func 205) [.nilSlice,v] m=some [⟨.nilSlice,ext m [D9 [v]]⟩]:=by
 rw [enter (sf:=f205) rfl rfl]
 obtain⟨N,rfl⟩:∃M,fu=M+1:=⟨fu-1,by omega⟩
 have hz:=hv.cells
 have c153:G9 KW (N+1) (n+5) (.func 153) [.nilSlice] (ext m [D9 [v]])=some [⟨.nilSlice,ext m [D9 [v]]⟩]:=by
  rw [enter (sf:=f153) rfl rfl]
  simp [f153,F3,trD,H9,w9,p8,l8]
 have c130:G9 KW (N+1) (n+4) (.func 130) [.nilSlice,.func (.func 300) [] [.ptr m.next 0]] (ext m [D9 [v]])=some [⟨.int .i64 (.negSucc 0),ext m [D9 [v]]⟩]:=by
  rw [enter (sf:=f130) rfl rfl]
  simp [f130,F3,trD,H9,w9,p8,l8,F7,zo]
 have c299:G9 KW (N+1) (n+5) (.func 299) [.nilSlice,.func (.func 300) [] [.ptr m.next 0]] (ext m [D9 [v]])=some [⟨.nilSlice,ext m [D9 [v]]⟩]:=by
  rw [enter (sf:=f299) rfl rfl]
  simp [f299,F3,trD,H9,w9,p8,l8,c130]
 simp [f205,F3,trD,H9,w9,p8,l8,D5,hz,c153,c299]
theorem Ol {m:Mem}{v:o8}{xs:List Int}(hm:m.Ok)(hl:m.lim≤m.next)(hv:dF m v xs)(hb:xs.length<1000)(n fu:Nat)(hfu:1000≤fu):
  ∃v1 v2 m',G9 KW fu (n+7) (.func 309) [v,.nilSlice] m=some [⟨.tuple [v1,v2,.int .i64 (bif (P9 (okB xs) xs.length 0&&decide (xs.length≤6)) then 0 else 1)],m'⟩]∧Ext m m':=by
 rw [enter (sf:=f309) rfl rfl]
 have c1:=Gg hv hb (n+4) fu hfu
 have c2:G9 KW fu (n+6) (.func 329) [.nilSlice] m=some [⟨.bool true,m⟩]:=Gg (m:=m) (v:=.nilSlice) (xs:=[]) (.inl ⟨rfl,rfl⟩) (by simp) (n+4) fu hfu
 cases ha:(P9 (okB xs) xs.length 0&&decide (xs.length≤6)) with
 | false=>
  rw [ha] at c1
  refine⟨.nilSlice,.nilSlice,m,?_,Ext.refl hm⟩
  simp [f309,F3,trD,H9,w9,p8,l8,c1]
 | true=>
  rw [ha] at c1
  obtain⟨v',m',g1,g2,g3⟩:=Gh hm hl hv hb n fu hfu
  have hv2:=hv.ext g2
  have c3:=Dx (m:=m') g2.ok (by have h1:=g2.lim;have h2:=g2.next;omega) hv2 n fu hfu
  refine⟨v',.nilSlice,ext m' [D9 [v]],?_,g2.trans (G7 g2.ok _)⟩
  simp [f309,F3,trD,H9,w9,p8,l8,c1,c2,g1,g3.pan,c3]
theorem Gi {m:Mem}{v:o8}{xs:List Int}(hm:m.Ok)(hl:m.lim≤m.next)(hv:dF m v xs)(hb:xs.length<1000)(n fu:Nat)(hfu:1000≤fu):
  ∃m',G9 KW fu (n+8) (.func 227) [v] m=some [⟨.bool (P9 (okB xs) xs.length 0&&decide (xs.length≤6)),m'⟩]∧Ext m m':=by
 rw [enter (sf:=f227) rfl rfl]
 obtain⟨v1,v2,m',g1,g2⟩:=Ol hm hl hv hb n fu hfu
 refine⟨m',?_,g2⟩
 cases ha:(P9 (okB xs) xs.length 0&&decide (xs.length≤6))<;>rw [ha] at g1<;>simp [f227,F3,trD,H9,w9,p8,l8,g1]
end Go.Proofs.YtefodipjjofocaaGreatDoor.TT
namespace Go.Proofs.YtefodipjjofocaaGreatDoor.TT
open Go Go.AM
set_option linter.unusedSimpArgs false
set_option linter.unusedVariables false
theorem Om {m:Mem}{v w:o8}{xs ys:List Int}(hv:dF m v xs)(hw:dF m w ys)(hxy:ys.length=xs.length)(hb:xs.length<1000000)(cf:L8)(fu:Nat)(a2:o8):
  ∀(j i:Nat),i+j=xs.length→∀(N:Nat),j<N→∀(a4 a5:o8),
   ∃x k b4 b5,V9 (fun env m k=>FY cf fu none env m k) N (.nd (.nd (.nd .e (.int .i64 ((i:Nat):Int)) .e) w (.nd .e a5 .e)) v (.nd (.nd .e a4 .e) a2 (.nd .e (.bool false) .e))) m []=some [⟨x,(.nd (.nd (.nd .e (.int .i64 ((k:Nat):Int)) .e) w (.nd .e b5 .e)) v (.nd (.nd .e b4 .e) a2 (.nd .e (.bool false) .e))),m,[],none⟩]∧
    x=(if xs.drop i=ys.drop i then X5.exit 0 else .ret):=by
 have l1:=hv.len
 intro j
 induction j with
 | zero=>
  intro i hi N hN a4 a5
  obtain⟨N,rfl⟩:∃M,N=M+1:=⟨N-1,by omega⟩
  refine⟨.exit 0,i,.bool false,a5,?_,?_⟩
  ·rw [F7]
   have h:¬ i<xs.length:=by omega
   simp [FY,F3,trD,H9,h,l1]
  ·rw [List.drop_of_length_le (by omega),List.drop_of_length_le (by omega)];rfl
 | succ j ih=>
  intro i hi N hN a4 a5
  obtain⟨N,rfl⟩:∃M,N=M+1:=⟨N-1,by omega⟩
  have h:i<xs.length:=by omega
  have h':i<ys.length:=by omega
  obtain⟨p,e1,_,e2⟩:=hv.at h
  obtain⟨q,e3,_,e4⟩:=hw.at h'
  by_cases he:xs[i]=ys[i]
  ·obtain⟨x,k,b4,b5,g1,g2⟩:=ih (i+1) (by omega) N (by omega) (.bool true) (.bool false)
   refine⟨x,k,b4,b5,?_,?_⟩
   ·rw [F7,← g1]
    simp [FY,trD,H9,h,l1,e1,e2,e3,e4,he,U1 (i:=i) (by omega)]
   ·rw [g2]
    have hd:(xs.drop i=ys.drop i)↔(xs.drop (i+1)=ys.drop (i+1)):=by
     rw [List.drop_eq_getElem_cons h,List.drop_eq_getElem_cons h',he]
     exact⟨fun hh=>(List.cons.inj hh).2,fun hh=>by rw [hh]⟩
    simp only [hd]
  ·refine⟨.ret,i,.bool true,.bool true,?_,?_⟩
   ·rw [F7]
    simp [FY,trD,H9,h,l1,e1,e2,e3,e4,he]
   ·rw [if_neg]
    intro hh
    rw [List.drop_eq_getElem_cons h,List.drop_eq_getElem_cons h'] at hh
    exact he (List.cons.inj hh).1
theorem Gj {m:Mem}{v w:o8}{xs ys:List Int}(hv:dF m v xs)(hw:dF m w ys)(hb:xs.length<1000)(n fu:Nat)(hfu:1000≤fu):
  G9 KW fu (n+1) (.func 30) [v,w] m=some [⟨.bool (decide (xs=ys)),m⟩]:=by
 rw [enter (sf:=f30) rfl rfl]
 have l1:=hv.len
 have l2:=hw.len
 by_cases hxy:ys.length=xs.length
 ·obtain⟨x,k,b4,b5,g1,g2⟩:=Om hv hw hxy (by omega) (G9 KW fu n) fu (.bool false) xs.length 0 (by omega) fu (by omega) .undef .undef
  have g2:x=if xs=ys then X5.exit 0 else .ret:=g2
  by_cases he:xs=ys
  ·rw [if_pos he] at g2
   subst g2
   simp [F3,f30,trD,H9,l1,l2,hxy,he] at g1 ⊢
   simp [g1]
  ·rw [if_neg he] at g2
   subst g2
   simp [F3,f30,trD,H9,l1,l2,hxy,he] at g1 ⊢
   simp [g1]
 ·have h1:¬ xs.length=ys.length:=fun h=>hxy h.symm
  have h2:¬ xs=ys:=fun h=>h1 (by rw [h])
  have h3:¬ ((xs.length:Nat):Int)=((ys.length:Nat):Int):=by omega
  simp [F3,f30,trD,H9,l1,l2,h3,h2]
structure W9 (m:Mem)(f:Fct)(xa xb xl:List Int):Prop where
 a:dF m f.A xa
 b:dF m f.B xb
 l:dF m f.L xl
 la:xa.length<1000
 lb:xb.length<1000
 ll:xl.length<1000
theorem W9.ext {m m':Mem}(h:Ext m m'){f:Fct}{a b l:List Int}(k:W9 m f a b l):W9 m' f a b l:=⟨k.a.ext h,k.b.ext h,k.l.ext h,k.la,k.lb,k.ll⟩
theorem W9.same {m:Mem}{f:Fct}{a b l:List Int}(k:W9 m f a b l):cK 100 (.agg f.cells) (.agg f.cells)=true:=by
 rw [xZ]
 simp [Fct.cells,xY,Cb,K6,iY k.a,iY k.b,iY k.l]
def nX (f g:Fct)(a b a' b':List Int):Bool:=
 decide (f.cid=g.cid)&&(decide (f.cday=g.cday)&&(decide (f.diff=g.diff)&&(decide (f.err=g.err)&&(decide (f.hlo=g.hlo)&&(decide (f.hhi=g.hhi)&&(decide (a=a')&&decide (b=b')))))))
def Fct.cmp (f:Fct):List o8:=[.int .i64 f.cid,.int .i64 f.cday,f.A,f.B,.int .i64 f.diff,.int .i64 f.err,.int .i64 f.hlo,.int .i64 f.hhi]
@[simp] theorem Fct.ajC (f:Fct):f.cmp.length=8:=id rfl
@[simp] theorem Fct.ajD (f:Fct):(f.cmp.drop 6).take 2=[.int .i64 f.hlo,.int .i64 f.hhi]:=id rfl
@[simp] theorem Fct.O8 (f:Fct):[.int .i64 f.cid,.int .i64 f.cday,f.A,f.B,.int .i64 f.diff,.int .i64 f.err,.int .i64 f.hlo,.int .i64 f.hhi]=f.cmp:=id rfl
@[simp] theorem Fct.k0 (f:Fct)(h:0<f.cmp.length):f.cmp[0]'h=o8.int .i64 f.cid:=id rfl
@[simp] theorem Fct.kk0 (f:Fct):f.cmp[0]?=some (o8.int .i64 f.cid):=id rfl
@[simp] theorem Fct.k1 (f:Fct)(h:1<f.cmp.length):f.cmp[1]'h=o8.int .i64 f.cday:=id rfl
@[simp] theorem Fct.kk1 (f:Fct):f.cmp[1]?=some (o8.int .i64 f.cday):=id rfl
@[simp] theorem Fct.k2 (f:Fct)(h:2<f.cmp.length):f.cmp[2]'h=f.A:=id rfl
@[simp] theorem Fct.kk2 (f:Fct):f.cmp[2]?=some (f.A):=id rfl
@[simp] theorem Fct.k3 (f:Fct)(h:3<f.cmp.length):f.cmp[3]'h=f.B:=id rfl
@[simp] theorem Fct.kk3 (f:Fct):f.cmp[3]?=some (f.B):=id rfl
@[simp] theorem Fct.k4 (f:Fct)(h:4<f.cmp.length):f.cmp[4]'h=o8.int .i64 f.diff:=id rfl
@[simp] theorem Fct.kk4 (f:Fct):f.cmp[4]?=some (o8.int .i64 f.diff):=id rfl
@[simp] theorem Fct.k5 (f:Fct)(h:5<f.cmp.length):f.cmp[5]'h=o8.int .i64 f.err:=id rfl
@[simp] theorem Fct.kk5 (f:Fct):f.cmp[5]?=some (o8.int .i64 f.err):=id rfl
@[simp] theorem Fct.k6 (f:Fct)(h:6<f.cmp.length):f.cmp[6]'h=o8.int .i64 f.hlo:=id rfl
@[simp] theorem Fct.kk6 (f:Fct):f.cmp[6]?=some (o8.int .i64 f.hlo):=id rfl
@[simp] theorem Fct.k7 (f:Fct)(h:7<f.cmp.length):f.cmp[7]'h=o8.int .i64 f.hhi:=id rfl
@[simp] theorem Fct.kk7 (f:Fct):f.cmp[7]?=some (o8.int .i64 f.hhi):=id rfl
theorem XV {m:Mem}{f g:Fct}{a b l a' b' l':List Int}(hm:m.Ok)(hf:W9 m f a b l)(hg:W9 m g a' b' l')(n fu:Nat)(hfu:1000≤fu):
  G9 KW fu (n+2) (.func 40) [.agg f.cmp,.agg g.cmp] m=some [⟨.bool (nX f g a b a' b'),ext m [D9 f.cmp,D9 g.cmp]⟩]:=by
 rw [enter (sf:=f40) rfl rfl]
 have hf:=hf.ext (G7 hm [D9 f.cmp,D9 g.cmp])
 have hg:=hg.ext (G7 hm [D9 f.cmp,D9 g.cmp])
 have c1:=Gf hf.a hg.a hf.la n fu hfu
 have c2:=Gf hf.b hg.b hf.lb n fu hfu
 by_cases h0:f.cid=g.cid
 ·by_cases h1:f.cday=g.cday
  ·by_cases h2:f.diff=g.diff
   ·by_cases h3:f.err=g.err
    ·by_cases h4:f.hlo=g.hlo
     ·by_cases h5:f.hhi=g.hhi
      ·by_cases h6:a=a'
       ·by_cases h7:b=b'
        ·simp [f40,F3,trD,H9,w9,p8,l8,D5,D7,j5 hm,j6 hm,l9 hm,l5 hm,G5,r9,C8,A8,K4,c1,c2,nX,h0,h1,h2,h3,h4,h5,h6,h7]
        ·simp [f40,F3,trD,H9,w9,p8,l8,D5,D7,j5 hm,j6 hm,l9 hm,l5 hm,G5,r9,C8,A8,K4,c1,c2,nX,h0,h1,h2,h3,h4,h5,h6,h7]
       ·simp [f40,F3,trD,H9,w9,p8,l8,D5,D7,j5 hm,j6 hm,l9 hm,l5 hm,G5,r9,C8,A8,K4,c1,c2,nX,h0,h1,h2,h3,h4,h5,h6]
      ·simp [f40,F3,trD,H9,w9,p8,l8,D5,D7,j5 hm,j6 hm,l9 hm,l5 hm,G5,r9,C8,A8,K4,c1,c2,nX,h0,h1,h2,h3,h4,h5]
     ·simp [f40,F3,trD,H9,w9,p8,l8,D5,D7,j5 hm,j6 hm,l9 hm,l5 hm,G5,r9,C8,A8,K4,c1,c2,nX,h0,h1,h2,h3,h4]
    ·simp [f40,F3,trD,H9,w9,p8,l8,D5,D7,j5 hm,j6 hm,l9 hm,l5 hm,G5,r9,C8,A8,K4,c1,c2,nX,h0,h1,h2,h3]
   ·simp [f40,F3,trD,H9,w9,p8,l8,D5,D7,j5 hm,j6 hm,l9 hm,l5 hm,G5,r9,C8,A8,K4,c1,c2,nX,h0,h1,h2]
  ·simp [f40,F3,trD,H9,w9,p8,l8,D5,D7,j5 hm,j6 hm,l9 hm,l5 hm,G5,r9,C8,A8,K4,c1,c2,nX,h0,h1]
 ·simp [f40,F3,trD,H9,w9,p8,l8,D5,D7,j5 hm,j6 hm,l9 hm,l5 hm,G5,r9,C8,A8,K4,c1,c2,nX,h0]
theorem XW {m:Mem}{f g:Fct}{a b l a' b' l':List Int}(hm:m.Ok)(hf:W9 m f a b l)(hg:W9 m g a' b' l')(n fu:Nat)(hfu:1000≤fu):
  G9 KW fu (n+2) (.func 42) [.agg f.cmp,.agg g.cmp] m=some [⟨.bool (nX f g a b a' b'),ext m [D9 f.cmp,D9 g.cmp]⟩]:=by
 rw [enter (sf:=f42) rfl rfl]
 have hf:=hf.ext (G7 hm [D9 f.cmp,D9 g.cmp])
 have hg:=hg.ext (G7 hm [D9 f.cmp,D9 g.cmp])
 have c1:=Gj hf.a hg.a hf.la n fu hfu
 have c2:=Gj hf.b hg.b hf.lb n fu hfu
 by_cases h0:a=a'
 ·by_cases h1:b=b'
  ·by_cases h2:f.cid=g.cid
   ·by_cases h3:f.cday=g.cday
    ·by_cases h4:f.diff=g.diff
     ·by_cases h5:f.err=g.err
      ·by_cases h6:f.hlo=g.hlo
       ·by_cases h7:f.hhi=g.hhi
        ·simp [f42,F3,trD,H9,w9,p8,l8,D5,D7,j5 hm,j6 hm,l9 hm,l5 hm,G5,r9,C8,A8,K4,c1,c2,nX,h0,h1,h2,h3,h4,h5,h6,h7]
        ·simp [f42,F3,trD,H9,w9,p8,l8,D5,D7,j5 hm,j6 hm,l9 hm,l5 hm,G5,r9,C8,A8,K4,c1,c2,nX,h0,h1,h2,h3,h4,h5,h6,h7]
       ·simp [f42,F3,trD,H9,w9,p8,l8,D5,D7,j5 hm,j6 hm,l9 hm,l5 hm,G5,r9,C8,A8,K4,c1,c2,nX,h0,h1,h2,h3,h4,h5,h6]
      ·simp [f42,F3,trD,H9,w9,p8,l8,D5,D7,j5 hm,j6 hm,l9 hm,l5 hm,G5,r9,C8,A8,K4,c1,c2,nX,h0,h1,h2,h3,h4,h5]
     ·simp [f42,F3,trD,H9,w9,p8,l8,D5,D7,j5 hm,j6 hm,l9 hm,l5 hm,G5,r9,C8,A8,K4,c1,c2,nX,h0,h1,h2,h3,h4]
    ·simp [f42,F3,trD,H9,w9,p8,l8,D5,D7,j5 hm,j6 hm,l9 hm,l5 hm,G5,r9,C8,A8,K4,c1,c2,nX,h0,h1,h2,h3]
   ·simp [f42,F3,trD,H9,w9,p8,l8,D5,D7,j5 hm,j6 hm,l9 hm,l5 hm,G5,r9,C8,A8,K4,c1,c2,nX,h0,h1,h2]
  ·simp [f42,F3,trD,H9,w9,p8,l8,D5,D7,j5 hm,j6 hm,l9 hm,l5 hm,G5,r9,C8,A8,K4,c1,c2,nX,h0,h1]
 ·simp [f42,F3,trD,H9,w9,p8,l8,D5,D7,j5 hm,j6 hm,l9 hm,l5 hm,G5,r9,C8,A8,K4,c1,c2,nX,h0]
end Go.Proofs.YtefodipjjofocaaGreatDoor.TT
namespace Go.Proofs.YtefodipjjofocaaGreatDoor.TT
open Go Go.AM
set_option linter.unusedSimpArgs false
set_option linter.unusedVariables false
set_option maxRecDepth 100000
set_option maxHeartbeats 2000000
def aj (f g:Fct):Bool:=(decide (f.room=g.room)&&decide (f.no=g.no))&&(decide (f.known=g.known)&&(decide (f.kind=g.kind)&&((decide (f.flo=g.flo)&&decide (f.fhi=g.fhi))&&((decide (f.gid=g.gid)&&(decide (f.made=g.made)&&(decide (f.nom=g.nom)&&(decide (f.tlo=g.tlo)&&(decide (f.thi=g.thi)&&(decide (f.gn=g.gn)&&(decide (f.gd=g.gd)&&decide (f.wear=g.wear))))))))&&((decide (f.ug=g.ug)&&decide (f.ud=g.ud))&&((decide (f.lg=g.lg)&&(decide (f.ll=g.ll)&&(decide (f.lh=g.lh)&&decide (f.lw=g.lw))))&&((decide (f.tr=g.tr)&&decide (f.tn=g.tn)))))))))
def Z5 (f g:Fct)(a b l a' b' l':List Int):Bool:=aj f g&&(nX f g a b a' b'&&(decide (f.mday=g.mday)&&decide (l=l')))
noncomputable def Fct.nm (f:Fct):Blk:=D9 [.int .i64 f.room,.int .i64 f.no]
theorem pq {m:Mem}{f g:Fct}{a b l a' b' l':List Int}(hm:m.Ok)(hl:m.lim≤m.next)(hf:W9 m f a b l)(hg:W9 m g a' b' l')(n fu:Nat)(hfu:1000≤fu):
  G9 KW fu (n+3) (.func 13) [.agg f.cells,.agg g.cells] m=some [⟨.bool (Z5 f g a b l a' b' l'),ext m ([D9 f.cells,D9 g.cells,D9 f.cells,f.nm,D9 g.cells,g.nm]++(bif aj f g then [D9 f.cmp,D9 g.cmp] else []))⟩]:=by
 rw [enter (sf:=f13) rfl rfl]
 have s1:=hf.same
 have s2:=hg.same
 have c1:=rF (n+1) fu f (ext m [D9 f.cells,D9 g.cells]) (K5 hm _) (by simp;omega)
 have c2:=rF (n+1) fu g (ext m [D9 f.cells,D9 g.cells,D9 f.cells,f.nm]) (K5 hm _) (by simp;omega)
 have hf2:=hf.ext (G7 hm [D9 f.cells,D9 g.cells,D9 f.cells,f.nm,D9 g.cells,g.nm])
 have hg2:=hg.ext (G7 hm [D9 f.cells,D9 g.cells,D9 f.cells,f.nm,D9 g.cells,g.nm])
 have c3:=XV (K5 hm _) hf2 hg2 n fu hfu
 have hf3:=hf.ext (G7 hm [D9 f.cells,D9 g.cells,D9 f.cells,f.nm,D9 g.cells,g.nm,D9 f.cmp,D9 g.cmp])
 have hg3:=hg.ext (G7 hm [D9 f.cells,D9 g.cells,D9 f.cells,f.nm,D9 g.cells,g.nm,D9 f.cmp,D9 g.cmp])
 have c4:=Gf hf3.l hg3.l hf.ll (n+1) fu hfu
 simp only [Fct.nm] at c1 c2 c3 c4 ⊢
 cases h0:(decide (f.room=g.room)&&decide (f.no=g.no)) with
 | true=>
  cases h1:decide (f.known=g.known) with
  | true=>
   cases h2:decide (f.kind=g.kind) with
   | true=>
    cases h3:(decide (f.flo=g.flo)&&decide (f.fhi=g.fhi)) with
    | true=>
     cases h4:(decide (f.gid=g.gid)&&(decide (f.made=g.made)&&(decide (f.nom=g.nom)&&(decide (f.tlo=g.tlo)&&(decide (f.thi=g.thi)&&(decide (f.gn=g.gn)&&(decide (f.gd=g.gd)&&decide (f.wear=g.wear)))))))) with
     | true=>
      cases h5:(decide (f.ug=g.ug)&&decide (f.ud=g.ud)) with
      | true=>
       cases h6:(decide (f.lg=g.lg)&&(decide (f.ll=g.ll)&&(decide (f.lh=g.lh)&&decide (f.lw=g.lw)))) with
       | true=>
        cases h7:(decide (f.tr=g.tr)&&decide (f.tn=g.tn)) with
        | true=>
         cases h8:nX f g a b a' b' with
         | true=>
          cases h9:decide (f.mday=g.mday) with
          | true=>
           cases h10:decide (l=l') with
           | true=>
            simp [f13,F3,trD,H9,w9,p8,l8,D5,D7,j5 hm,j6 hm,l9 hm,l5 hm,G5,r9,C8,A8,K4,c1,c2,c3,c4,s1,s2,Z5,aj,h0,h1,h2,h3,h4,h5,h6,h7,h8,h9,h10]
           | false=>simp [f13,F3,trD,H9,w9,p8,l8,D5,D7,j5 hm,j6 hm,l9 hm,l5 hm,G5,r9,C8,A8,K4,c1,c2,c3,c4,s1,s2,Z5,aj,h0,h1,h2,h3,h4,h5,h6,h7,h8,h9,h10]
          | false=>simp [f13,F3,trD,H9,w9,p8,l8,D5,D7,j5 hm,j6 hm,l9 hm,l5 hm,G5,r9,C8,A8,K4,c1,c2,c3,c4,s1,s2,Z5,aj,h0,h1,h2,h3,h4,h5,h6,h7,h8,h9]
         | false=>simp [f13,F3,trD,H9,w9,p8,l8,D5,D7,j5 hm,j6 hm,l9 hm,l5 hm,G5,r9,C8,A8,K4,c1,c2,c3,c4,s1,s2,Z5,aj,h0,h1,h2,h3,h4,h5,h6,h7,h8]
        | false=>simp [f13,F3,trD,H9,w9,p8,l8,D5,D7,j5 hm,j6 hm,l9 hm,l5 hm,G5,r9,C8,A8,K4,c1,c2,c3,c4,s1,s2,Z5,aj,h0,h1,h2,h3,h4,h5,h6,h7]
       | false=>simp [f13,F3,trD,H9,w9,p8,l8,D5,D7,j5 hm,j6 hm,l9 hm,l5 hm,G5,r9,C8,A8,K4,c1,c2,c3,c4,s1,s2,Z5,aj,h0,h1,h2,h3,h4,h5,h6]
      | false=>simp [f13,F3,trD,H9,w9,p8,l8,D5,D7,j5 hm,j6 hm,l9 hm,l5 hm,G5,r9,C8,A8,K4,c1,c2,c3,c4,s1,s2,Z5,aj,h0,h1,h2,h3,h4,h5]
     | false=>simp [f13,F3,trD,H9,w9,p8,l8,D5,D7,j5 hm,j6 hm,l9 hm,l5 hm,G5,r9,C8,A8,K4,c1,c2,c3,c4,s1,s2,Z5,aj,h0,h1,h2,h3,h4]
    | false=>simp [f13,F3,trD,H9,w9,p8,l8,D5,D7,j5 hm,j6 hm,l9 hm,l5 hm,G5,r9,C8,A8,K4,c1,c2,c3,c4,s1,s2,Z5,aj,h0,h1,h2,h3]
   | false=>simp [f13,F3,trD,H9,w9,p8,l8,D5,D7,j5 hm,j6 hm,l9 hm,l5 hm,G5,r9,C8,A8,K4,c1,c2,c3,c4,s1,s2,Z5,aj,h0,h1,h2]
  | false=>simp [f13,F3,trD,H9,w9,p8,l8,D5,D7,j5 hm,j6 hm,l9 hm,l5 hm,G5,r9,C8,A8,K4,c1,c2,c3,c4,s1,s2,Z5,aj,h0,h1]
 | false=>simp [f13,F3,trD,H9,w9,p8,l8,D5,D7,j5 hm,j6 hm,l9 hm,l5 hm,G5,r9,C8,A8,K4,c1,c2,c3,c4,s1,s2,Z5,aj,h0]
end Go.Proofs.YtefodipjjofocaaGreatDoor.TT
namespace Go.Proofs.YtefodipjjofocaaGreatDoor.TT
open Go Go.AM
set_option linter.unusedSimpArgs false
set_option linter.unusedVariables false
set_option maxRecDepth 100000
set_option maxHeartbeats 2000000
theorem Gl {m:Mem}{f g:Fct}{a b l a' b' l':List Int}(hm:m.Ok)(hf:W9 m f a b l)(hg:W9 m g a' b' l')(n fu:Nat)(hfu:1000≤fu):
  G9 KW fu (n+3) (.func 14) [.agg f.cells,.agg g.cells] m=some [⟨.bool (Z5 f g a b l a' b' l'),ext m [D9 f.cells,D9 g.cells,D9 f.cmp,D9 g.cmp]⟩]:=by
 rw [enter (sf:=f14) rfl rfl]
 have hf2:=hf.ext (G7 hm [D9 f.cells,D9 g.cells])
 have hg2:=hg.ext (G7 hm [D9 f.cells,D9 g.cells])
 have c3:=XW (K5 hm _) hf2 hg2 n fu hfu
 have hf3:=hf.ext (G7 hm [D9 f.cells,D9 g.cells,D9 f.cmp,D9 g.cmp])
 have hg3:=hg.ext (G7 hm [D9 f.cells,D9 g.cells,D9 f.cmp,D9 g.cmp])
 have c4:=Gj hf3.l hg3.l hf.ll (n+1) fu hfu
 cases h0:decide (f.room=g.room) with
 | true=>
  cases h1:decide (f.no=g.no) with
  | true=>
   cases h2:decide (f.known=g.known) with
   | true=>
    cases h3:decide (f.kind=g.kind) with
    | true=>
     cases h4:(decide (f.flo=g.flo)&&decide (f.fhi=g.fhi)) with
     | true=>
      cases h5:(decide (f.gid=g.gid)&&(decide (f.made=g.made)&&(decide (f.nom=g.nom)&&(decide (f.tlo=g.tlo)&&(decide (f.thi=g.thi)&&(decide (f.gn=g.gn)&&(decide (f.gd=g.gd)&&decide (f.wear=g.wear)))))))) with
      | true=>
       cases h6:(decide (f.ug=g.ug)&&decide (f.ud=g.ud)) with
       | true=>
        cases h7:(decide (f.lg=g.lg)&&(decide (f.ll=g.ll)&&(decide (f.lh=g.lh)&&decide (f.lw=g.lw)))) with
        | true=>
         cases h8:nX f g a b a' b' with
         | true=>
          cases h9:decide (f.mday=g.mday) with
          | true=>
           cases h10:decide (l=l') with
           | true=>
            cases h11:(decide (f.tr=g.tr)&&decide (f.tn=g.tn)) with
            | true=>
             simp [f14,F3,trD,H9,w9,p8,l8,D5,D7,j5 hm,j6 hm,l9 hm,l5 hm,G5,r9,C8,A8,K4,c3,c4,Z5,aj,h0,h1,h2,h3,h4,h5,h6,h7,h8,h9,h10,h11]
            | false=>simp [f14,F3,trD,H9,w9,p8,l8,D5,D7,j5 hm,j6 hm,l9 hm,l5 hm,G5,r9,C8,A8,K4,c3,c4,Z5,aj,h0,h1,h2,h3,h4,h5,h6,h7,h8,h9,h10,h11]
           | false=>simp [f14,F3,trD,H9,w9,p8,l8,D5,D7,j5 hm,j6 hm,l9 hm,l5 hm,G5,r9,C8,A8,K4,c3,c4,Z5,aj,h0,h1,h2,h3,h4,h5,h6,h7,h8,h9,h10]
          | false=>simp [f14,F3,trD,H9,w9,p8,l8,D5,D7,j5 hm,j6 hm,l9 hm,l5 hm,G5,r9,C8,A8,K4,c3,c4,Z5,aj,h0,h1,h2,h3,h4,h5,h6,h7,h8,h9]
         | false=>simp [f14,F3,trD,H9,w9,p8,l8,D5,D7,j5 hm,j6 hm,l9 hm,l5 hm,G5,r9,C8,A8,K4,c3,c4,Z5,aj,h0,h1,h2,h3,h4,h5,h6,h7,h8]
        | false=>simp [f14,F3,trD,H9,w9,p8,l8,D5,D7,j5 hm,j6 hm,l9 hm,l5 hm,G5,r9,C8,A8,K4,c3,c4,Z5,aj,h0,h1,h2,h3,h4,h5,h6,h7]
       | false=>simp [f14,F3,trD,H9,w9,p8,l8,D5,D7,j5 hm,j6 hm,l9 hm,l5 hm,G5,r9,C8,A8,K4,c3,c4,Z5,aj,h0,h1,h2,h3,h4,h5,h6]
      | false=>simp [f14,F3,trD,H9,w9,p8,l8,D5,D7,j5 hm,j6 hm,l9 hm,l5 hm,G5,r9,C8,A8,K4,c3,c4,Z5,aj,h0,h1,h2,h3,h4,h5]
     | false=>simp [f14,F3,trD,H9,w9,p8,l8,D5,D7,j5 hm,j6 hm,l9 hm,l5 hm,G5,r9,C8,A8,K4,c3,c4,Z5,aj,h0,h1,h2,h3,h4]
    | false=>simp [f14,F3,trD,H9,w9,p8,l8,D5,D7,j5 hm,j6 hm,l9 hm,l5 hm,G5,r9,C8,A8,K4,c3,c4,Z5,aj,h0,h1,h2,h3]
   | false=>simp [f14,F3,trD,H9,w9,p8,l8,D5,D7,j5 hm,j6 hm,l9 hm,l5 hm,G5,r9,C8,A8,K4,c3,c4,Z5,aj,h0,h1,h2]
  | false=>simp [f14,F3,trD,H9,w9,p8,l8,D5,D7,j5 hm,j6 hm,l9 hm,l5 hm,G5,r9,C8,A8,K4,c3,c4,Z5,aj,h0,h1]
 | false=>simp [f14,F3,trD,H9,w9,p8,l8,D5,D7,j5 hm,j6 hm,l9 hm,l5 hm,G5,r9,C8,A8,K4,c3,c4,Z5,aj,h0]
def Q0 (f:Fct):Fct:={room:=f.room,no:=f.no,known:=f.known,kind:=f.kind,flo:=0,fhi:=0,gid:=0,made:=0,nom:=0,tlo:=0,thi:=0,gn:=0,gd:=0,wear:=0,ug:=0,ud:=0,lg:=0,ll:=0,lh:=0,lw:=0,cid:=0,cday:=0,A:=.nilSlice,B:=.nilSlice,diff:=0,err:=0,hlo:=0,hhi:=0,mday:=0,L:=.nilSlice,tr:=0,tn:=0}
def O0 (f:Fct):Fct:=if f.kind=1 then {Q0 f with flo:=f.flo,fhi:=f.fhi} else if f.kind=2 then {Q0 f with gid:=f.gid,made:=f.made,nom:=f.nom,tlo:=f.tlo,thi:=f.thi,gn:=f.gn,gd:=f.gd,wear:=f.wear} else if f.kind=3 then {Q0 f with ug:=f.ug,ud:=f.ud} else if f.kind=4 then {Q0 f with lg:=f.lg,ll:=f.ll,lh:=f.lh,lw:=f.lw} else if f.kind=5 then {Q0 f with cid:=f.cid,cday:=f.cday,A:=f.A,B:=f.B,diff:=f.diff,err:=f.err,hlo:=f.hlo,hhi:=f.hhi} else if f.kind=6 then {Q0 f with mday:=f.mday,L:=f.L} else if f.kind=7 then {Q0 f with tr:=f.tr,tn:=f.tn} else Q0 f
theorem jY {m:Mem}{f:Fct}{a b l:List Int}(hf:W9 m f a b l):W9 m (O0 f) (if f.kind=5 then a else []) (if f.kind=5 then b else []) (if f.kind=6 then l else []):=by
 have hn:dF m .nilSlice []:=.inl ⟨rfl,rfl⟩
 by_cases h5:f.kind=5
 ·refine⟨?_,?_,?_,?_,?_,?_⟩<;>simp [O0,h5,Q0,hf.a,hf.b,hf.la,hf.lb,hn]
 ·by_cases h6:f.kind=6
  ·refine⟨?_,?_,?_,?_,?_,?_⟩<;>simp [O0,h6,Q0,hf.l,hf.ll,hn]
  ·have e:(O0 f).A=.nilSlice∧(O0 f).B=.nilSlice∧(O0 f).L=.nilSlice:=by
    unfold O0
    simp only [h5,h6,if_false]
    repeat' split
    all_goals exact⟨rfl,rfl,rfl⟩
   simp only [h5,h6,if_false]
   exact⟨by rw [e.1];exact hn,by rw [e.2.1];exact hn,by rw [e.2.2];exact hn,by simp,by simp,by simp⟩
theorem XY {m:Mem}{f:Fct}(hm:m.Ok)(hl:m.lim≤m.next){a b l:List Int}(hf:W9 m f a b l)(n fu:Nat):
  G9 KW fu (n+1) (.func 39) [.agg f.cells] m=some [⟨.agg (O0 f).cells,ext m [D9 f.cells,D9 (O0 f).cells,D9 (O0 f).cells]⟩]:=by
 rw [enter (sf:=f39) rfl rfl]
 have o1:=hf.a.K4
 have o2:=hf.b.K4
 have o3:=hf.l.K4
 have hn:K4 .nilSlice=true:=rfl
 have hi:∀i,K4 (.int .i64 i)=true:=fun _=>rfl
 by_cases k1:f.kind=1
 ·simp [-Fct.O8,f39,F3,trD,H9,w9,p8,l8,D5,D7,j5 hm,j6 hm,G6 hm hl,x9 hm hl,l9 hm,l5 hm,G5,r9,C8,A8,o1,o2,o3,hn,hi,O0,Q0,Fct.cells,k1]
 by_cases k2:f.kind=2
 ·simp [-Fct.O8,f39,F3,trD,H9,w9,p8,l8,D5,D7,j5 hm,j6 hm,G6 hm hl,x9 hm hl,l9 hm,l5 hm,G5,r9,C8,A8,o1,o2,o3,hn,hi,O0,Q0,Fct.cells,k2]
 by_cases k3:f.kind=3
 ·simp [-Fct.O8,f39,F3,trD,H9,w9,p8,l8,D5,D7,j5 hm,j6 hm,G6 hm hl,x9 hm hl,l9 hm,l5 hm,G5,r9,C8,A8,o1,o2,o3,hn,hi,O0,Q0,Fct.cells,k3]
 by_cases k4:f.kind=4
 ·simp [-Fct.O8,f39,F3,trD,H9,w9,p8,l8,D5,D7,j5 hm,j6 hm,G6 hm hl,x9 hm hl,l9 hm,l5 hm,G5,r9,C8,A8,o1,o2,o3,hn,hi,O0,Q0,Fct.cells,k4]
 by_cases k5:f.kind=5
 ·simp [-Fct.O8,f39,F3,trD,H9,w9,p8,l8,D5,D7,j5 hm,j6 hm,G6 hm hl,x9 hm hl,l9 hm,l5 hm,G5,r9,C8,A8,o1,o2,o3,hn,hi,O0,Q0,Fct.cells,k5]
 by_cases k6:f.kind=6
 ·simp [-Fct.O8,f39,F3,trD,H9,w9,p8,l8,D5,D7,j5 hm,j6 hm,G6 hm hl,x9 hm hl,l9 hm,l5 hm,G5,r9,C8,A8,o1,o2,o3,hn,hi,O0,Q0,Fct.cells,k6]
 by_cases k7:f.kind=7
 ·simp [-Fct.O8,f39,F3,trD,H9,w9,p8,l8,D5,D7,j5 hm,j6 hm,G6 hm hl,x9 hm hl,l9 hm,l5 hm,G5,r9,C8,A8,o1,o2,o3,hn,hi,O0,Q0,Fct.cells,k7]
 simp [-Fct.O8,f39,F3,trD,H9,w9,p8,l8,D5,D7,j5 hm,j6 hm,G6 hm hl,x9 hm hl,l9 hm,l5 hm,G5,r9,C8,A8,o1,o2,o3,hn,hi,O0,Q0,Fct.cells,k1,k2,k3,k4,k5,k6,k7]
end Go.Proofs.YtefodipjjofocaaGreatDoor.TT
namespace Go.Proofs.YtefodipjjofocaaGreatDoor.TT
open Go Go.AM
set_option linter.unusedSimpArgs false
set_option linter.unusedVariables false
set_option maxRecDepth 100000
set_option maxHeartbeats 2000000
def ny (xs:List Int):Bool:=P9 (okB xs) xs.length 0&&decide (xs.length≤6)
def Dy (f:Fct):Bool:=(decide (0≤f.flo)&&decide (f.flo≤f.fhi)&&decide (f.fhi≤1000000))
def Mc (f:Fct):Bool:=(decide (1≤f.ug)&&decide (f.ug≤1099511627776))&&(decide (0≤f.ud)&&decide (f.ud≤20000))
def nA (f:Fct):Bool:=(decide (1≤f.lg)&&decide (f.lg≤1099511627776))&&((decide (0≤f.ll)&&decide (f.ll≤f.lh)&&decide (f.lh≤20000))&&(decide (0≤f.lw)&&decide (f.lw≤1048576)))
def aU (f:Fct)(a b:List Int):Bool:=decide (f.cid=0)&&((decide (0≤f.cday)&&decide (f.cday≤20000))&&((decide (-1125899906842624≤f.diff)&&decide (f.diff≤1125899906842624))&&((decide (0≤f.err)&&decide (f.err≤1073741824))&&((decide (-10000≤f.hlo)&&decide (f.hlo≤f.hhi)&&decide (f.hhi≤10000))&&(ny a&&ny b)))))
def IZ (f:Fct)(l:List Int):Bool:=P9 (okB l) l.length 0&&((decide (0≤f.mday)&&decide (f.mday≤19999))&&(decide (2≤l.length)&&decide (l.length≤5)))
def wdB (f:Fct):Bool:=(decide (1≤f.tr)&&decide (f.tr≤6))&&((decide (1≤f.tn)&&decide (f.tn≤60)) && !(decide (f.tr=f.room)&&decide (f.tn=f.no)))
theorem Oo (n fu:Nat)(f:Fct)(m:Mem)(hm:m.Ok)(hl:m.lim≤m.next):∃m',G9 KW fu (n+3) (.func 143) [.agg f.cells] m=some [⟨.bool (nA f),m'⟩]∧Ext m m':=by
 rw [enter (sf:=f143) rfl rfl]
 have c1:=Ba (n+1) fu f.ll f.lh 0 20000 (ext m [D9 f.cells]) (K5 hm _)
 cases h0:(decide (1≤f.lg)&&decide (f.lg≤1099511627776)) with
 | true=>
  cases h1:(decide (0≤f.ll)&&decide (f.ll≤f.lh)&&decide (f.lh≤20000)) with
  | true=>
   cases h2:(decide (0≤f.lw)&&decide (f.lw≤1048576)) with
   | true=>
    exact⟨ext m [D9 f.cells,D9 [.int .i64 f.ll,.int .i64 f.lh]],by simp [f143,F3,trD,H9,w9,p8,l8,D5,D7,j5 hm,j6 hm,l9 hm,l5 hm,G5,r9,C8,A8,K4,ig,N9,c1,nA,h0,h1,h2],G7 hm _⟩
   | false=>exact⟨ext m [D9 f.cells,D9 [.int .i64 f.ll,.int .i64 f.lh]],by simp [f143,F3,trD,H9,w9,p8,l8,D5,D7,j5 hm,j6 hm,l9 hm,l5 hm,G5,r9,C8,A8,K4,ig,N9,c1,nA,h0,h1,h2],G7 hm _⟩
  | false=>exact⟨ext m [D9 f.cells,D9 [.int .i64 f.ll,.int .i64 f.lh]],by simp [f143,F3,trD,H9,w9,p8,l8,D5,D7,j5 hm,j6 hm,l9 hm,l5 hm,G5,r9,C8,A8,K4,ig,N9,c1,nA,h0,h1],G7 hm _⟩
 | false=>exact⟨ext m [D9 f.cells],by simp [f143,F3,trD,H9,w9,p8,l8,D5,D7,j5 hm,j6 hm,l9 hm,l5 hm,G5,r9,C8,A8,K4,ig,N9,c1,nA,h0],G7 hm _⟩
theorem Oq {m:Mem}{f:Fct}{a b l:List Int}(hm:m.Ok)(hl:m.lim≤m.next)(hf:W9 m f a b l)(n fu:Nat)(hfu:1000≤fu):
  ∃m',G9 KW fu (n+9) (.func 146) [.agg f.cmp] m=some [⟨.bool (aU f a b),m'⟩]∧Ext m m':=by
 rw [enter (sf:=f146) rfl rfl]
 have c1:=Ba (n+7) fu f.hlo f.hhi (-10000) 10000 (ext m [D9 f.cmp]) (K5 hm _)
 have E2:=G7 hm [D9 f.cmp,D9 [.int .i64 f.hlo,.int .i64 f.hhi]]
 obtain⟨m3,g3,E3⟩:=Gi (K5 hm _) (by simp;omega) (hf.a.ext E2) hf.la n fu hfu
 have q3:m3.get m.next=some (D9 f.cmp):=by rw [E3.old _ (by simp),j5 hm];rfl
 have E23:=E2.trans E3
 obtain⟨m4,g4,E4⟩:=Gi (m:=m3) E3.ok (by have h1:=E23.lim;have h2:=E23.next;omega) (hf.b.ext E23) hf.lb n fu hfu
 cases h0:decide (f.cid=0) with
 | true=>
  cases h1:(decide (0≤f.cday)&&decide (f.cday≤20000)) with
  | true=>
   cases h2:(decide (-1125899906842624≤f.diff)&&decide (f.diff≤1125899906842624)) with
   | true=>
    cases h3:(decide (0≤f.err)&&decide (f.err≤1073741824)) with
    | true=>
     cases h4:(decide (-10000≤f.hlo)&&decide (f.hlo≤f.hhi)&&decide (f.hhi≤10000)) with
     | true=>
      cases h5:P9 (okB a) a.length 0&&decide (a.length≤6) with
      | true=>
       cases h6:P9 (okB b) b.length 0&&decide (b.length≤6) with
       | true=>
        exact⟨m4,by rw [h5] at g3;rw [h6] at g4;simp [f146,F3,trD,H9,w9,p8,l8,D5,D7,j5 hm,j6 hm,l9 hm,l5 hm,G5,r9,C8,A8,K4,N9,c1,g3,q3,g4,aU,ny,h0,h1,h2,h3,h4,h5,h6],E23.trans E4⟩
       | false=>exact⟨m4,by rw [h5] at g3;rw [h6] at g4;simp [f146,F3,trD,H9,w9,p8,l8,D5,D7,j5 hm,j6 hm,l9 hm,l5 hm,G5,r9,C8,A8,K4,N9,c1,g3,q3,g4,aU,ny,h0,h1,h2,h3,h4,h5,h6],E23.trans E4⟩
      | false=>exact⟨m3,by rw [h5] at g3;simp [f146,F3,trD,H9,w9,p8,l8,D5,D7,j5 hm,j6 hm,l9 hm,l5 hm,G5,r9,C8,A8,K4,N9,c1,g3,q3,aU,ny,h0,h1,h2,h3,h4,h5],E23⟩
     | false=>exact⟨ext m [D9 f.cmp,D9 [.int .i64 f.hlo,.int .i64 f.hhi]],by simp [f146,F3,trD,H9,w9,p8,l8,D5,D7,j5 hm,j6 hm,l9 hm,l5 hm,G5,r9,C8,A8,K4,N9,c1,aU,ny,h0,h1,h2,h3,h4],G7 hm _⟩
    | false=>exact⟨ext m [D9 f.cmp],by simp [f146,F3,trD,H9,w9,p8,l8,D5,D7,j5 hm,j6 hm,l9 hm,l5 hm,G5,r9,C8,A8,K4,N9,c1,aU,ny,h0,h1,h2,h3],G7 hm _⟩
   | false=>exact⟨ext m [D9 f.cmp],by simp [f146,F3,trD,H9,w9,p8,l8,D5,D7,j5 hm,j6 hm,l9 hm,l5 hm,G5,r9,C8,A8,K4,N9,c1,aU,ny,h0,h1,h2],G7 hm _⟩
  | false=>exact⟨ext m [D9 f.cmp],by simp [f146,F3,trD,H9,w9,p8,l8,D5,D7,j5 hm,j6 hm,l9 hm,l5 hm,G5,r9,C8,A8,K4,N9,c1,aU,ny,h0,h1],G7 hm _⟩
 | false=>exact⟨ext m [D9 f.cmp],by simp [f146,F3,trD,H9,w9,p8,l8,D5,D7,j5 hm,j6 hm,l9 hm,l5 hm,G5,r9,C8,A8,K4,N9,c1,aU,ny,h0],G7 hm _⟩
theorem Ot {m:Mem}{f:Fct}{a b l:List Int}(hm:m.Ok)(hl:m.lim≤m.next)(hf:W9 m f a b l)(n fu:Nat)(hfu:1000≤fu):
  ∃m',G9 KW fu (n+10) (.func 145) [.agg f.cells] m=some [⟨.bool (aU f a b),m'⟩]∧Ext m m':=by
 rw [enter (sf:=f145) rfl rfl]
 obtain⟨m3,g3,E3⟩:=Oq (K5 hm [D9 f.cells]) (by simp;omega) (hf.ext (G7 hm _)) n fu hfu
 exact⟨m3,by simp [f145,F3,trD,H9,w9,p8,l8,D5,D7,j5 hm,j6 hm,l9 hm,l5 hm,G5,r9,C8,A8,K4,g3],(G7 hm _).trans E3⟩
theorem Ou {m:Mem}{f:Fct}{a b l:List Int}(hm:m.Ok)(hl:m.lim≤m.next)(hf:W9 m f a b l)(n fu:Nat)(hfu:1000≤fu):
  ∃m',G9 KW fu (n+4) (.func 148) [.agg f.cells] m=some [⟨.bool (IZ f l),m'⟩]∧Ext m m':=by
 rw [enter (sf:=f148) rfl rfl]
 have g3:=Oi (K5 hm [D9 f.cells]) (day:=f.mday) (hf.l.ext (G7 hm _)) hf.ll n fu hfu
 exact⟨ext m [D9 f.cells,D9 [.int .i64 f.mday,f.L]],by simp [f148,F3,trD,H9,w9,p8,l8,D5,D7,j5 hm,j6 hm,l9 hm,l5 hm,G5,r9,C8,A8,K4,g3,IZ],G7 hm _⟩
theorem Ov {m:Mem}{f:Fct}{a b l:List Int}(hm:m.Ok)(hl:m.lim≤m.next)(hf:W9 m f a b l)(n fu:Nat):
  ∃m',G9 KW fu (n+2) (.func 151) [.agg f.cells] m=some [⟨.bool (wdB f),m'⟩]∧Ext m m':=by
 rw [enter (sf:=f151) rfl rfl]
 have s1:=hf.same
 have s2:cK 100 (.agg [.int .i64 f.tr,.int .i64 f.tn]) (.agg [.int .i64 f.tr,.int .i64 f.tn])=true:=by
  rw [xZ];simp [xY,Cb,K6]
 have c1:=rF n fu f (ext m [D9 f.cells]) (K5 hm _) (by simp;omega)
 cases h0:(decide (1≤f.tr)&&decide (f.tr≤6)) with
 | true=>
  cases h1:(decide (1≤f.tn)&&decide (f.tn≤60)) with
  | true=>
   cases h2:(decide (f.tr=f.room)&&decide (f.tn=f.no)) with
   | true=>
    exact⟨ext m [D9 f.cells,D9 f.cells,D9 [.int .i64 f.room,.int .i64 f.no]],by simp [f151,F3,trD,H9,w9,p8,l8,D5,D7,j5 hm,j6 hm,l9 hm,l5 hm,G5,r9,C8,A8,K4,N9,c1,s1,s2,wdB,eq_comm (a:=f.room),eq_comm (a:=f.no),h0,h1,h2],G7 hm _⟩
   | false=>exact⟨ext m [D9 f.cells,D9 f.cells,D9 [.int .i64 f.room,.int .i64 f.no]],by simp [f151,F3,trD,H9,w9,p8,l8,D5,D7,j5 hm,j6 hm,l9 hm,l5 hm,G5,r9,C8,A8,K4,N9,c1,s1,s2,wdB,eq_comm (a:=f.room),eq_comm (a:=f.no),h0,h1,h2],G7 hm _⟩
  | false=>exact⟨ext m [D9 f.cells],by simp [f151,F3,trD,H9,w9,p8,l8,D5,D7,j5 hm,j6 hm,l9 hm,l5 hm,G5,r9,C8,A8,K4,N9,c1,s1,s2,wdB,eq_comm (a:=f.room),eq_comm (a:=f.no),h0,h1],G7 hm _⟩
 | false=>exact⟨ext m [D9 f.cells],by simp [f151,F3,trD,H9,w9,p8,l8,D5,D7,j5 hm,j6 hm,l9 hm,l5 hm,G5,r9,C8,A8,K4,N9,c1,s1,s2,wdB,eq_comm (a:=f.room),eq_comm (a:=f.no),h0],G7 hm _⟩
theorem Ow {m:Mem}{f g:Fct}{a b l:List Int}{p:Nat}(hm:m.Ok)(hl:m.lim≤p)(hp:p<m.next)(hf:W9 m f a b l)(hg:m.get p=some (D9 g.cells))(n fu:Nat):
  ∃m',G9 KW fu (n+1) (.func 137) [.ptr p 0,.agg f.cells] m=some [⟨.tuple [],m'⟩]∧m'.Ok∧m'.lim=m.lim∧m.next≤m'.next∧(∀i,i<m.next→i≠p→m'.get i=m.get i)∧m'.get p=some (D9 ({g with flo:=f.flo,fhi:=f.fhi}:Fct).cells):=by
 rw [enter (sf:=f137) rfl rfl]
 have o1:=hf.a.K4
 have o2:=hf.b.K4
 have o3:=hf.l.K4
 have hi:∀i,K4 (.int .i64 i)=true:=fun _=>rfl
 have hg1:(ext m [D9 f.cells]).get p=some (D9 g.cells):=by rw [H7 hm _ hp];exact hg
 have hp1:p<(ext m [D9 f.cells]).next:=by simp;omega
 refine⟨(ext m [D9 f.cells]).set p (D9 ({g with flo:=f.flo,fhi:=f.fhi}:Fct).cells),?_,(K5 hm _).set hp1 _,by simp,by simp,fun i hi hne=>?_,U4 (K5 hm _) _ hp1 rfl⟩
 ·simp only [Fct.cells] at hg1 ⊢
  simp [-Fct.O8,f137,F3,trD,H9,w9,p8,l8,D5,D7,j5 hm,j6 hm,l9 hm,l5 hm,G5,r9,C8,A8,X7,hl,hg1,o1,o2,o3,hi]
 ·rw [aZ (K5 hm _) _ hp1 hne,H7 hm _ hi]
theorem Ox {m:Mem}{f g:Fct}{a b l:List Int}{p:Nat}(hm:m.Ok)(hl:m.lim≤p)(hp:p<m.next)(hf:W9 m f a b l)(hg:m.get p=some (D9 g.cells))(n fu:Nat):
  ∃m',G9 KW fu (n+1) (.func 139) [.ptr p 0,.agg f.cells] m=some [⟨.tuple [],m'⟩]∧m'.Ok∧m'.lim=m.lim∧m.next≤m'.next∧(∀i,i<m.next→i≠p→m'.get i=m.get i)∧m'.get p=some (D9 ({g with gid:=f.gid,made:=f.made,nom:=f.nom,tlo:=f.tlo,thi:=f.thi,gn:=f.gn,gd:=f.gd,wear:=f.wear}:Fct).cells):=by
 rw [enter (sf:=f139) rfl rfl]
 have o1:=hf.a.K4
 have o2:=hf.b.K4
 have o3:=hf.l.K4
 have hi:∀i,K4 (.int .i64 i)=true:=fun _=>rfl
 have hg1:(ext m [D9 f.cells]).get p=some (D9 g.cells):=by rw [H7 hm _ hp];exact hg
 have hp1:p<(ext m [D9 f.cells]).next:=by simp;omega
 refine⟨(ext m [D9 f.cells]).set p (D9 ({g with gid:=f.gid,made:=f.made,nom:=f.nom,tlo:=f.tlo,thi:=f.thi,gn:=f.gn,gd:=f.gd,wear:=f.wear}:Fct).cells),?_,(K5 hm _).set hp1 _,by simp,by simp,fun i hi hne=>?_,U4 (K5 hm _) _ hp1 rfl⟩
 ·simp only [Fct.cells] at hg1 ⊢
  simp [-Fct.O8,f139,F3,trD,H9,w9,p8,l8,D5,D7,j5 hm,j6 hm,l9 hm,l5 hm,G5,r9,C8,A8,X7,hl,hg1,o1,o2,o3,hi]
 ·rw [aZ (K5 hm _) _ hp1 hne,H7 hm _ hi]
theorem Oy {m:Mem}{f g:Fct}{a b l:List Int}{p:Nat}(hm:m.Ok)(hl:m.lim≤p)(hp:p<m.next)(hf:W9 m f a b l)(hg:m.get p=some (D9 g.cells))(n fu:Nat):
  ∃m',G9 KW fu (n+1) (.func 142) [.ptr p 0,.agg f.cells] m=some [⟨.tuple [],m'⟩]∧m'.Ok∧m'.lim=m.lim∧m.next≤m'.next∧(∀i,i<m.next→i≠p→m'.get i=m.get i)∧m'.get p=some (D9 ({g with ug:=f.ug,ud:=f.ud}:Fct).cells):=by
 rw [enter (sf:=f142) rfl rfl]
 have o1:=hf.a.K4
 have o2:=hf.b.K4
 have o3:=hf.l.K4
 have hi:∀i,K4 (.int .i64 i)=true:=fun _=>rfl
 have hg1:(ext m [D9 f.cells]).get p=some (D9 g.cells):=by rw [H7 hm _ hp];exact hg
 have hp1:p<(ext m [D9 f.cells]).next:=by simp;omega
 refine⟨(ext m [D9 f.cells]).set p (D9 ({g with ug:=f.ug,ud:=f.ud}:Fct).cells),?_,(K5 hm _).set hp1 _,by simp,by simp,fun i hi hne=>?_,U4 (K5 hm _) _ hp1 rfl⟩
 ·simp only [Fct.cells] at hg1 ⊢
  simp [-Fct.O8,f142,F3,trD,H9,w9,p8,l8,D5,D7,j5 hm,j6 hm,l9 hm,l5 hm,G5,r9,C8,A8,X7,hl,hg1,o1,o2,o3,hi]
 ·rw [aZ (K5 hm _) _ hp1 hne,H7 hm _ hi]
theorem Oz {m:Mem}{f g:Fct}{a b l:List Int}{p:Nat}(hm:m.Ok)(hl:m.lim≤p)(hp:p<m.next)(hf:W9 m f a b l)(hg:m.get p=some (D9 g.cells))(n fu:Nat):
  ∃m',G9 KW fu (n+1) (.func 144) [.ptr p 0,.agg f.cells] m=some [⟨.tuple [],m'⟩]∧m'.Ok∧m'.lim=m.lim∧m.next≤m'.next∧(∀i,i<m.next→i≠p→m'.get i=m.get i)∧m'.get p=some (D9 ({g with lg:=f.lg,ll:=f.ll,lh:=f.lh,lw:=f.lw}:Fct).cells):=by
 rw [enter (sf:=f144) rfl rfl]
 have o1:=hf.a.K4
 have o2:=hf.b.K4
 have o3:=hf.l.K4
 have hi:∀i,K4 (.int .i64 i)=true:=fun _=>rfl
 have hg1:(ext m [D9 f.cells]).get p=some (D9 g.cells):=by rw [H7 hm _ hp];exact hg
 have hp1:p<(ext m [D9 f.cells]).next:=by simp;omega
 refine⟨(ext m [D9 f.cells]).set p (D9 ({g with lg:=f.lg,ll:=f.ll,lh:=f.lh,lw:=f.lw}:Fct).cells),?_,(K5 hm _).set hp1 _,by simp,by simp,fun i hi hne=>?_,U4 (K5 hm _) _ hp1 rfl⟩
 ·simp only [Fct.cells] at hg1 ⊢
  simp [-Fct.O8,f144,F3,trD,H9,w9,p8,l8,D5,D7,j5 hm,j6 hm,l9 hm,l5 hm,G5,r9,C8,A8,X7,hl,hg1,o1,o2,o3,hi]
 ·rw [aZ (K5 hm _) _ hp1 hne,H7 hm _ hi]
theorem OA {m:Mem}{f g:Fct}{a b l:List Int}{p:Nat}(hm:m.Ok)(hl:m.lim≤p)(hp:p<m.next)(hf:W9 m f a b l)(hg:m.get p=some (D9 g.cells))(n fu:Nat):
  ∃m',G9 KW fu (n+1) (.func 147) [.ptr p 0,.agg f.cells] m=some [⟨.tuple [],m'⟩]∧m'.Ok∧m'.lim=m.lim∧m.next≤m'.next∧(∀i,i<m.next→i≠p→m'.get i=m.get i)∧m'.get p=some (D9 ({g with cid:=f.cid,cday:=f.cday,A:=f.A,B:=f.B,diff:=f.diff,err:=f.err,hlo:=f.hlo,hhi:=f.hhi}:Fct).cells):=by
 rw [enter (sf:=f147) rfl rfl]
 have o1:=hf.a.K4
 have o2:=hf.b.K4
 have o3:=hf.l.K4
 have hi:∀i,K4 (.int .i64 i)=true:=fun _=>rfl
 have hg1:(ext m [D9 f.cells]).get p=some (D9 g.cells):=by rw [H7 hm _ hp];exact hg
 have hp1:p<(ext m [D9 f.cells]).next:=by simp;omega
 refine⟨(ext m [D9 f.cells]).set p (D9 ({g with cid:=f.cid,cday:=f.cday,A:=f.A,B:=f.B,diff:=f.diff,err:=f.err,hlo:=f.hlo,hhi:=f.hhi}:Fct).cells),?_,(K5 hm _).set hp1 _,by simp,by simp,fun i hi hne=>?_,U4 (K5 hm _) _ hp1 rfl⟩
 ·simp only [Fct.cells] at hg1 ⊢
  simp [-Fct.O8,f147,F3,trD,H9,w9,p8,l8,D5,D7,j5 hm,j6 hm,l9 hm,l5 hm,G5,r9,C8,A8,X7,hl,hg1,o1,o2,o3,hi]
 ·rw [aZ (K5 hm _) _ hp1 hne,H7 hm _ hi]
theorem OB {m:Mem}{f g:Fct}{a b l:List Int}{p:Nat}(hm:m.Ok)(hl:m.lim≤p)(hp:p<m.next)(hf:W9 m f a b l)(hg:m.get p=some (D9 g.cells))(n fu:Nat):
  ∃m',G9 KW fu (n+1) (.func 150) [.ptr p 0,.agg f.cells] m=some [⟨.tuple [],m'⟩]∧m'.Ok∧m'.lim=m.lim∧m.next≤m'.next∧(∀i,i<m.next→i≠p→m'.get i=m.get i)∧m'.get p=some (D9 ({g with mday:=f.mday,L:=f.L}:Fct).cells):=by
 rw [enter (sf:=f150) rfl rfl]
 have o1:=hf.a.K4
 have o2:=hf.b.K4
 have o3:=hf.l.K4
 have hi:∀i,K4 (.int .i64 i)=true:=fun _=>rfl
 have hg1:(ext m [D9 f.cells]).get p=some (D9 g.cells):=by rw [H7 hm _ hp];exact hg
 have hp1:p<(ext m [D9 f.cells]).next:=by simp;omega
 refine⟨(ext m [D9 f.cells]).set p (D9 ({g with mday:=f.mday,L:=f.L}:Fct).cells),?_,(K5 hm _).set hp1 _,by simp,by simp,fun i hi hne=>?_,U4 (K5 hm _) _ hp1 rfl⟩
 ·simp only [Fct.cells] at hg1 ⊢
  simp [-Fct.O8,f150,F3,trD,H9,w9,p8,l8,D5,D7,j5 hm,j6 hm,l9 hm,l5 hm,G5,r9,C8,A8,X7,hl,hg1,o1,o2,o3,hi]
 ·rw [aZ (K5 hm _) _ hp1 hne,H7 hm _ hi]
theorem OC {m:Mem}{f g:Fct}{a b l:List Int}{p:Nat}(hm:m.Ok)(hl:m.lim≤p)(hp:p<m.next)(hf:W9 m f a b l)(hg:m.get p=some (D9 g.cells))(n fu:Nat):
  ∃m',G9 KW fu (n+1) (.func 152) [.ptr p 0,.agg f.cells] m=some [⟨.tuple [],m'⟩]∧m'.Ok∧m'.lim=m.lim∧m.next≤m'.next∧(∀i,i<m.next→i≠p→m'.get i=m.get i)∧m'.get p=some (D9 ({g with tr:=f.tr,tn:=f.tn}:Fct).cells):=by
 rw [enter (sf:=f152) rfl rfl]
 have o1:=hf.a.K4
 have o2:=hf.b.K4
 have o3:=hf.l.K4
 have hi:∀i,K4 (.int .i64 i)=true:=fun _=>rfl
 have hg1:(ext m [D9 f.cells]).get p=some (D9 g.cells):=by rw [H7 hm _ hp];exact hg
 have hp1:p<(ext m [D9 f.cells]).next:=by simp;omega
 refine⟨(ext m [D9 f.cells]).set p (D9 ({g with tr:=f.tr,tn:=f.tn}:Fct).cells),?_,(K5 hm _).set hp1 _,by simp,by simp,fun i hi hne=>?_,U4 (K5 hm _) _ hp1 rfl⟩
 ·simp only [Fct.cells] at hg1 ⊢
  simp [-Fct.O8,f152,F3,trD,H9,w9,p8,l8,D5,D7,j5 hm,j6 hm,l9 hm,l5 hm,G5,r9,C8,A8,X7,hl,hg1,o1,o2,o3,hi]
 ·rw [aZ (K5 hm _) _ hp1 hne,H7 hm _ hi]
end Go.Proofs.YtefodipjjofocaaGreatDoor.TT
namespace Go.Proofs.YtefodipjjofocaaGreatDoor.TT
open Go Go.AM
set_option linter.unusedSimpArgs false
set_option linter.unusedVariables false
set_option maxRecDepth 100000
set_option maxHeartbeats 2000000
theorem Kn (cf:L8)(fu:Nat)(m:Mem):∀(k a b:Nat),b<2^k→∀(N:Nat),2*k+1≤N→∀(a1:o8),
  ∃ba1,V9 (fun env m k=>rE cf fu none env m k) N (.nd (.nd (.nd .e (.int .u64 0) .e) a1 .e) (.int .u64 ((b:Nat):Int)) (.nd .e (.int .u64 ((a:Nat):Int)) .e)) m []=some [⟨.exit 0,(.nd (.nd (.nd .e (.int .u64 0) .e) ba1 .e) (.int .u64 ((0:Nat):Int)) (.nd .e (.int .u64 (((Nat.gcd a b):Nat):Int)) .e)),m,[],none⟩]:=by
 have stop:∀(a N:Nat) (a1:o8),V9 (fun env m k=>rE cf fu none env m k) (N+1) (.nd (.nd (.nd .e (.int .u64 0) .e) a1 .e) (.int .u64 ((0:Nat):Int)) (.nd .e (.int .u64 ((a:Nat):Int)) .e)) m []=some [⟨.exit 0,(.nd (.nd (.nd .e (.int .u64 0) .e) (.bool false) .e) (.int .u64 ((0:Nat):Int)) (.nd .e (.int .u64 ((a:Nat):Int)) .e)),m,[],none⟩]:=by
  intro a N a1
  rw [F7]
  simp [rE,F3,trD,H9,w9,p8,l8]
 have step:∀(a b N:Nat) (a1:o8),b≠0→V9 (fun env m k=>rE cf fu none env m k) (N+1) (.nd (.nd (.nd .e (.int .u64 0) .e) a1 .e) (.int .u64 ((b:Nat):Int)) (.nd .e (.int .u64 ((a:Nat):Int)) .e)) m []=V9 (fun env m k=>rE cf fu none env m k) N (.nd (.nd (.nd .e (.int .u64 0) .e) (.bool true) .e) (.int .u64 (((a%b):Nat):Int)) (.nd .e (.int .u64 ((b:Nat):Int)) .e)) m []:=by
  intro a b N a1 hb
  rw [F7]
  have h1:¬ ((b:Nat):Int)=0:=by omega
  simp [rE,F3,trD,H9,w9,p8,l8,hb,Cc _ a b hb]
 intro k
 induction k with
 | zero=>
  intro a b hb N hN a1
  obtain⟨N,rfl⟩:∃M,N=M+1:=⟨N-1,by omega⟩
  have hb0:b=0:=by simpa using hb
  subst hb0
  exact⟨(.bool false),by rw [stop,Nat.gcd_zero_right]⟩
 | succ k ih=>
  intro a b hb N hN a1
  obtain⟨N,rfl⟩:∃M,N=M+2:=⟨N-2,by omega⟩
  by_cases h0:b=0
  ·subst h0
   exact⟨(.bool false),by rw [stop,Nat.gcd_zero_right]⟩
  ·by_cases hc:a%b=0
   ·refine⟨(.bool false),?_⟩
    have e:Nat.gcd a b=b:=by rw [Nat.gcd_comm,Nat.gcd_rec,hc,Nat.gcd_zero_left]
    rw [step _ _ _ _ h0,hc,stop,e]
   ·have h1:a%b<b:=Nat.mod_lt _ (by omega)
    have h2:b%(a%b)<a%b:=Nat.mod_lt _ (by omega)
    have h3:b%(a%b)+a%b≤b:=by
     have:=Nat.div_add_mod b (a%b)
     have h4:1≤b / (a%b):=(Nat.one_le_div_iff (by omega)).2 (by omega)
     have h5:a%b*1≤a%b*(b / (a%b)):=Nat.mul_le_mul_left _ h4
     omega
    have h6:b%(a%b)<2^k:=by rw [Nat.pow_succ] at hb;omega
    obtain⟨ca1,g⟩:=ih (a%b) (b%(a%b)) h6 N (by omega) ((.bool true))
    refine⟨ca1,?_⟩
    rw [step _ _ _ _ h0,step _ _ _ _ hc,g]
    have e:Nat.gcd (a%b) (b%(a%b))=Nat.gcd a b:=by
     rw [Nat.gcd_comm a b,Nat.gcd_rec b a,Nat.gcd_rec (a%b) b,Nat.gcd_comm]
    rw [e]
theorem OD (a b:Nat)(hb:b<2^64)(n fu:Nat)(hfu:1000≤fu)(m:Mem):G9 KW fu (n+1) (.func 383) [.int .u64 a,.int .u64 b] m=some [⟨.int .u64 (Nat.gcd a b:Nat),m⟩]:=by
 rw [enter (sf:=aeC) rfl rfl]
 obtain⟨b1,g⟩:=Kn (G9 KW fu n) fu m 64 a b hb fu (by omega) .undef
 simp [aeC,F3,trD,H9,w9,p8,l8] at g ⊢
 simp [g]
theorem Ko (cf:L8)(fu:Nat)(m:Mem):∀(k a b:Nat),b<2^k→∀(N:Nat),2*k+1≤N→∀(a1 a3:o8),
  ∃ba1 ba3,V9 (fun env m k=>rC cf fu none env m k) N (.nd (.nd (.nd .e a3 .e) a1 .e) (.int .i64 ((b:Nat):Int)) (.nd (.nd .e (.int .i64 0) .e) (.int .i64 ((a:Nat):Int)) .e)) m []=some [⟨.exit 0,(.nd (.nd (.nd .e ba3 .e) ba1 .e) (.int .i64 ((0:Nat):Int)) (.nd (.nd .e (.int .i64 0) .e) (.int .i64 (((Nat.gcd a b):Nat):Int)) .e)),m,[],none⟩]:=by
 have stop:∀(a N:Nat) (a1 a3:o8),V9 (fun env m k=>rC cf fu none env m k) (N+1) (.nd (.nd (.nd .e a3 .e) a1 .e) (.int .i64 ((0:Nat):Int)) (.nd (.nd .e (.int .i64 0) .e) (.int .i64 ((a:Nat):Int)) .e)) m []=some [⟨.exit 0,(.nd (.nd (.nd .e a3 .e) (.bool false) .e) (.int .i64 ((0:Nat):Int)) (.nd (.nd .e (.int .i64 0) .e) (.int .i64 ((a:Nat):Int)) .e)),m,[],none⟩]:=by
  intro a N a1 a3
  rw [F7]
  simp [rC,F3,trD,H9,w9,p8,l8]
 have step:∀(a b N:Nat) (a1 a3:o8),b≠0→V9 (fun env m k=>rC cf fu none env m k) (N+1) (.nd (.nd (.nd .e a3 .e) a1 .e) (.int .i64 ((b:Nat):Int)) (.nd (.nd .e (.int .i64 0) .e) (.int .i64 ((a:Nat):Int)) .e)) m []=V9 (fun env m k=>rC cf fu none env m k) N (.nd (.nd (.nd .e (.int .i64 ((a%b:Nat):Int)) .e) (.bool true) .e) (.int .i64 (((a%b):Nat):Int)) (.nd (.nd .e (.int .i64 0) .e) (.int .i64 ((b:Nat):Int)) .e)) m []:=by
  intro a b N a1 a3 hb
  rw [F7]
  have h1:¬ ((b:Nat):Int)=0:=by omega
  simp [rC,F3,trD,H9,w9,p8,l8,hb,Cc _ a b hb]
 intro k
 induction k with
 | zero=>
  intro a b hb N hN a1 a3
  obtain⟨N,rfl⟩:∃M,N=M+1:=⟨N-1,by omega⟩
  have hb0:b=0:=by simpa using hb
  subst hb0
  exact⟨(.bool false),a3,by rw [stop,Nat.gcd_zero_right]⟩
 | succ k ih=>
  intro a b hb N hN a1 a3
  obtain⟨N,rfl⟩:∃M,N=M+2:=⟨N-2,by omega⟩
  by_cases h0:b=0
  ·subst h0
   exact⟨(.bool false),a3,by rw [stop,Nat.gcd_zero_right]⟩
  ·by_cases hc:a%b=0
   ·refine⟨(.bool false),(.int .i64 ((a%b:Nat):Int)),?_⟩
    have e:Nat.gcd a b=b:=by rw [Nat.gcd_comm,Nat.gcd_rec,hc,Nat.gcd_zero_left]
    rw [step _ _ _ _ _ h0,hc,stop,e]
   ·have h1:a%b<b:=Nat.mod_lt _ (by omega)
    have h2:b%(a%b)<a%b:=Nat.mod_lt _ (by omega)
    have h3:b%(a%b)+a%b≤b:=by
     have:=Nat.div_add_mod b (a%b)
     have h4:1≤b / (a%b):=(Nat.one_le_div_iff (by omega)).2 (by omega)
     have h5:a%b*1≤a%b*(b / (a%b)):=Nat.mul_le_mul_left _ h4
     omega
    have h6:b%(a%b)<2^k:=by rw [Nat.pow_succ] at hb;omega
    obtain⟨ca1,ca3,g⟩:=ih (a%b) (b%(a%b)) h6 N (by omega) ((.bool true)) ((.int .i64 ((b%(a%b):Nat):Int)))
    refine⟨ca1,ca3,?_⟩
    rw [step _ _ _ _ _ h0,step _ _ _ _ _ hc,g]
    have e:Nat.gcd (a%b) (b%(a%b))=Nat.gcd a b:=by
     rw [Nat.gcd_comm a b,Nat.gcd_rec b a,Nat.gcd_rec (a%b) b,Nat.gcd_comm]
    rw [e]
theorem OE (a b:Nat)(hb:b<2^64)(n fu:Nat)(hfu:1000≤fu)(m:Mem):G9 KW fu (n+1) (.func 268) [.int .i64 a,.int .i64 b] m=some [⟨.int .i64 (Nat.gcd a b:Nat),m⟩]:=by
 rw [enter (sf:=f268) rfl rfl]
 obtain⟨b1,b3,g⟩:=Ko (G9 KW fu n) fu m 64 a b hb fu (by omega) .undef .undef
 simp [f268,F3,trD,H9,w9,p8,l8] at g ⊢
 simp [g]
theorem wrap_u64 {n:Int}(h:0≤n)(h':n<18446744073709551616):IntKind.u64.wrap n=n:=by
 simp [IntKind.wrap,IntKind.bits,IntKind.signed]
 omega
theorem Gm (a:Int)(h:-9223372036854775808≤a)(h':a<9223372036854775808)(n fu:Nat)(m:Mem):G9 KW fu (n+1) (.func 382) [.int .i64 a] m=some [⟨.int .u64 (a.natAbs:Nat),m⟩]:=by
 rw [enter (sf:=XK) rfl rfl]
 by_cases h0:a<0
 ·have e:iy .u64 (0-iy .u64 a)=((a.natAbs:Nat):Int):=by
   show IntKind.u64.wrap (0-IntKind.u64.wrap a)=_
   simp [IntKind.wrap,IntKind.bits,IntKind.signed]
   omega
  simp only [Int.zero_sub] at e
  simp [XK,F3,trD,H9,w9,p8,l8,h0,e]
 ·have e:iy .u64 a=((a.natAbs:Nat):Int):=by
   show IntKind.u64.wrap a=_
   rw [wrap_u64 (by omega) (by omega)];omega
  simp [XK,F3,trD,H9,w9,p8,l8,h0,e]
theorem OG (a:Int)(h:-9223372036854775808<a)(h':a<9223372036854775808)(n fu:Nat)(m:Mem):G9 KW fu (n+1) (.func 269) [.int .i64 a] m=some [⟨.int .i64 (a.natAbs:Nat),m⟩]:=by
 rw [enter (sf:=f269) rfl rfl]
 by_cases h0:a<0
 ·have e:w64 (-a)=((a.natAbs:Nat):Int):=by rw [aR (by omega) (by omega)];omega
  simp [f269,F3,trD,H9,w9,p8,l8,h0,e]
 ·have e:((a.natAbs:Nat):Int)=a:=by omega
  simp [f269,F3,trD,H9,w9,p8,l8,h0,e]
end Go.Proofs.YtefodipjjofocaaGreatDoor.TT
namespace Go.Proofs.YtefodipjjofocaaGreatDoor.TT
open Go Go.AM
set_option linter.unusedSimpArgs false
set_option linter.unusedVariables false
set_option maxRecDepth 100000
set_option maxHeartbeats 2000000
def Ec (a b:Int):Bool:=decide (1≤b)&&(decide (b≤2147483647)&&(decide (((a.natAbs:Nat):Int)≤2147483647)&&decide (Nat.gcd a.natAbs b.natAbs=1)))
def gF (a:Int):Prop:=-9223372036854775808≤a∧a<9223372036854775808
theorem OH (a b:Int)(ha:gF a)(hb:gF b)(n fu:Nat)(hfu:1000≤fu)(m:Mem)(hm:m.Ok):G9 KW fu (n+2) (.func 323) [.agg [.int .i64 a,.int .i64 b]] m=some [⟨.bool (Ec a b),ext m [D9 [.int .i64 a,.int .i64 b]]⟩]:=by
 rw [enter (sf:=f323) rfl rfl]
 have c1:=Gm a ha.1 ha.2 n fu
 have c2:=Gm b hb.1 hb.2 n fu
 have c3:=OD a.natAbs b.natAbs (by have:=hb.1;have:=hb.2;omega) n fu hfu
 have s1:cK 100 (.int .i64 b) (.int .i64 b)=true:=K6 _ _ _
 have e1:decide (((Nat.gcd a.natAbs b.natAbs:Nat):Int)=1)=decide (Nat.gcd a.natAbs b.natAbs=1):=by rw [Bool.eq_iff_iff];simp;omega
 cases h0:decide (1≤b) with
 | true=>
  cases h1:decide (b≤2147483647) with
  | true=>
   cases h2:decide (((a.natAbs:Nat):Int)≤2147483647) with
   | true=>
    cases h3:decide (Nat.gcd a.natAbs b.natAbs=1) with
    | true=>
     simp [f323,F3,trD,H9,w9,p8,l8,D5,D7,j5 hm,j6 hm,l9 hm,l5 hm,G5,r9,C8,A8,K4,c1,c2,c3,s1,e1,Ec,h0,h1,h2,h3]
    | false=>simp [f323,F3,trD,H9,w9,p8,l8,D5,D7,j5 hm,j6 hm,l9 hm,l5 hm,G5,r9,C8,A8,K4,c1,c2,c3,s1,e1,Ec,h0,h1,h2,h3]
   | false=>simp [f323,F3,trD,H9,w9,p8,l8,D5,D7,j5 hm,j6 hm,l9 hm,l5 hm,G5,r9,C8,A8,K4,c1,c2,c3,s1,e1,Ec,h0,h1,h2]
  | false=>simp [f323,F3,trD,H9,w9,p8,l8,D5,D7,j5 hm,j6 hm,l9 hm,l5 hm,G5,r9,C8,A8,K4,c1,c2,c3,s1,e1,Ec,h0,h1]
 | false=>simp [f323,F3,trD,H9,w9,p8,l8,D5,D7,j5 hm,j6 hm,l9 hm,l5 hm,G5,r9,C8,A8,K4,c1,c2,c3,s1,e1,Ec,h0]
def Bb (a b:Int):Bool:=!(decide (b<1))&&(!(decide (2147483647<b))&&(!(decide (a < -2147483647))&&(!(decide (2147483647<a))&&decide (Nat.gcd a.natAbs b.natAbs=1))))
theorem OI (a b:Int):Bb a b=Ec a b:=by
 unfold Bb Ec
 have e1:(!(decide (b<1)))=decide (1≤b):=by rw [Bool.eq_iff_iff];simp
 have e2:(!(decide (2147483647<b)))=decide (b≤2147483647):=by rw [Bool.eq_iff_iff];simp
 have e3:(!(decide (a < -2147483647)) && !(decide (2147483647<a)))=decide (((a.natAbs:Nat):Int)≤2147483647):=by rw [Bool.eq_iff_iff];simp;omega
 rw [e1,e2,← e3]
 simp [Bool.and_assoc]
theorem OJ (a b:Int)(ha:gF a)(hb:gF b)(n fu:Nat)(hfu:1000≤fu)(m:Mem)(hm:m.Ok):G9 KW fu (n+2) (.func 170) [.agg [.int .i64 a,.int .i64 b]] m=some [⟨.bool (Ec a b),ext m [D9 [.int .i64 a,.int .i64 b]]⟩]:=by
 rw [enter (sf:=f170) rfl rfl,← OI]
 have c3:=OE a.natAbs b.natAbs (by have:=hb.1;have:=hb.2;omega) n fu hfu
 have s1:cK 100 (.int .i64 b) (.int .i64 b)=true:=K6 _ _ _
 have e1:decide (((Nat.gcd a.natAbs b.natAbs:Nat):Int)=1)=decide (Nat.gcd a.natAbs b.natAbs=1):=by rw [Bool.eq_iff_iff];simp;omega
 cases h0:decide (b<1) with
 | true=>simp [f170,F3,trD,H9,w9,p8,l8,D5,D7,j5 hm,j6 hm,l9 hm,l5 hm,G5,r9,C8,A8,K4,Bb,h0]
 | false=>
 cases h1:decide (2147483647<b) with
 | true=>simp [f170,F3,trD,H9,w9,p8,l8,D5,D7,j5 hm,j6 hm,l9 hm,l5 hm,G5,r9,C8,A8,K4,Bb,h0,h1]
 | false=>
 cases h2:decide (a < -2147483647) with
 | true=>simp [f170,F3,trD,H9,w9,p8,l8,D5,D7,j5 hm,j6 hm,l9 hm,l5 hm,G5,r9,C8,A8,K4,Bb,h0,h1,h2]
 | false=>
 cases h3:decide (2147483647<a) with
 | true=>simp [f170,F3,trD,H9,w9,p8,l8,D5,D7,j5 hm,j6 hm,l9 hm,l5 hm,G5,r9,C8,A8,K4,Bb,h0,h1,h2,h3]
 | false=>
 have g0:¬ b<1:=by simpa using h0
 have g2:¬ a < -2147483647:=by simpa using h2
 have g3:¬ 2147483647<a:=by simpa using h3
 have eb:((b.natAbs:Nat):Int)=b:=by omega
 have c1:=OG a (by omega) (by omega) n fu
 rw [eb] at c3
 cases h4:decide (Nat.gcd a.natAbs b.natAbs=1)<;>simp [f170,F3,trD,H9,w9,p8,l8,D5,D7,j5 hm,j6 hm,l9 hm,l5 hm,G5,r9,C8,A8,K4,Bb,h0,h1,h2,h3,h4,c1,c3,s1,e1]
end Go.Proofs.YtefodipjjofocaaGreatDoor.TT
namespace Go.Proofs.YtefodipjjofocaaGreatDoor.TT
open Go Go.AM
set_option linter.unusedSimpArgs false
set_option linter.unusedVariables false
set_option maxRecDepth 100000
set_option maxHeartbeats 2000000
def Fct.gau (f:Fct):List o8:=[.int .i64 f.gid,.int .i64 f.made,.int .i64 f.nom,.int .i64 f.tlo,.int .i64 f.thi,.int .i64 f.gn,.int .i64 f.gd,.int .i64 f.wear]
def O9 (f:Fct):Bool:=(Ec f.gn f.gd&&((decide (-1000≤f.gn)&&decide (f.gn≤1000))&&(decide (f.gd≤100)&&((decide (1≤f.gid)&&decide (f.gid≤1099511627776))&&((decide (0≤f.made)&&decide (f.made≤20000))&&((decide (1≤f.nom)&&decide (f.nom≤1125899906842624))&&((decide (-1073741824≤f.tlo)&&decide (f.tlo≤f.thi)&&decide (f.thi≤1073741824))&&(decide (0≤f.wear)&&decide (f.wear≤1048576)))))))))
theorem OL (f:Fct)(ha:gF f.gn)(hb:gF f.gd)(n fu:Nat)(hfu:1000≤fu)(m:Mem)(hm:m.Ok):∃m',G9 KW fu (n+3) (.func 258) [.agg f.gau] m=some [⟨.bool (O9 f),m'⟩]∧Ext m m':=by
 rw [enter (sf:=f258) rfl rfl]
 have c1:=OH f.gn f.gd ha hb n fu hfu (ext m [D9 f.gau]) (K5 hm _)
 have c2:=Gd (n+1) fu f.tlo f.thi (-1073741824) 1073741824 (ext m [D9 f.gau,D9 [.int .i64 f.gn,.int .i64 f.gd]]) (K5 hm _)
 have e1:decide (100<f.gd)=!decide (f.gd≤100):=by rw [Bool.eq_iff_iff];simp
 simp only [Fct.gau] at c1 c2
 cases h0:Ec f.gn f.gd with
 | true=>
  cases h1:(decide (-1000≤f.gn)&&decide (f.gn≤1000)) with
  | true=>
   cases h2:decide (f.gd≤100) with
   | true=>
    cases h3:(decide (1≤f.gid)&&decide (f.gid≤1099511627776)) with
    | true=>
     cases h4:(decide (0≤f.made)&&decide (f.made≤20000)) with
     | true=>
      cases h5:(decide (1≤f.nom)&&decide (f.nom≤1125899906842624)) with
      | true=>
       cases h6:(decide (-1073741824≤f.tlo)&&decide (f.tlo≤f.thi)&&decide (f.thi≤1073741824)) with
       | true=>
        cases h7:(decide (0≤f.wear)&&decide (f.wear≤1048576)) with
        | true=>
         exact⟨ext m [D9 f.gau,D9 [.int .i64 f.gn,.int .i64 f.gd],D9 [.int .i64 f.tlo,.int .i64 f.thi]],by simp [f258,Fct.gau,F3,trD,H9,w9,p8,l8,D5,D7,j5 hm,j6 hm,l9 hm,l5 hm,G5,r9,C8,A8,K4,c1,c2,e1,R6,Y7,O9,h0,h1,h2,h3,h4,h5,h6,h7],G7 hm _⟩
        | false=>exact⟨ext m [D9 f.gau,D9 [.int .i64 f.gn,.int .i64 f.gd],D9 [.int .i64 f.tlo,.int .i64 f.thi]],by simp [f258,Fct.gau,F3,trD,H9,w9,p8,l8,D5,D7,j5 hm,j6 hm,l9 hm,l5 hm,G5,r9,C8,A8,K4,c1,c2,e1,R6,Y7,O9,h0,h1,h2,h3,h4,h5,h6,h7],G7 hm _⟩
       | false=>exact⟨ext m [D9 f.gau,D9 [.int .i64 f.gn,.int .i64 f.gd],D9 [.int .i64 f.tlo,.int .i64 f.thi]],by simp [f258,Fct.gau,F3,trD,H9,w9,p8,l8,D5,D7,j5 hm,j6 hm,l9 hm,l5 hm,G5,r9,C8,A8,K4,c1,c2,e1,R6,Y7,O9,h0,h1,h2,h3,h4,h5,h6],G7 hm _⟩
      | false=>exact⟨ext m [D9 f.gau,D9 [.int .i64 f.gn,.int .i64 f.gd]],by simp [f258,Fct.gau,F3,trD,H9,w9,p8,l8,D5,D7,j5 hm,j6 hm,l9 hm,l5 hm,G5,r9,C8,A8,K4,c1,c2,e1,R6,Y7,O9,h0,h1,h2,h3,h4,h5],G7 hm _⟩
     | false=>exact⟨ext m [D9 f.gau,D9 [.int .i64 f.gn,.int .i64 f.gd]],by simp [f258,Fct.gau,F3,trD,H9,w9,p8,l8,D5,D7,j5 hm,j6 hm,l9 hm,l5 hm,G5,r9,C8,A8,K4,c1,c2,e1,R6,Y7,O9,h0,h1,h2,h3,h4],G7 hm _⟩
    | false=>exact⟨ext m [D9 f.gau,D9 [.int .i64 f.gn,.int .i64 f.gd]],by simp [f258,Fct.gau,F3,trD,H9,w9,p8,l8,D5,D7,j5 hm,j6 hm,l9 hm,l5 hm,G5,r9,C8,A8,K4,c1,c2,e1,R6,Y7,O9,h0,h1,h2,h3],G7 hm _⟩
   | false=>
    cases h3:(decide (1≤f.gid)&&decide (f.gid≤1099511627776)) with
    | true=>
     cases h4:(decide (0≤f.made)&&decide (f.made≤20000)) with
     | true=>
      cases h5:(decide (1≤f.nom)&&decide (f.nom≤1125899906842624)) with
      | true=>
       cases h6:(decide (-1073741824≤f.tlo)&&decide (f.tlo≤f.thi)&&decide (f.thi≤1073741824)) with
       | true=>
        exact⟨ext m [D9 f.gau,D9 [.int .i64 f.gn,.int .i64 f.gd],D9 [.int .i64 f.tlo,.int .i64 f.thi]],by simp [f258,Fct.gau,F3,trD,H9,w9,p8,l8,D5,D7,j5 hm,j6 hm,l9 hm,l5 hm,G5,r9,C8,A8,K4,c1,c2,e1,R6,Y7,O9,h0,h1,h2,h3,h4,h5,h6],G7 hm _⟩
       | false=>exact⟨ext m [D9 f.gau,D9 [.int .i64 f.gn,.int .i64 f.gd],D9 [.int .i64 f.tlo,.int .i64 f.thi]],by simp [f258,Fct.gau,F3,trD,H9,w9,p8,l8,D5,D7,j5 hm,j6 hm,l9 hm,l5 hm,G5,r9,C8,A8,K4,c1,c2,e1,R6,Y7,O9,h0,h1,h2,h3,h4,h5,h6],G7 hm _⟩
      | false=>exact⟨ext m [D9 f.gau,D9 [.int .i64 f.gn,.int .i64 f.gd]],by simp [f258,Fct.gau,F3,trD,H9,w9,p8,l8,D5,D7,j5 hm,j6 hm,l9 hm,l5 hm,G5,r9,C8,A8,K4,c1,c2,e1,R6,Y7,O9,h0,h1,h2,h3,h4,h5],G7 hm _⟩
     | false=>exact⟨ext m [D9 f.gau,D9 [.int .i64 f.gn,.int .i64 f.gd]],by simp [f258,Fct.gau,F3,trD,H9,w9,p8,l8,D5,D7,j5 hm,j6 hm,l9 hm,l5 hm,G5,r9,C8,A8,K4,c1,c2,e1,R6,Y7,O9,h0,h1,h2,h3,h4],G7 hm _⟩
    | false=>exact⟨ext m [D9 f.gau,D9 [.int .i64 f.gn,.int .i64 f.gd]],by simp [f258,Fct.gau,F3,trD,H9,w9,p8,l8,D5,D7,j5 hm,j6 hm,l9 hm,l5 hm,G5,r9,C8,A8,K4,c1,c2,e1,R6,Y7,O9,h0,h1,h2,h3],G7 hm _⟩
  | false=>
   cases h3:(decide (1≤f.gid)&&decide (f.gid≤1099511627776)) with
   | true=>
    cases h4:(decide (0≤f.made)&&decide (f.made≤20000)) with
    | true=>
     cases h5:(decide (1≤f.nom)&&decide (f.nom≤1125899906842624)) with
     | true=>
      cases h6:(decide (-1073741824≤f.tlo)&&decide (f.tlo≤f.thi)&&decide (f.thi≤1073741824)) with
      | true=>
       exact⟨ext m [D9 f.gau,D9 [.int .i64 f.gn,.int .i64 f.gd],D9 [.int .i64 f.tlo,.int .i64 f.thi]],by simp [f258,Fct.gau,F3,trD,H9,w9,p8,l8,D5,D7,j5 hm,j6 hm,l9 hm,l5 hm,G5,r9,C8,A8,K4,c1,c2,e1,R6,Y7,O9,h0,h1,h3,h4,h5,h6],G7 hm _⟩
      | false=>exact⟨ext m [D9 f.gau,D9 [.int .i64 f.gn,.int .i64 f.gd],D9 [.int .i64 f.tlo,.int .i64 f.thi]],by simp [f258,Fct.gau,F3,trD,H9,w9,p8,l8,D5,D7,j5 hm,j6 hm,l9 hm,l5 hm,G5,r9,C8,A8,K4,c1,c2,e1,R6,Y7,O9,h0,h1,h3,h4,h5,h6],G7 hm _⟩
     | false=>exact⟨ext m [D9 f.gau,D9 [.int .i64 f.gn,.int .i64 f.gd]],by simp [f258,Fct.gau,F3,trD,H9,w9,p8,l8,D5,D7,j5 hm,j6 hm,l9 hm,l5 hm,G5,r9,C8,A8,K4,c1,c2,e1,R6,Y7,O9,h0,h1,h3,h4,h5],G7 hm _⟩
    | false=>exact⟨ext m [D9 f.gau,D9 [.int .i64 f.gn,.int .i64 f.gd]],by simp [f258,Fct.gau,F3,trD,H9,w9,p8,l8,D5,D7,j5 hm,j6 hm,l9 hm,l5 hm,G5,r9,C8,A8,K4,c1,c2,e1,R6,Y7,O9,h0,h1,h3,h4],G7 hm _⟩
   | false=>exact⟨ext m [D9 f.gau,D9 [.int .i64 f.gn,.int .i64 f.gd]],by simp [f258,Fct.gau,F3,trD,H9,w9,p8,l8,D5,D7,j5 hm,j6 hm,l9 hm,l5 hm,G5,r9,C8,A8,K4,c1,c2,e1,R6,Y7,O9,h0,h1,h3],G7 hm _⟩
 | false=>
  cases h3:(decide (1≤f.gid)&&decide (f.gid≤1099511627776)) with
  | true=>
   cases h4:(decide (0≤f.made)&&decide (f.made≤20000)) with
   | true=>
    cases h5:(decide (1≤f.nom)&&decide (f.nom≤1125899906842624)) with
    | true=>
     cases h6:(decide (-1073741824≤f.tlo)&&decide (f.tlo≤f.thi)&&decide (f.thi≤1073741824)) with
     | true=>
      exact⟨ext m [D9 f.gau,D9 [.int .i64 f.gn,.int .i64 f.gd],D9 [.int .i64 f.tlo,.int .i64 f.thi]],by simp [f258,Fct.gau,F3,trD,H9,w9,p8,l8,D5,D7,j5 hm,j6 hm,l9 hm,l5 hm,G5,r9,C8,A8,K4,c1,c2,e1,R6,Y7,O9,h0,h3,h4,h5,h6],G7 hm _⟩
     | false=>exact⟨ext m [D9 f.gau,D9 [.int .i64 f.gn,.int .i64 f.gd],D9 [.int .i64 f.tlo,.int .i64 f.thi]],by simp [f258,Fct.gau,F3,trD,H9,w9,p8,l8,D5,D7,j5 hm,j6 hm,l9 hm,l5 hm,G5,r9,C8,A8,K4,c1,c2,e1,R6,Y7,O9,h0,h3,h4,h5,h6],G7 hm _⟩
    | false=>exact⟨ext m [D9 f.gau,D9 [.int .i64 f.gn,.int .i64 f.gd]],by simp [f258,Fct.gau,F3,trD,H9,w9,p8,l8,D5,D7,j5 hm,j6 hm,l9 hm,l5 hm,G5,r9,C8,A8,K4,c1,c2,e1,R6,Y7,O9,h0,h3,h4,h5],G7 hm _⟩
   | false=>exact⟨ext m [D9 f.gau,D9 [.int .i64 f.gn,.int .i64 f.gd]],by simp [f258,Fct.gau,F3,trD,H9,w9,p8,l8,D5,D7,j5 hm,j6 hm,l9 hm,l5 hm,G5,r9,C8,A8,K4,c1,c2,e1,R6,Y7,O9,h0,h3,h4],G7 hm _⟩
  | false=>exact⟨ext m [D9 f.gau,D9 [.int .i64 f.gn,.int .i64 f.gd]],by simp [f258,Fct.gau,F3,trD,H9,w9,p8,l8,D5,D7,j5 hm,j6 hm,l9 hm,l5 hm,G5,r9,C8,A8,K4,c1,c2,e1,R6,Y7,O9,h0,h3],G7 hm _⟩
theorem XZ (f:Fct)(ha:gF f.gn)(hb:gF f.gd)(n fu:Nat)(hfu:1000≤fu)(m:Mem)(hm:m.Ok):∃m',G9 KW fu (n+3) (.func 99) [.agg f.gau] m=some [⟨.bool (O9 f),m'⟩]∧Ext m m':=by
 rw [enter (sf:=f99) rfl rfl]
 have c1:=OJ f.gn f.gd ha hb n fu hfu (ext m [D9 f.gau]) (K5 hm _)
 have c2:=LZ (n+1) fu f.tlo f.thi (-1073741824) 1073741824 (ext m [D9 f.gau,D9 [.int .i64 f.gn,.int .i64 f.gd]]) (K5 hm _)
 have e1:decide (100<f.gd)=!decide (f.gd≤100):=by rw [Bool.eq_iff_iff];simp
 simp only [Fct.gau] at c1 c2
 cases h0:Ec f.gn f.gd with
 | true=>
  cases h1:(decide (-1000≤f.gn)&&decide (f.gn≤1000)) with
  | true=>
   cases h2:decide (f.gd≤100) with
   | true=>
    cases h3:(decide (1≤f.gid)&&decide (f.gid≤1099511627776)) with
    | true=>
     cases h4:(decide (0≤f.made)&&decide (f.made≤20000)) with
     | true=>
      cases h5:(decide (1≤f.nom)&&decide (f.nom≤1125899906842624)) with
      | true=>
       cases h6:(decide (-1073741824≤f.tlo)&&decide (f.tlo≤f.thi)&&decide (f.thi≤1073741824)) with
       | true=>
        cases h7:(decide (0≤f.wear)&&decide (f.wear≤1048576)) with
        | true=>
         exact⟨ext m [D9 f.gau,D9 [.int .i64 f.gn,.int .i64 f.gd],D9 [.int .i64 f.tlo,.int .i64 f.thi]],by simp [f99,Fct.gau,F3,trD,H9,w9,p8,l8,D5,D7,j5 hm,j6 hm,l9 hm,l5 hm,G5,r9,C8,A8,K4,c1,c2,e1,bQ,bX,O9,h0,h1,h2,h3,h4,h5,h6,h7],G7 hm _⟩
        | false=>exact⟨ext m [D9 f.gau,D9 [.int .i64 f.gn,.int .i64 f.gd],D9 [.int .i64 f.tlo,.int .i64 f.thi]],by simp [f99,Fct.gau,F3,trD,H9,w9,p8,l8,D5,D7,j5 hm,j6 hm,l9 hm,l5 hm,G5,r9,C8,A8,K4,c1,c2,e1,bQ,bX,O9,h0,h1,h2,h3,h4,h5,h6,h7],G7 hm _⟩
       | false=>exact⟨ext m [D9 f.gau,D9 [.int .i64 f.gn,.int .i64 f.gd],D9 [.int .i64 f.tlo,.int .i64 f.thi]],by simp [f99,Fct.gau,F3,trD,H9,w9,p8,l8,D5,D7,j5 hm,j6 hm,l9 hm,l5 hm,G5,r9,C8,A8,K4,c1,c2,e1,bQ,bX,O9,h0,h1,h2,h3,h4,h5,h6],G7 hm _⟩
      | false=>exact⟨ext m [D9 f.gau,D9 [.int .i64 f.gn,.int .i64 f.gd]],by simp [f99,Fct.gau,F3,trD,H9,w9,p8,l8,D5,D7,j5 hm,j6 hm,l9 hm,l5 hm,G5,r9,C8,A8,K4,c1,c2,e1,bQ,bX,O9,h0,h1,h2,h3,h4,h5],G7 hm _⟩
     | false=>exact⟨ext m [D9 f.gau,D9 [.int .i64 f.gn,.int .i64 f.gd]],by simp [f99,Fct.gau,F3,trD,H9,w9,p8,l8,D5,D7,j5 hm,j6 hm,l9 hm,l5 hm,G5,r9,C8,A8,K4,c1,c2,e1,bQ,bX,O9,h0,h1,h2,h3,h4],G7 hm _⟩
    | false=>exact⟨ext m [D9 f.gau,D9 [.int .i64 f.gn,.int .i64 f.gd]],by simp [f99,Fct.gau,F3,trD,H9,w9,p8,l8,D5,D7,j5 hm,j6 hm,l9 hm,l5 hm,G5,r9,C8,A8,K4,c1,c2,e1,bQ,bX,O9,h0,h1,h2,h3],G7 hm _⟩
   | false=>exact⟨ext m [D9 f.gau,D9 [.int .i64 f.gn,.int .i64 f.gd]],by simp [f99,Fct.gau,F3,trD,H9,w9,p8,l8,D5,D7,j5 hm,j6 hm,l9 hm,l5 hm,G5,r9,C8,A8,K4,c1,c2,e1,bQ,bX,O9,h0,h1,h2],G7 hm _⟩
  | false=>exact⟨ext m [D9 f.gau,D9 [.int .i64 f.gn,.int .i64 f.gd]],by simp [f99,Fct.gau,F3,trD,H9,w9,p8,l8,D5,D7,j5 hm,j6 hm,l9 hm,l5 hm,G5,r9,C8,A8,K4,c1,c2,e1,bQ,bX,O9,h0,h1],G7 hm _⟩
 | false=>exact⟨ext m [D9 f.gau,D9 [.int .i64 f.gn,.int .i64 f.gd]],by simp [f99,Fct.gau,F3,trD,H9,w9,p8,l8,D5,D7,j5 hm,j6 hm,l9 hm,l5 hm,G5,r9,C8,A8,K4,c1,c2,e1,bQ,bX,O9,h0],G7 hm _⟩
end Go.Proofs.YtefodipjjofocaaGreatDoor.TT
namespace Go.Proofs.YtefodipjjofocaaGreatDoor.TT
open Go Go.AM
set_option linter.unusedSimpArgs false
set_option linter.unusedVariables false
set_option maxRecDepth 100000
set_option maxHeartbeats 2000000
def K7 (id:Nat):List o8:=[.int .i64 0,.int .i64 0,.slice id 0 1 1,.nilSlice,.nilSlice,.nilSlice,.nilSlice]
@[simp] theorem ajE (f:Fct):f.gau.length=8:=id rfl
@[simp] theorem axH (f:Fct):f.gau.take 8=f.gau:=id rfl
@[simp] theorem axI (f:Fct)(h:0<f.gau.length):f.gau[0]'h=.int .i64 f.gid:=id rfl
@[simp] theorem axJ (f:Fct)(h:1<f.gau.length):f.gau[1]'h=.int .i64 f.made:=id rfl
@[simp] theorem ajF (f:Fct):Q6 f.gau=true:=id rfl
@[simp] theorem Ya (f:Fct):[o8.int .i64 f.gid,.int .i64 f.made,.int .i64 f.nom,.int .i64 f.tlo,.int .i64 f.thi,.int .i64 f.gn,.int .i64 f.gd,.int .i64 f.wear]=f.gau:=id rfl
theorem OM (f:Fct)(ha:gF f.gn)(hb:gF f.gd)(n fu:Nat)(hfu:1000≤fu)(m:Mem)(hm:m.Ok)(hl:m.lim≤m.next)(id:Nat)(hid:id<m.next)(hg:m.get id=some (D9 f.gau)):
  ∃m',G9 KW fu (n+4) (.func 162) [.agg (K7 id)] m=some [⟨.int .i64 (bif O9 f then 0 else 1),m'⟩]∧Ext m m':=by
 rw [enter (sf:=f162) rfl rfl]
 obtain⟨N,rfl⟩:∃N,fu=N+2:=⟨fu-2,by omega⟩
 have hg1:(ext m [D9 (K7 id)]).get id=some (D9 f.gau):=by rw [H7 hm _ hid];exact hg
 have hz:D9 [o8.int .i64 0,.int .i64 0,.int .i64 0,.int .i64 0,.int .i64 0,.int .i64 0,.int .i64 0,.int .i64 0]=D9 [o8.int .i64 0,.int .i64 0,.int .i64 0,.int .i64 0,.int .i64 0,.int .i64 0,.int .i64 0,.int .i64 0]:=rfl
 obtain⟨m1,g1,E1⟩:=OL f ha hb n (N+2) hfu (ext m [D9 (K7 id),D9 f.gau]) (K5 hm _)
 refine⟨m1,?_,(G7 hm _).trans E1⟩
 simp only [K7] at hg1 g1 ⊢
 cases hgb:O9 f<;>rw [hgb] at g1
 ·simp [f162,Gb,F7,F3,trD,H9,w9,p8,l8,D5,D7,j5 hm,j6 hm,G6 hm hl,x9 hm hl,l9 hm,l5 hm,G5,r9,C8,A8,K4,hg1,g1]
 ·simp [f162,Gb,F7,F3,trD,H9,w9,p8,l8,D5,D7,j5 hm,j6 hm,G6 hm hl,x9 hm hl,l9 hm,l5 hm,G5,r9,C8,A8,K4,hg1,g1,show w64 1=1 from aR (by decide) (by decide)]
theorem OO (f:Fct)(n fu:Nat)(hfu:1000≤fu)(m:Mem)(hm:m.Ok)(hl:m.lim≤m.next)(id:Nat)(hid:id<m.next)(hg:m.get id=some (D9 f.gau)):
  ∃p m',G9 KW fu (n+1) (.func 163) [.agg (K7 id)] m=some [⟨.map p,m'⟩]∧Ext m m':=by
 rw [enter (sf:=f163) rfl rfl]
 obtain⟨N,rfl⟩:∃N,fu=N+2:=⟨fu-2,by omega⟩
 have hbl:∀c,Nat.blt (m.next+c) m.lim=false:=fun c=>by have:=FU hl [] c;rwa [gu] at this
 have hg1:(ext m [D9 (K7 id),.map []]).get id=some (D9 f.gau):=by rw [H7 hm _ hid];exact hg
 refine⟨m.next+1,ext m [D9 (K7 id),.map [(.int .i64 f.gid,.agg f.gau)],D9 f.gau],?_,G7 hm _⟩
 simp only [K7] at hg1 ⊢
 simp [f163,LC,F7,F3,trD,H9,w9,p8,l8,D5,D7,j5 hm,j6 hm,G6 hm hl,x9 hm hl,l9 hm,l5 hm,G5,r9,C8,A8,K4,hg1,kQ,hbl,vM,oW,Y2,show w64 1=1 from aR (by decide) (by decide)]
theorem OP (n fu:Nat)(m:Mem)(hm:m.Ok)(hl:m.lim≤m.next)(id p:Nat):
  G9 KW fu (n+1) (.func 164) [.agg (K7 id),.map p] m=some [⟨.func (.func 262) [] [.ptr m.next 0,.ptr (m.next+2) 0,.ptr (m.next+1) 0],ext m [D9 (K7 id),D9 [.map p],D9 [.func (.func 259) [] [.ptr (m.next+1) 0]]]⟩]:=by
 rw [enter (sf:=f164) rfl rfl]
 simp only [K7]
 simp [f164,F3,trD,H9,w9,p8,l8,D5,D7,j5 hm,j6 hm,G6 hm hl,x9 hm hl,l9 hm,l5 hm,G5,r9,C8,A8,K4]
theorem OQ (n fu:Nat)(hfu:1000≤fu)(m:Mem)(id p q r:Nat)(y:o8)(hp:m.get p=some (D9 (K7 id))):
  G9 KW fu (n+1) (.func 262) [y,.ptr p 0,.ptr q 0,.ptr r 0] m=some [⟨.tuple [],m⟩]:=by
 rw [enter (sf:=f262) rfl rfl]
 obtain⟨N,rfl⟩:∃N,fu=N+2:=⟨fu-2,by omega⟩
 simp only [K7] at hp
 simp [f262,LK,LM,LP,LQ,F7,F3,trD,H9,w9,p8,l8,hp]
end Go.Proofs.YtefodipjjofocaaGreatDoor.TT
namespace Go.Proofs.YtefodipjjofocaaGreatDoor.TT
open Go Go.AM
set_option linter.unusedSimpArgs false
set_option linter.unusedVariables false
set_option maxRecDepth 100000
set_option maxHeartbeats 2000000
theorem Yb (n fu:Nat)(m:Mem):G9 KW fu (n+1) (.func 237) [.int .u64 1] m=some [⟨.int .i64 1,m⟩]:=by
 rw [enter (sf:=f237) rfl rfl]
 have h1:iy .u8 1=1:=by decide +kernel
 have h2:iy .i64 1=1:=by decide +kernel
 have h3:w64 1=1:=aR (by decide) (by decide)
 have hs:∀(x:OF) (env:T o8) ls,x ls env=.int .u8 1→Cx (O5 (.str [0,1,2,2,3,3,3,3,4,4,4,4,4,4,4,4,5,5,5,5,5,5,5,5,5,5,5,5,5,5,5,5,6,6,6,6,6,6,6,6,6,6,6,6,6,6,6,6,6,6,6,6,6,6,6,6,6,6,6,6,6,6,6,6,7,7,7,7,7,7,7,7,7,7,7,7,7,7,7,7,7,7,7,7,7,7,7,7,7,7,7,7,7,7,7,7,7,7,7,7,7,7,7,7,7,7,7,7,7,7,7,7,7,7,7,7,7,7,7,7,7,7,7,7,7,7,7,7,8,8,8,8,8,8,8,8,8,8,8,8,8,8,8,8,8,8,8,8,8,8,8,8,8,8,8,8,8,8,8,8,8,8,8,8,8,8,8,8,8,8,8,8,8,8,8,8,8,8,8,8,8,8,8,8,8,8,8,8,8,8,8,8,8,8,8,8,8,8,8,8,8,8,8,8,8,8,8,8,8,8,8,8,8,8,8,8,8,8,8,8,8,8,8,8,8,8,8,8,8,8,8,8,8,8,8,8,8,8,8,8,8,8,8,8,8,8,8,8,8,8,8,8,8,8,8,8])) x ls env=some (.int .u8 1):=by
  intro x env ls hx
  show kT (x ls env) _=_
  rw [hx];rfl
 simp [f237,F3,trD,H9,w9,p8,l8,h1,h2,h3,hs]
theorem Yc (n fu:Nat)(m:Mem):G9 KW fu (n+2) (.func 155) [.int .u64 1] m=some [⟨.int .i64 1,m⟩]:=by
 rw [enter (sf:=f155) rfl rfl]
 simp [f155,F3,trD,H9,w9,p8,l8,Yb]
theorem Yd (v:o8)(n fu:Nat)(hfu:1000≤fu)(m:Mem):G9 KW fu (n+1) (.func 350) [v,.int .i64 0,.int .i64 1] m=some [⟨.tuple [],m⟩]:=by
 rw [enter (sf:=aeB) rfl rfl]
 obtain⟨N,rfl⟩:∃N,fu=N+2:=⟨fu-2,by omega⟩
 simp [aeB,LX,F7,F3,trD,H9,w9,p8,l8,show w64 1=1 from aR (by decide) (by decide)]
theorem Ye (v:o8)(n fu:Nat)(hfu:1000≤fu)(m:Mem):G9 KW fu (n+2) (.func 291) [v,.int .i64 0,.int .i64 1,.int .i64 1] m=some [⟨.tuple [],m⟩]:=by
 rw [enter (sf:=f291) rfl rfl]
 obtain⟨N,rfl⟩:∃N,fu=N+2:=⟨fu-2,by omega⟩
 have c:=Yd v n (N+2) hfu m
 simp [f291,LW,F7,F3,trD,H9,w9,p8,l8,show w64 1=1 from aR (by decide) (by decide),c]
theorem Yf (id c:Nat)(n fu:Nat)(hfu:1000≤fu)(m:Mem):G9 KW fu (n+3) (.func 191) [.slice id 0 1 c] m=some [⟨.tuple [],m⟩]:=by
 rw [enter (sf:=f191) rfl rfl]
 have c1:=Ye (.slice id 0 1 c) n fu hfu m
 have h1:iy .u64 1=1:=by decide +kernel
 simp [f191,F3,trD,H9,w9,p8,l8,h1,Yc,c1]
theorem Yg (id c:Nat)(n fu:Nat)(hfu:1000≤fu)(m:Mem):G9 KW fu (n+1) (.func 332) [.slice id 0 1 c] m=some [⟨.slice id 0 1 c,m⟩]:=by
 rw [enter (sf:=f332) rfl rfl]
 simp [f332,F3,trD,H9,w9,p8,l8]
theorem OT (f:Fct)(n fu:Nat)(hfu:1000≤fu)(m:Mem)(hm:m.Ok)(hl:m.lim≤m.next)(id:Nat):
  G9 KW fu (n+4) (.func 265) [.agg (K7 id),.agg f.gau] m=some [⟨.slice (m.next+2) 0 1 1,ext m [D9 (K7 id),D9 f.gau,D9 [.int .i64 f.made]]⟩]:=by
 rw [enter (sf:=f265) rfl rfl]
 obtain⟨N,rfl⟩:∃N,fu=N+2:=⟨fu-2,by omega⟩
 simp only [K7]
 simp [f265,LU,LV,F7,F3,trD,H9,w9,p8,l8,D5,D7,j5 hm,j6 hm,G6 hm hl,x9 hm hl,l9 hm,l5 hm,G5,r9,C8,A8,K4,Y6,Yf _ _ n (N+2) hfu,Yg _ _ (n+2) (N+2) hfu]
theorem OU (a b:o8)(m:Mem)(hm:m.Ok)(id:Nat)(hg:m.get id=some (D9 [a,b])):U2 m 2 1 (.slice id 0 1 1)=some [a,b]:=by
 show U6 m id 0 (Nat.mul 1 2)=_
 show X0 (m.get id) (fun rs k rows=>O1 rs k rows 2 0)=_
 rw [hg];kernel_rfl
theorem Cj (a b:o8)(m:Mem)(hm:m.Ok)(id:Nat)(hg:m.get id=some (D9 [a,b]))(s x:OF)(cf:L8)(ls:List o8)(env:T o8)(hs:s ls env=.nilSlice)(hx:x ls env=.slice id 0 1 1):
  dG 2 16 s x cf ls env m=some [⟨.sliceU m.next 0 1 2,m.new (D9 [a,b])⟩]:=by
 show ob (lenOf (x ls env)) (fun n=>ob (U2 m 2 n (x ls env)) fun new=>lX m 2 16 n new (s ls env))=_
 rw [hx,hs]
 show ob (U2 m 2 1 (.slice id 0 1 1)) _=_
 rw [OU a b m hm id hg]
 rfl
theorem OV (f:Fct)(n fu:Nat)(hfu:1000≤fu)(m:Mem)(hm:m.Ok)(hl:m.lim≤m.next)(id:Nat)(hid:id<m.next)(hg:m.get id=some (D9 f.gau)):
  ∃p m',G9 KW fu (n+5) (.func 165) [.agg (K7 id)] m=some [⟨.sliceU p 0 1 2,m'⟩]∧Ext m m':=by
 rw [enter (sf:=f165) rfl rfl]
 obtain⟨N,rfl⟩:∃N,fu=N+2:=⟨fu-2,by omega⟩
 have hg1:(ext m [D9 (K7 id)]).get id=some (D9 f.gau):=by rw [H7 hm _ hid];exact hg
 have c1:=OT f n (N+2) hfu (ext m [D9 (K7 id),D9 f.gau]) (K5 hm _) (by simp;omega) id
 have c2:∀(s x:OF) cf ls env,s ls env=.nilSlice→x ls env=.slice (m.next+5) 0 1 1→
   dG 2 16 s x cf ls env (ext m [D9 (K7 id),D9 f.gau,D9 (K7 id),D9 f.gau,D9 [.int .i64 f.made],D9 [.int .i64 f.gid,.int .i64 f.made]]) =
    some [⟨.sliceU (m.next+6) 0 1 2,ext m [D9 (K7 id),D9 f.gau,D9 (K7 id),D9 f.gau,D9 [.int .i64 f.made],D9 [.int .i64 f.gid,.int .i64 f.made],D9 [.int .i64 f.gid,.int .i64 f.made]]⟩]:=by
  intro s x cf ls env hs hx
  rw [Cj (.int .i64 f.gid) (.int .i64 f.made) _ (K5 hm _) (m.next+5) (by rw [j6 hm];rfl) s x cf ls env hs hx,← bH]
  simp
 refine⟨m.next+6,ext m [D9 (K7 id),D9 f.gau,D9 (K7 id),D9 f.gau,D9 [.int .i64 f.made],D9 [.int .i64 f.gid,.int .i64 f.made],D9 [.int .i64 f.gid,.int .i64 f.made]],?_,G7 hm _⟩
 simp only [K7] at hg1 c1 c2 ⊢
 simp [f165,LD,LG,F7,F3,trD,H9,w9,p8,l8,D5,D7,j5 hm,j6 hm,G6 hm hl,x9 hm hl,l9 hm,l5 hm,G5,r9,C8,A8,K4,Y6,Nat.add_assoc,hg1,c1,c2,show w64 1=1 from aR (by decide) (by decide)]
end Go.Proofs.YtefodipjjofocaaGreatDoor.TT
namespace Go.Proofs.YtefodipjjofocaaGreatDoor.TT
open Go Go.AM
set_option linter.unusedSimpArgs false
set_option linter.unusedVariables false
set_option maxRecDepth 100000
set_option maxHeartbeats 2000000
theorem Yh (f:Fct)(ha:gF f.gn)(hb:gF f.gd)(n fu:Nat)(hfu:1000≤fu)(m:Mem)(hm:m.Ok)(hl:m.lim≤m.next)(id:Nat)(hid:id<m.next)(hg:m.get id=some (D9 f.gau)):
  ∃m',G9 KW fu (n+8) (.func 92) [.agg (K7 id)] m=some [⟨.int .i64 (bif O9 f then 0 else 1),m'⟩]∧Ext m m':=by
 rw [enter (sf:=f92) rfl rfl]
 have c161:=Gd (n+6) fu 0 0 0 1000000 (ext m [D9 (K7 id),D9 [.int .i64 0]]) (K5 hm _)
 have hg2:(ext m [D9 (K7 id),D9 [.int .i64 0],D9 [.int .i64 0,.int .i64 0]]).get id=some (D9 f.gau):=by rw [H7 hm _ hid];exact hg
 have E2:=G7 hm [D9 (K7 id),D9 [.int .i64 0],D9 [.int .i64 0,.int .i64 0]]
 obtain⟨m3,g3,E3⟩:=OM f ha hb (n+3) fu hfu _ (K5 hm [D9 (K7 id),D9 [.int .i64 0],D9 [.int .i64 0,.int .i64 0]]) (by simp;omega) id (by simp;omega) hg2
 have q3a:m3.get m.next=some (D9 (K7 id)):=by rw [E3.old _ (by simp),j5 hm];rfl
 have q3b:m3.get (m.next+1)=some (D9 [.int .i64 0]):=by rw [E3.old _ (by simp),j6 hm];rfl
 have E23:=E2.trans E3
 have l3:m3.lim≤m.next:=by rw [E23.lim];exact hl
 have n3:m.next+3≤m3.next:=by have:=E3.next;simpa using this
 have k3:m3.Ok:=E3.ok
 cases hgb:O9 f with
 | false=>
  rw [hgb] at g3
  refine⟨m3.set (m.next+1) (D9 [.int .i64 1]),?_,E23.set (by omega) (by omega) _⟩
  have r1:(m3.set (m.next+1) (D9 [.int .i64 1])).get (m.next+1)=some (D9 [.int .i64 1]):=U4 k3 _ (by omega) rfl
  simp only [K7] at c161 g3 q3a ⊢
  simp [f92,F3,trD,H9,w9,p8,l8,D5,D7,j5 hm,j6 hm,G6 hm hl,x9 hm hl,l9 hm,l5 hm,G5,r9,C8,A8,K4,c161,g3,q3a,q3b,uj (show m3.lim≤m.next+1 by omega),r1]
 | true=>
  rw [hgb] at g3
  have hg3:m3.get id=some (D9 f.gau):=by rw [E3.old _ (by simp;omega)];exact hg2
  obtain⟨p,m4,g4,E4⟩:=OO f (n+6) fu hfu m3 k3 (by omega) id (by omega) hg3
  have k4:m4.Ok:=E4.ok
  have l4:m4.lim≤m.next:=by rw [E4.lim];exact l3
  have n4:m3.next≤m4.next:=E4.next
  have q4a:m4.get m.next=some (D9 (K7 id)):=by rw [E4.old _ (by omega)];exact q3a
  have q4b:m4.get (m.next+1)=some (D9 [.int .i64 0]):=by rw [E4.old _ (by omega)];exact q3b
  have g5:=OP (n+6) fu m4 k4 (by omega) id p
  have g6:∀y st pend env ps asg bd,G9 KW fu (n+7) (.func 262) [y,.ptr m4.next 0,.ptr (m4.next+2) 0,.ptr (m4.next+1) 0] (ext m4 [D9 (K7 id),D9 [.map p],D9 [.func (.func 259) [] [.ptr (m4.next+1) 0]],.deferred,.loop st pend env ps asg bd])=some [⟨.tuple [],ext m4 [D9 (K7 id),D9 [.map p],D9 [.func (.func 259) [] [.ptr (m4.next+1) 0]],.deferred,.loop st pend env ps asg bd]⟩]:=fun y st pend env ps asg bd=>
   OQ (n+6) fu hfu _ id _ _ _ y (by rw [j5 k4];rfl)
  have E6:=G7 k4 [D9 (K7 id),D9 [.map p],D9 [.func (.func 259) [] [.ptr (m4.next+1) 0]],.deferred,.dead]
  have q6a:(ext m4 [D9 (K7 id),D9 [.map p],D9 [.func (.func 259) [] [.ptr (m4.next+1) 0]],.deferred,.dead]).get m.next=some (D9 (K7 id)):=by rw [E6.old _ (by omega)];exact q4a
  obtain⟨q,m7,g7,E7⟩:=OV f (n+2) fu hfu _ (K5 k4 [D9 (K7 id),D9 [.map p],D9 [.func (.func 259) [] [.ptr (m4.next+1) 0]],.deferred,.dead]) (by simp;omega) id (by simp;omega)
   (by rw [H7 k4 _ (by omega),E4.old _ (by omega)];exact hg3)
  have E47:=E6.trans E7
  have k7:m7.Ok:=E7.ok
  have n7:m4.next+5≤m7.next:=by have:=E7.next;simpa using this
  have l7:m7.lim≤m.next:=by rw [E47.lim];exact l4
  have q7a:m7.get m.next=some (D9 (K7 id)):=by rw [E47.old _ (by omega)];exact q4a
  have q7b:m7.get (m.next+1)=some (D9 [.int .i64 0]):=by rw [E47.old _ (by omega)];exact q4b
  have q7c:m7.get (m4.next+3)=some .deferred:=by rw [E7.old _ (by simp),j6 k4];rfl
  have E07:=(E23.trans E4).trans E47
  refine⟨(m7.set (m.next+1) (D9 [.int .i64 0])).set (m4.next+3) .dead,?_,(E07.set (by omega) (by omega) _).set (by simp;omega) (by omega) _⟩
  have k8:(m7.set (m.next+1) (D9 [.int .i64 0])).Ok:=k7.set (by omega) _
  have r0:(m7.set (m.next+1) (D9 [.int .i64 0])).get (m4.next+3)=some .deferred:=by rw [aZ k7 _ (by omega) (by omega)];exact q7c
  have r1:((m7.set (m.next+1) (D9 [.int .i64 0])).set (m4.next+3) .dead).get (m.next+1)=some (D9 [.int .i64 0]):=by
   rw [aZ k8 _ (by simp;omega) (by omega)]
   exact U4 k7 _ (by omega) rfl
  simp only [K7] at c161 g3 q3a g4 q4a q6a g5 g6 g7 q7a ⊢
  simp [f92,F3,trD,H9,w9,p8,l8,D5,D7,j5 hm,j6 hm,G6 hm hl,x9 hm hl,l9 hm,l5 hm,G5,r9,C8,A8,K4,j5 k4,j6 k4,l9 k4,c161,g3,q3a,q3b,g4,q4a,q6a,g5,g6,g7,q7a,q7b,uj (show m7.lim≤m.next+1 by omega),NY,r0,r1,
   show w64 2=2 from aR (by decide) (by decide),show w64 0=0 from aR (by decide) (by decide)]
theorem OW {m:Mem}{f:Fct}(ha:gF f.gn)(hb:gF f.gd)(hm:m.Ok)(hl:m.lim≤m.next)(n fu:Nat)(hfu:1000≤fu):
  ∃m',G9 KW fu (n+9) (.func 138) [.agg f.cells] m=some [⟨.bool (O9 f),m'⟩]∧Ext m m':=by
 rw [enter (sf:=f138) rfl rfl]
 obtain⟨m1,g1,E1⟩:=Yh f ha hb n fu hfu (ext m [D9 f.cells,D9 f.gau]) (K5 hm _) (by simp;omega) (m.next+1) (by simp) (by rw [j6 hm];rfl)
 refine⟨m1,?_,(G7 hm _).trans E1⟩
 simp only [K7] at g1
 cases hgb:O9 f<;>rw [hgb] at g1<;>simp [f138,F3,trD,H9,w9,p8,l8,D5,D7,j5 hm,j6 hm,G6 hm hl,x9 hm hl,l9 hm,l5 hm,G5,r9,C8,A8,K4,Y6,g1]
end Go.Proofs.YtefodipjjofocaaGreatDoor.TT
namespace Go.Proofs.YtefodipjjofocaaGreatDoor.TT
open Go Go.AM
set_option linter.unusedSimpArgs false
set_option linter.unusedVariables false
set_option maxRecDepth 100000
set_option maxHeartbeats 2000000
theorem OX (n fu:Nat)(hfu:1000≤fu)(m:Mem)(hm:m.Ok)(hl:m.lim≤m.next)(id:Nat):
  G9 KW fu (n+1) (.func 100) [.agg (K7 id)] m=some [⟨.int .i64 0,ext m [D9 (K7 id)]⟩]:=by
 rw [enter (sf:=f100) rfl rfl]
 obtain⟨N,rfl⟩:∃N,fu=N+2:=⟨fu-2,by omega⟩
 simp only [K7]
 simp [f100,Li,F7,F3,trD,H9,w9,p8,l8,D5,D7,j5 hm,j6 hm,G6 hm hl,x9 hm hl,l9 hm,l5 hm,G5,r9,C8,A8,K4]
theorem OY (n fu:Nat)(hfu:1000≤fu)(m:Mem)(hm:m.Ok)(hl:m.lim≤m.next)(id:Nat):
  G9 KW fu (n+1) (.func 101) [.agg (K7 id)] m=some [⟨.int .i64 0,ext m [D9 (K7 id)]⟩]:=by
 rw [enter (sf:=f101) rfl rfl]
 obtain⟨N,rfl⟩:∃N,fu=N+2:=⟨fu-2,by omega⟩
 simp only [K7]
 simp [f101,Lj,F7,F3,trD,H9,w9,p8,l8,D5,D7,j5 hm,j6 hm,G6 hm hl,x9 hm hl,l9 hm,l5 hm,G5,r9,C8,A8,K4]
theorem OZ (f:Fct)(n fu:Nat)(hfu:1000≤fu)(m:Mem)(hm:m.Ok)(hl:m.lim≤m.next)(id:Nat):
  G9 KW fu (n+1) (.func 172) [.agg (K7 id),.agg f.gau,.int .i64 f.made] m=some [⟨.bool true,ext m [D9 (K7 id),D9 f.gau]⟩]:=by
 rw [enter (sf:=f172) rfl rfl]
 obtain⟨N,rfl⟩:∃N,fu=N+2:=⟨fu-2,by omega⟩
 simp only [K7]
 simp [f172,F7,F3,trD,H9,w9,p8,l8,D5,D7,j5 hm,j6 hm,G6 hm hl,x9 hm hl,l9 hm,l5 hm,G5,r9,C8,A8,K4]
end Go.Proofs.YtefodipjjofocaaGreatDoor.TT
namespace Go.Proofs.YtefodipjjofocaaGreatDoor.TT
open Go Go.AM
set_option linter.unusedSimpArgs false
set_option linter.unusedVariables false
set_option maxRecDepth 100000
set_option maxHeartbeats 2000000
theorem Pb (a:o8)(m:Mem)(hm:m.Ok)(id:Nat)(hg:m.get id=some (D9 [a])):U2 m 1 1 (.slice id 0 1 1)=some [a]:=by
 show U6 m id 0 (Nat.mul 1 1)=_
 show X0 (m.get id) (fun rs k rows=>O1 rs k rows 1 0)=_
 rw [hg];kernel_rfl
theorem Kq (a:o8)(m:Mem)(hm:m.Ok)(id:Nat)(hg:m.get id=some (D9 [a]))(s x:OF)(cf:L8)(ls:List o8)(env:T o8)(hs:s ls env=.nilSlice)(hx:x ls env=.slice id 0 1 1):
  dG 1 8 s x cf ls env m=some [⟨.sliceU m.next 0 1 1,m.new (D9 [a])⟩]:=by
 show ob (lenOf (x ls env)) (fun n=>ob (U2 m 1 n (x ls env)) fun new=>lX m 1 8 n new (s ls env))=_
 rw [hx,hs]
 show ob (U2 m 1 1 (.slice id 0 1 1)) _=_
 rw [Pb a m hm id hg]
 rfl
theorem Yi (b:Int)(hb:b<20001)(x y:OF)(ls:List o8)(env:T o8)(hx:x ls env=.int .i64 20001)(hy:y ls env=.int .i64 b):
  pMm false x [y] ls env=some (.int .i64 b):=by
 show ob (mm2 false (x ls env) (y ls env)) _=_
 rw [hx,hy]
 show some (o8.int .i64 (bi (nG b 20001) b 20001))=_
 rw [show nG b 20001=true by rw [fq];simp;omega]
 rfl
theorem Gn (f:Fct)(h0:0≤f.made)(h1:f.made≤20000)(n fu:Nat)(hfu:1000≤fu)(m:Mem)(hm:m.Ok)(hl:m.lim≤m.next)(id:Nat)(hid:id<m.next)(hg:m.get id=some (D9 f.gau)):
  G9 KW fu (n+2) (.func 105) [.agg (K7 id)] m=some [⟨.sliceU (m.next+6) 0 1 2,ext m [D9 (K7 id),D9 [.int .i64 f.made],D9 [.int .i64 f.made],D9 (K7 id),D9 f.gau,D9 [.int .i64 f.gid,.int .i64 f.made],D9 [.int .i64 f.gid,.int .i64 f.made]]⟩]:=by
 rw [enter (sf:=f105) rfl rfl]
 obtain⟨N,rfl⟩:∃N,fu=N+3:=⟨fu-3,by omega⟩
 have hg1:(ext m [D9 (K7 id)]).get id=some (D9 f.gau):=by rw [H7 hm _ hid];exact hg
 have hg2:(ext m [D9 (K7 id),D9 [.int .i64 f.made],D9 [.int .i64 f.made]]).get id=some (D9 f.gau):=by rw [H7 hm _ hid];exact hg
 have hg3:(ext m [D9 (K7 id),D9 [.int .i64 f.made],D9 [.int .i64 f.made],D9 (K7 id),D9 f.gau]).get id=some (D9 f.gau):=by rw [H7 hm _ hid];exact hg
 have hg4:(ext m [D9 (K7 id),D9 [.int .i64 f.made],D9 [.int .i64 f.made],D9 (K7 id),D9 f.gau,D9 [.int .i64 f.gid,.int .i64 f.made],D9 [.int .i64 f.gid,.int .i64 f.made]]).get id=some (D9 f.gau):=by rw [H7 hm _ hid];exact hg
 have c1:∀(s x:OF) cf ls env,s ls env=.nilSlice→x ls env=.slice (m.next+1) 0 1 1→
   dG 1 8 s x cf ls env (ext m [D9 (K7 id),D9 [.int .i64 f.made]])=some [⟨.sliceU (m.next+2) 0 1 1,ext m [D9 (K7 id),D9 [.int .i64 f.made],D9 [.int .i64 f.made]]⟩]:=by
  intro s x cf ls env hs hx
  rw [Kq (.int .i64 f.made) _ (K5 hm _) (m.next+1) (by rw [j6 hm];rfl) s x cf ls env hs hx,← bH]
  simp
 have c2:=OZ f n (N+3) hfu (ext m [D9 (K7 id),D9 [.int .i64 f.made],D9 [.int .i64 f.made]]) (K5 hm _) (by simp;omega) id
 have c3:∀(s x:OF) cf ls env,s ls env=.nilSlice→x ls env=.slice (m.next+5) 0 1 1→
   dG 2 16 s x cf ls env (ext m [D9 (K7 id),D9 [.int .i64 f.made],D9 [.int .i64 f.made],D9 (K7 id),D9 f.gau,D9 [.int .i64 f.gid,.int .i64 f.made]]) =
    some [⟨.sliceU (m.next+6) 0 1 2,ext m [D9 (K7 id),D9 [.int .i64 f.made],D9 [.int .i64 f.made],D9 (K7 id),D9 f.gau,D9 [.int .i64 f.gid,.int .i64 f.made],D9 [.int .i64 f.gid,.int .i64 f.made]]⟩]:=by
  intro s x cf ls env hs hx
  rw [Cj (.int .i64 f.gid) (.int .i64 f.made) _ (K5 hm _) (m.next+5) (by rw [j6 hm];rfl) s x cf ls env hs hx,← bH]
  simp
 have c4:=Yi f.made (by omega)
 have d1:decide (-1<f.made)=true:=by simp;omega
 have d2:decide (f.made<20001)=true:=by simp;omega
 have d1':-1<f.made:=by omega
 have d2':f.made<20001:=by omega
 simp only [K7] at hg1 hg2 hg3 hg4 c1 c2 c3 ⊢
 simp [f105,Ll,Lm,Lr,Ls,Lu,Lv,F7,F3,trD,H9,w9,p8,l8,D5,D7,j5 hm,j6 hm,G6 hm hl,x9 hm hl,l9 hm,l5 hm,G5,r9,C8,A8,K4,Y6,Nat.add_assoc,hg1,hg2,hg3,hg4,c1,c2,c3,c4,d1,d2,d1',d2',show w64 1=1 from aR (by decide) (by decide)]
end Go.Proofs.YtefodipjjofocaaGreatDoor.TT
namespace Go.Proofs.YtefodipjjofocaaGreatDoor.TT
open Go Go.AM
set_option linter.unusedSimpArgs false
set_option linter.unusedVariables false
set_option maxRecDepth 100000
set_option maxHeartbeats 2000000
@[simp] theorem axK (f:Fct)(h:2<f.gau.length):f.gau[2]'h=.int .i64 f.nom:=id rfl
@[simp] theorem axL (f:Fct)(h:3<f.gau.length):f.gau[3]'h=.int .i64 f.tlo:=id rfl
@[simp] theorem axM (f:Fct)(h:4<f.gau.length):f.gau[4]'h=.int .i64 f.thi:=id rfl
noncomputable def uD (a b:List o8):Blk:=.cells (len' a) 2 (T.ofList [a,b])
theorem Bc {β:Type}{es:Nat}{cells:List o8}(h:cells.length=es+es)(k:Blk→Option β):dL es 2 cells k=k (uD (cells.take es) (cells.drop es)):=by
 show ob (ob (takeN es cells) fun r=>ob (ob (takeN es (jk es cells)) fun r'=>ob (rowsOf es 0 (jk es (jk es cells))) fun rest=>some (r'::rest)) fun rest=>some (r::rest)) (fun rows=>k (.cells es 2 (T.ofList rows)))=_
 have h2:(cells.drop es).length=es:=by simp;omega
 have h3:(cells.drop es).drop es=[]:=List.drop_of_length_le (by omega)
 have h4:(cells.drop es).take es=cells.drop es:=List.take_of_length_le (by omega)
 rw [fD _ _ (by omega),O3,eZ,fD _ _ (by omega),O3,eZ,h3,h4]
 show k (.cells es 2 (T.ofList [cells.take es,cells.drop es]))=k (.cells (len' (cells.take es)) 2 (T.ofList [cells.take es,cells.drop es]))
 rw [P8,List.length_take,Nat.min_eq_left (by omega)]
theorem sK (es:Nat)(zero:List o8)(ps:List (Nat×Nat×OF))(ls:List o8)(env:T o8)(nid:Nat):I6 es 2 zero ps ls env nid=ob (lay ps ls env (zero++zero)) fun cells=>if cells.length=es+es then some (.slice nid 0 2 2,some (uD (cells.take es) (cells.drop es))) else dL es 2 cells fun b=>some (.slice nid 0 2 2,some b):=by
 show ob (lay ps ls env (gJ zero (gJ zero []))) (fun cells=>dL es 2 cells fun b=>some (o8.slice nid 0 2 2,some b))=_
 rw [U9,U9,List.append_nil]
 congr 1
 funext cells
 split
 ·rename_i h;rw [Bc h]
 ·rfl
theorem Pd (a b c d:o8)(m:Mem)(hm:m.Ok)(id:Nat)(hg:m.get id=some (uD [a,b] [c,d]))(s x:OF)(cf:L8)(ls:List o8)(env:T o8)(hs:s ls env=.nilSlice)(hx:x ls env=.slice id 0 2 2):
  dG 2 16 s x cf ls env m=some [⟨.sliceU m.next 0 2 2,m.new (uD [a,b] [c,d])⟩]:=by
 show ob (lenOf (x ls env)) (fun n=>ob (U2 m 2 n (x ls env)) fun new=>lX m 2 16 n new (s ls env))=_
 rw [hx,hs]
 show ob (U2 m 2 2 (.slice id 0 2 2)) _=_
 rw [show U2 m 2 2 (.slice id 0 2 2)=some [a,b,c,d] by
  show X0 (m.get id) (fun rs k rows=>O1 rs k rows 4 0)=_
  rw [hg];kernel_rfl]
 rfl
theorem Pe (a b c d e f:o8)(m:Mem)(hm:m.Ok)(id:Nat)(hg:m.get id=some (uD [a,b,c] [d,e,f]))(s x:OF)(cf:L8)(ls:List o8)(env:T o8)(hs:s ls env=.nilSlice)(hx:x ls env=.slice id 0 2 2):
  dG 3 24 s x cf ls env m=some [⟨.sliceU m.next 0 2 3,m.new (uD [a,b,c] [d,e,f])⟩]:=by
 show ob (lenOf (x ls env)) (fun n=>ob (U2 m 3 n (x ls env)) fun new=>lX m 3 24 n new (s ls env))=_
 rw [hx,hs]
 show ob (U2 m 3 2 (.slice id 0 2 2)) _=_
 rw [show U2 m 3 2 (.slice id 0 2 2)=some [a,b,c,d,e,f] by
  show X0 (m.get id) (fun rs k rows=>O1 rs k rows 6 0)=_
  rw [hg];kernel_rfl]
 rfl
theorem Pf (f:Fct)(h0:0≤f.made)(h1:f.made≤20000)(n fu:Nat)(hfu:1000≤fu)(m:Mem)(hm:m.Ok)(hl:m.lim≤m.next)(id:Nat)(hid:id<m.next)(hg:m.get id=some (D9 f.gau)):
  ∃p q m',G9 KW fu (n+3) (.func 106) [.agg (K7 id)] m=some [⟨.agg [.sliceU p 0 2 3,.sliceU q 0 2 2],m'⟩]∧Ext m m':=by
 rw [enter (sf:=f106) rfl rfl]
 obtain⟨N,rfl⟩:∃N,fu=N+2:=⟨fu-2,by omega⟩
 have hgx:∀bs,(ext m bs).get id=some (D9 f.gau):=fun bs=>by rw [H7 hm _ hid];exact hg
 have hg1:=hgx [D9 (K7 id),D9 [.nilSlice,.nilSlice],D9 [.nilSlice,.nilSlice],D9 (K7 id),D9 [.int .i64 f.made],D9 [.int .i64 f.made],D9 (K7 id),D9 f.gau,D9 [.int .i64 f.gid,.int .i64 f.made],D9 [.int .i64 f.gid,.int .i64 f.made]]
 have c1:=Gn f h0 h1 n (N+2) hfu (ext m [D9 (K7 id),D9 [.nilSlice,.nilSlice],D9 [.nilSlice,.nilSlice]]) (K5 hm _) (by simp;omega) id (by simp;omega) (hgx _)
 have c2:∀(a b c d e g:Int) (s x:OF) cf ls env,s ls env=.nilSlice→x ls env=.slice (m.next+11) 0 2 2→
   dG 3 24 s x cf ls env (ext m [D9 (K7 id),D9 [.nilSlice,.nilSlice],D9 [.nilSlice,.nilSlice],D9 (K7 id),D9 [.int .i64 f.made],D9 [.int .i64 f.made],D9 (K7 id),D9 f.gau,D9 [.int .i64 f.gid,.int .i64 f.made],D9 [.int .i64 f.gid,.int .i64 f.made],D9 f.gau,uD [.int .i64 a,.int .i64 b,.int .i64 c] [.int .i64 d,.int .i64 e,.int .i64 g]])=some [⟨.sliceU (m.next+12) 0 2 3,ext m [D9 (K7 id),D9 [.nilSlice,.nilSlice],D9 [.nilSlice,.nilSlice],D9 (K7 id),D9 [.int .i64 f.made],D9 [.int .i64 f.made],D9 (K7 id),D9 f.gau,D9 [.int .i64 f.gid,.int .i64 f.made],D9 [.int .i64 f.gid,.int .i64 f.made],D9 f.gau,uD [.int .i64 a,.int .i64 b,.int .i64 c] [.int .i64 d,.int .i64 e,.int .i64 g],uD [.int .i64 a,.int .i64 b,.int .i64 c] [.int .i64 d,.int .i64 e,.int .i64 g]]⟩]:=by
  intro a b c d e g s x cf ls env hs hx
  rw [Pe (.int .i64 a) (.int .i64 b) (.int .i64 c) (.int .i64 d) (.int .i64 e) (.int .i64 g) _ (K5 hm _) (m.next+11) (by rw [j6 hm];rfl) s x cf ls env hs hx,← bH]
  simp
 have c3:∀(a b c d e g:Int) (s x:OF) cf ls env,s ls env=.nilSlice→x ls env=.slice (m.next+13) 0 2 2→
   dG 2 16 s x cf ls env (ext m [D9 (K7 id),D9 [.nilSlice,.nilSlice],D9 [.sliceU (m.next+12) 0 2 3,.nilSlice],D9 (K7 id),D9 [.int .i64 f.made],D9 [.int .i64 f.made],D9 (K7 id),D9 f.gau,D9 [.int .i64 f.gid,.int .i64 f.made],D9 [.int .i64 f.gid,.int .i64 f.made],D9 f.gau,uD [.int .i64 a,.int .i64 b,.int .i64 c] [.int .i64 d,.int .i64 e,.int .i64 g],uD [.int .i64 a,.int .i64 b,.int .i64 c] [.int .i64 d,.int .i64 e,.int .i64 g],uD [.int .i64 1,.int .i64 0] [.int .i64 1,.int .i64 0]])=some [⟨.sliceU (m.next+14) 0 2 2,ext m [D9 (K7 id),D9 [.nilSlice,.nilSlice],D9 [.sliceU (m.next+12) 0 2 3,.nilSlice],D9 (K7 id),D9 [.int .i64 f.made],D9 [.int .i64 f.made],D9 (K7 id),D9 f.gau,D9 [.int .i64 f.gid,.int .i64 f.made],D9 [.int .i64 f.gid,.int .i64 f.made],D9 f.gau,uD [.int .i64 a,.int .i64 b,.int .i64 c] [.int .i64 d,.int .i64 e,.int .i64 g],uD [.int .i64 a,.int .i64 b,.int .i64 c] [.int .i64 d,.int .i64 e,.int .i64 g],uD [.int .i64 1,.int .i64 0] [.int .i64 1,.int .i64 0],uD [.int .i64 1,.int .i64 0] [.int .i64 1,.int .i64 0]]⟩]:=by
  intro a b c d e g s x cf ls env hs hx
  rw [Pd (.int .i64 1) (.int .i64 0) (.int .i64 1) (.int .i64 0) _ (K5 hm _) (m.next+13) (by rw [j6 hm];rfl) s x cf ls env hs hx,← bH]
  simp
 refine⟨m.next+12,m.next+14,ext m [D9 (K7 id),D9 [.sliceU (m.next+12) 0 2 3,.sliceU (m.next+14) 0 2 2],D9 [.sliceU (m.next+12) 0 2 3,.sliceU (m.next+14) 0 2 2],D9 (K7 id),D9 [.int .i64 f.made],D9 [.int .i64 f.made],D9 (K7 id),D9 f.gau,D9 [.int .i64 f.gid,.int .i64 f.made],D9 [.int .i64 f.gid,.int .i64 f.made],D9 f.gau,uD [.int .i64 0,.int .i64 1,.int .i64 (w64 (f.nom+f.thi))] [.int .i64 1,.int .i64 0,.int .i64 (w64 (w64 (-f.nom)-f.tlo))],uD [.int .i64 0,.int .i64 1,.int .i64 (w64 (f.nom+f.thi))] [.int .i64 1,.int .i64 0,.int .i64 (w64 (w64 (-f.nom)-f.tlo))],uD [.int .i64 1,.int .i64 0] [.int .i64 1,.int .i64 0],uD [.int .i64 1,.int .i64 0] [.int .i64 1,.int .i64 0]],?_,G7 hm _⟩
 simp only [K7] at hg1 c1 c2 c3 ⊢
 simp [f106,Lx,LA,LB,F7,F3,trD,H9,w9,p8,l8,D5,D7,j5 hm,j6 hm,G6 hm hl,x9 hm hl,l9 hm,l5 hm,G5,r9,C8,A8,K4,sK,Nat.add_assoc,hg1,c1,c2,c3,show w64 1=1 from aR (by decide) (by decide)]
end Go.Proofs.YtefodipjjofocaaGreatDoor.TT
namespace Go.Proofs.YtefodipjjofocaaGreatDoor.TT
open Go Go.AM
set_option linter.unusedSimpArgs false
set_option linter.unusedVariables false
set_option maxRecDepth 100000
set_option maxHeartbeats 2000000
theorem Bd (f:Fct)(h:O9 f=true):0≤f.made∧f.made≤20000:=by
 simp only [O9,Bool.and_eq_true,decide_eq_true_eq] at h
 exact h.2.2.2.2.1
theorem Yj (f:Fct)(ha:gF f.gn)(hb:gF f.gd)(n fu:Nat)(hfu:1000≤fu)(m:Mem)(hm:m.Ok)(hl:m.lim≤m.next)(id:Nat)(hid:id<m.next)(hg:m.get id=some (D9 f.gau)):
  ∃m',G9 KW fu (n+5) (.func 51) [.agg (K7 id)] m=some [⟨.int .i64 (bif O9 f then 0 else 1),m'⟩]∧Ext m m':=by
 rw [enter (sf:=f51) rfl rfl]
 obtain⟨N,rfl⟩:∃N,fu=N+2:=⟨fu-2,by omega⟩
 have c98:=LZ (n+3) (N+2) 0 0 0 1000000 (ext m [D9 (K7 id)]) (K5 hm _)
 have hg2:(ext m [D9 (K7 id),D9 [.int .i64 0,.int .i64 0]]).get id=some (D9 f.gau):=by rw [H7 hm _ hid];exact hg
 have E2:=G7 hm [D9 (K7 id),D9 [.int .i64 0,.int .i64 0]]
 obtain⟨m3,g3,E3⟩:=XZ f ha hb (n+1) (N+2) hfu _ (K5 hm [D9 (K7 id),D9 [.int .i64 0,.int .i64 0]])
 have q3a:m3.get m.next=some (D9 (K7 id)):=by rw [E3.old _ (by simp),j5 hm];rfl
 have q3b:m3.get id=some (D9 f.gau):=by rw [E3.old _ (by simp;omega)];exact hg2
 have E23:=E2.trans E3
 have l3:m3.lim≤m3.next:=by rw [E23.lim];have:=E23.next;omega
 have n3:m.next+2≤m3.next:=by have:=E3.next;simpa using this
 have k3:m3.Ok:=E3.ok
 cases hgb:O9 f with
 | false=>
  rw [hgb] at g3
  refine⟨m3,?_,E23⟩
  simp only [K7] at c98 hg2 g3 q3a ⊢
  simp [f51,Oc,F7,F3,trD,H9,w9,p8,l8,D5,D7,j5 hm,j6 hm,G6 hm hl,x9 hm hl,l9 hm,l5 hm,G5,r9,C8,A8,K4,c98,hg2,g3,q3a]
 | true=>
  rw [hgb] at g3
  obtain⟨h0,h1⟩:=Bd f hgb
  have g100:=OX (n+3) (N+2) hfu m3 k3 l3 id
  have g101:=OY (n+3) (N+2) hfu (ext m3 [D9 (K7 id)]) (K5 k3 _) (by simp;omega) id
  have r1:(ext m3 [D9 (K7 id)]).get m.next=some (D9 (K7 id)):=by rw [H7 k3 _ (by omega)];exact q3a
  have r2:(ext m3 [D9 (K7 id),D9 (K7 id)]).get m.next=some (D9 (K7 id)):=by rw [H7 k3 _ (by omega)];exact q3a
  have g105:=Gn f h0 h1 (n+2) (N+2) hfu (ext m3 [D9 (K7 id),D9 (K7 id)]) (K5 k3 _) (by simp;omega) id (by simp;omega) (by rw [H7 k3 _ (by omega)];exact q3b)
  have r3:(ext m3 [D9 (K7 id),D9 (K7 id),D9 (K7 id),D9 [.int .i64 f.made],D9 [.int .i64 f.made],D9 (K7 id),D9 f.gau,D9 [.int .i64 f.gid,.int .i64 f.made],D9 [.int .i64 f.gid,.int .i64 f.made]]).get m.next=some (D9 (K7 id)):=by rw [H7 k3 _ (by omega)];exact q3a
  obtain⟨p,q,m5,g106,E5⟩:=Pf f h0 h1 (n+1) (N+2) hfu (ext m3 [D9 (K7 id),D9 (K7 id),D9 (K7 id),D9 [.int .i64 f.made],D9 [.int .i64 f.made],D9 (K7 id),D9 f.gau,D9 [.int .i64 f.gid,.int .i64 f.made],D9 [.int .i64 f.gid,.int .i64 f.made]]) (K5 k3 _) (by simp;omega) id (by simp;omega) (by rw [H7 k3 _ (by omega)];exact q3b)
  refine⟨m5,?_,E23.trans ((G7 k3 _).trans E5)⟩
  simp only [K7] at c98 hg2 g3 q3a g100 g101 r1 r2 r3 g105 g106 ⊢
  simp [f51,VX,VY,Oc,F7,F3,trD,H9,w9,p8,l8,D5,D7,j5 hm,j6 hm,G6 hm hl,x9 hm hl,l9 hm,l5 hm,G5,r9,C8,A8,K4,Nat.add_assoc,c98,hg2,g3,q3a,q3b,g100,g101,g105,r1,r2,r3,g106,show w64 1=1 from aR (by decide) (by decide)]
end Go.Proofs.YtefodipjjofocaaGreatDoor.TT
