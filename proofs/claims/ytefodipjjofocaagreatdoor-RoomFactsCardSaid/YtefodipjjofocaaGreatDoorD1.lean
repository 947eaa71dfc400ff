/- Functions that the law RoomFacts calls, walked: what each answers; conditions: the memory holds what the arguments say. -/
import Derived.Test.YtefodipjjofocaaGreatDoorB4
set_option linter.unusedSimpArgs false
set_option linter.unusedVariables false
namespace Go.Proofs.YtefodipjjofocaaGreatDoor.TT
open Go Go.AM
set_option linter.unusedSimpArgs false
attribute [simp] I J S U Z A V tt ff zaa zab zap zat zaM za3 zbg zbO zbU zcC zdg znV zrH
noncomputable def auJ (f:FuncId):Option SFn:=(fns f).map fun sf=>{sf with pure:=Nat.beq f 8}
noncomputable def KW:Known:=⟨auJ,base,sumOf [⟨8,[],[],.bool true,[]⟩]⟩
theorem enter {n fu:Nat}{f:FuncId}{sf:SFn}{vs:List l8}{m:Mem}(h:fns f=some sf)(hf:Nat.beq f 8=false):
  F9 KW fu (n + 1) (.func f) vs m=D8 (F9 KW fu n) (Bz KW (F9 KW fu n) fu) fu sf vs m:=by
 rw [dX]
 have h:KW.fns f=some {sf with pure:=false}:=by
  show (fns f).map _=_
  rw [h,hf];rfl
 simp only [h,Q7,Y1]
 rfl
structure Fct where
 room:Int
 no:Int
 known:Int
 kind:Int
 flo:Int
 fhi:Int
 gid:Int
 made:Int
 nom:Int
 tlo:Int
 thi:Int
 gn:Int
 gd:Int
 wear:Int
 ug:Int
 ud:Int
 lg:Int
 ll:Int
 lh:Int
 lw:Int
 cid:Int
 cday:Int
 A:l8
 B:l8
 diff:Int
 err:Int
 hlo:Int
 hhi:Int
 mday:Int
 L:l8
 tr:Int
 tn:Int
def Fct.cells (f:Fct):List l8:=[l8.int .i64 f.room,l8.int .i64 f.no,l8.int .i64 f.known,l8.int .i64 f.kind,l8.int .i64 f.flo,l8.int .i64 f.fhi,l8.int .i64 f.gid,l8.int .i64 f.made,l8.int .i64 f.nom,l8.int .i64 f.tlo,l8.int .i64 f.thi,l8.int .i64 f.gn,l8.int .i64 f.gd,l8.int .i64 f.wear,l8.int .i64 f.ug,l8.int .i64 f.ud,l8.int .i64 f.lg,l8.int .i64 f.ll,l8.int .i64 f.lh,l8.int .i64 f.lw,l8.int .i64 f.cid,l8.int .i64 f.cday,f.A,f.B,l8.int .i64 f.diff,l8.int .i64 f.err,l8.int .i64 f.hlo,l8.int .i64 f.hhi,l8.int .i64 f.mday,f.L,l8.int .i64 f.tr,l8.int .i64 f.tn]
@[simp] theorem Fct.len (f:Fct):f.cells.length=32:=id rfl
@[simp] theorem Fct.c0 (f:Fct):f.cells[0]?=some (l8.int .i64 f.room):=id rfl
@[simp] theorem Fct.c1 (f:Fct):f.cells[1]?=some (l8.int .i64 f.no):=id rfl
@[simp] theorem Fct.c2 (f:Fct):f.cells[2]?=some (l8.int .i64 f.known):=id rfl
@[simp] theorem Fct.c3 (f:Fct):f.cells[3]?=some (l8.int .i64 f.kind):=id rfl
@[simp] theorem Fct.c4 (f:Fct):f.cells[4]?=some (l8.int .i64 f.flo):=id rfl
@[simp] theorem Fct.c5 (f:Fct):f.cells[5]?=some (l8.int .i64 f.fhi):=id rfl
@[simp] theorem Fct.c6 (f:Fct):f.cells[6]?=some (l8.int .i64 f.gid):=id rfl
@[simp] theorem Fct.c7 (f:Fct):f.cells[7]?=some (l8.int .i64 f.made):=id rfl
@[simp] theorem Fct.c8 (f:Fct):f.cells[8]?=some (l8.int .i64 f.nom):=id rfl
@[simp] theorem Fct.c9 (f:Fct):f.cells[9]?=some (l8.int .i64 f.tlo):=id rfl
@[simp] theorem Fct.c10 (f:Fct):f.cells[10]?=some (l8.int .i64 f.thi):=id rfl
@[simp] theorem Fct.c11 (f:Fct):f.cells[11]?=some (l8.int .i64 f.gn):=id rfl
@[simp] theorem Fct.c12 (f:Fct):f.cells[12]?=some (l8.int .i64 f.gd):=id rfl
@[simp] theorem Fct.c13 (f:Fct):f.cells[13]?=some (l8.int .i64 f.wear):=id rfl
@[simp] theorem Fct.c14 (f:Fct):f.cells[14]?=some (l8.int .i64 f.ug):=id rfl
@[simp] theorem Fct.c15 (f:Fct):f.cells[15]?=some (l8.int .i64 f.ud):=id rfl
@[simp] theorem Fct.c16 (f:Fct):f.cells[16]?=some (l8.int .i64 f.lg):=id rfl
@[simp] theorem Fct.c17 (f:Fct):f.cells[17]?=some (l8.int .i64 f.ll):=id rfl
@[simp] theorem Fct.c18 (f:Fct):f.cells[18]?=some (l8.int .i64 f.lh):=id rfl
@[simp] theorem Fct.c19 (f:Fct):f.cells[19]?=some (l8.int .i64 f.lw):=id rfl
@[simp] theorem Fct.c20 (f:Fct):f.cells[20]?=some (l8.int .i64 f.cid):=id rfl
@[simp] theorem Fct.c21 (f:Fct):f.cells[21]?=some (l8.int .i64 f.cday):=id rfl
@[simp] theorem Fct.c22 (f:Fct):f.cells[22]?=some (f.A):=id rfl
@[simp] theorem Fct.c23 (f:Fct):f.cells[23]?=some (f.B):=id rfl
@[simp] theorem Fct.c24 (f:Fct):f.cells[24]?=some (l8.int .i64 f.diff):=id rfl
@[simp] theorem Fct.c25 (f:Fct):f.cells[25]?=some (l8.int .i64 f.err):=id rfl
@[simp] theorem Fct.c26 (f:Fct):f.cells[26]?=some (l8.int .i64 f.hlo):=id rfl
@[simp] theorem Fct.c27 (f:Fct):f.cells[27]?=some (l8.int .i64 f.hhi):=id rfl
@[simp] theorem Fct.c28 (f:Fct):f.cells[28]?=some (l8.int .i64 f.mday):=id rfl
@[simp] theorem Fct.c29 (f:Fct):f.cells[29]?=some (f.L):=id rfl
@[simp] theorem Fct.c30 (f:Fct):f.cells[30]?=some (l8.int .i64 f.tr):=id rfl
@[simp] theorem Fct.c31 (f:Fct):f.cells[31]?=some (l8.int .i64 f.tn):=id rfl
@[simp] theorem Fct.g0 (f:Fct)(h:0 < f.cells.length):f.cells[0]'h=l8.int .i64 f.room:=id rfl
@[simp] theorem Fct.g1 (f:Fct)(h:1 < f.cells.length):f.cells[1]'h=l8.int .i64 f.no:=id rfl
@[simp] theorem Fct.g2 (f:Fct)(h:2 < f.cells.length):f.cells[2]'h=l8.int .i64 f.known:=id rfl
@[simp] theorem Fct.g3 (f:Fct)(h:3 < f.cells.length):f.cells[3]'h=l8.int .i64 f.kind:=id rfl
@[simp] theorem Fct.g4 (f:Fct)(h:4 < f.cells.length):f.cells[4]'h=l8.int .i64 f.flo:=id rfl
@[simp] theorem Fct.g5 (f:Fct)(h:5 < f.cells.length):f.cells[5]'h=l8.int .i64 f.fhi:=id rfl
@[simp] theorem Fct.g6 (f:Fct)(h:6 < f.cells.length):f.cells[6]'h=l8.int .i64 f.gid:=id rfl
@[simp] theorem Fct.g7 (f:Fct)(h:7 < f.cells.length):f.cells[7]'h=l8.int .i64 f.made:=id rfl
@[simp] theorem Fct.g8 (f:Fct)(h:8 < f.cells.length):f.cells[8]'h=l8.int .i64 f.nom:=id rfl
@[simp] theorem Fct.g9 (f:Fct)(h:9 < f.cells.length):f.cells[9]'h=l8.int .i64 f.tlo:=id rfl
@[simp] theorem Fct.g10 (f:Fct)(h:10 < f.cells.length):f.cells[10]'h=l8.int .i64 f.thi:=id rfl
@[simp] theorem Fct.g11 (f:Fct)(h:11 < f.cells.length):f.cells[11]'h=l8.int .i64 f.gn:=id rfl
@[simp] theorem Fct.g12 (f:Fct)(h:12 < f.cells.length):f.cells[12]'h=l8.int .i64 f.gd:=id rfl
@[simp] theorem Fct.g13 (f:Fct)(h:13 < f.cells.length):f.cells[13]'h=l8.int .i64 f.wear:=id rfl
@[simp] theorem Fct.g14 (f:Fct)(h:14 < f.cells.length):f.cells[14]'h=l8.int .i64 f.ug:=id rfl
@[simp] theorem Fct.g15 (f:Fct)(h:15 < f.cells.length):f.cells[15]'h=l8.int .i64 f.ud:=id rfl
@[simp] theorem Fct.g16 (f:Fct)(h:16 < f.cells.length):f.cells[16]'h=l8.int .i64 f.lg:=id rfl
@[simp] theorem Fct.g17 (f:Fct)(h:17 < f.cells.length):f.cells[17]'h=l8.int .i64 f.ll:=id rfl
@[simp] theorem Fct.g18 (f:Fct)(h:18 < f.cells.length):f.cells[18]'h=l8.int .i64 f.lh:=id rfl
@[simp] theorem Fct.g19 (f:Fct)(h:19 < f.cells.length):f.cells[19]'h=l8.int .i64 f.lw:=id rfl
@[simp] theorem Fct.g20 (f:Fct)(h:20 < f.cells.length):f.cells[20]'h=l8.int .i64 f.cid:=id rfl
@[simp] theorem Fct.g21 (f:Fct)(h:21 < f.cells.length):f.cells[21]'h=l8.int .i64 f.cday:=id rfl
@[simp] theorem Fct.g22 (f:Fct)(h:22 < f.cells.length):f.cells[22]'h=f.A:=id rfl
@[simp] theorem Fct.g23 (f:Fct)(h:23 < f.cells.length):f.cells[23]'h=f.B:=id rfl
@[simp] theorem Fct.g24 (f:Fct)(h:24 < f.cells.length):f.cells[24]'h=l8.int .i64 f.diff:=id rfl
@[simp] theorem Fct.g25 (f:Fct)(h:25 < f.cells.length):f.cells[25]'h=l8.int .i64 f.err:=id rfl
@[simp] theorem Fct.g26 (f:Fct)(h:26 < f.cells.length):f.cells[26]'h=l8.int .i64 f.hlo:=id rfl
@[simp] theorem Fct.g27 (f:Fct)(h:27 < f.cells.length):f.cells[27]'h=l8.int .i64 f.hhi:=id rfl
@[simp] theorem Fct.g28 (f:Fct)(h:28 < f.cells.length):f.cells[28]'h=l8.int .i64 f.mday:=id rfl
@[simp] theorem Fct.g29 (f:Fct)(h:29 < f.cells.length):f.cells[29]'h=f.L:=id rfl
@[simp] theorem Fct.g30 (f:Fct)(h:30 < f.cells.length):f.cells[30]'h=l8.int .i64 f.tr:=id rfl
@[simp] theorem Fct.g31 (f:Fct)(h:31 < f.cells.length):f.cells[31]'h=l8.int .i64 f.tn:=id rfl
@[simp] theorem Fct.aK5 (f:Fct):(f.cells.drop 4).take 2=[l8.int .i64 f.flo,l8.int .i64 f.fhi]:=id rfl
@[simp] theorem Fct.aK6 (f:Fct):(f.cells.drop 6).take 8=[l8.int .i64 f.gid,l8.int .i64 f.made,l8.int .i64 f.nom,l8.int .i64 f.tlo,l8.int .i64 f.thi,l8.int .i64 f.gn,l8.int .i64 f.gd,l8.int .i64 f.wear]:=id rfl
@[simp] theorem Fct.auK (f:Fct):(f.cells.drop 14).take 2=[l8.int .i64 f.ug,l8.int .i64 f.ud]:=id rfl
@[simp] theorem Fct.auL (f:Fct):(f.cells.drop 16).take 4=[l8.int .i64 f.lg,l8.int .i64 f.ll,l8.int .i64 f.lh,l8.int .i64 f.lw]:=id rfl
@[simp] theorem Fct.auM (f:Fct):(f.cells.drop 20).take 8=[l8.int .i64 f.cid,l8.int .i64 f.cday,f.A,f.B,l8.int .i64 f.diff,l8.int .i64 f.err,l8.int .i64 f.hlo,l8.int .i64 f.hhi]:=id rfl
@[simp] theorem Fct.auN (f:Fct):(f.cells.drop 28).take 2=[l8.int .i64 f.mday,f.L]:=id rfl
@[simp] theorem Fct.auO (f:Fct):(f.cells.drop 30).take 2=[l8.int .i64 f.tr,l8.int .i64 f.tn]:=id rfl
@[simp] theorem Fct.auP (f:Fct):(f.cells.drop 17).take 2=[l8.int .i64 f.ll,l8.int .i64 f.lh]:=id rfl
@[simp] theorem Fct.auQ (f:Fct):(f.cells.drop 26).take 2=[l8.int .i64 f.hlo,l8.int .i64 f.hhi]:=id rfl
@[simp] theorem Fct.aK7 (f:Fct):(f.cells.drop 9).take 2=[l8.int .i64 f.tlo,l8.int .i64 f.thi]:=id rfl
@[simp] theorem Fct.auR (f:Fct):(f.cells.drop 11).take 2=[l8.int .i64 f.gn,l8.int .i64 f.gd]:=id rfl
@[simp] theorem Fct.auS (f:Fct):f.cells.take 32=f.cells:=id rfl
theorem L6 (n fu:Nat)(a lo hi:Int)(m:Mem):F9 KW fu (n + 1) (.func 66) [.int .i64 a,.int .i64 lo,.int .i64 hi] m=some [⟨.bool (decide (lo≤a) && decide (a≤hi)),m⟩]:=by
 rw [enter (sf:=f66) rfl rfl]
 simp +contextual [D8,f66,trD,I4,z8]
theorem Q8 (n fu:Nat)(a lo hi:Int)(m:Mem):F9 KW fu (n + 1) (.func 36) [.int .i64 a,.int .i64 lo,.int .i64 hi] m=some [⟨.bool (decide (lo≤a) && decide (a≤hi)),m⟩]:=by
 rw [enter (sf:=f36) rfl rfl]
 simp +contextual [D8,f36,trD,I4,z8]
theorem aQ (n fu:Nat)(a lo hi:Int)(m:Mem):F9 KW fu (n + 1) (.func 107) [.int .i64 a,.int .i64 lo,.int .i64 hi] m=some [⟨.bool (decide (lo≤a) && decide (a≤hi)),m⟩]:=by
 rw [enter (sf:=f107) rfl rfl]
 simp +contextual [D8,f107,trD,I4,z8]
theorem O8 (n fu:Nat)(a lo hi:Int)(m:Mem):F9 KW fu (n + 1) (.func 324) [.int .i64 a,.int .i64 lo,.int .i64 hi] m=some [⟨.bool (decide (lo≤a) && decide (a≤hi)),m⟩]:=by
 rw [enter (sf:=f324) rfl rfl]
 simp +contextual [D8,f324,trD,I4,z8]
theorem fE (n fu:Nat)(a:Int)(m:Mem):F9 KW fu (n + 2) (.func 141) [.int .i64 a] m=some [⟨.bool (decide (1≤a) && decide (a≤1099511627776)),m⟩]:=by
 rw [enter (sf:=f141) rfl rfl]
 simp [D8,f141,trD,I4,L6]
theorem Q0 (n fu:Nat)(a:Int)(m:Mem):F9 KW fu (n + 2) (.func 69) [.int .i64 a] m=some [⟨.bool (decide (0≤a) && decide (a≤1099511627776)),m⟩]:=by
 rw [enter (sf:=f69) rfl rfl]
 simp [D8,f69,trD,I4,L6]
theorem vZ (n fu:Nat)(a:Int)(m:Mem):F9 KW fu (n + 2) (.func 37) [.int .i64 a] m=some [⟨.bool (decide (0≤a) && decide (a≤1099511627776)),m⟩]:=by
 rw [enter (sf:=f37) rfl rfl]
 simp [D8,f37,trD,I4,Q8]
theorem aV (n fu:Nat)(a:Int)(m:Mem):F9 KW fu (n + 2) (.func 71) [.int .i64 a] m=some [⟨.bool (decide (0≤a) && decide (a≤20000)),m⟩]:=by
 rw [enter (sf:=f71) rfl rfl]
 simp [D8,f71,trD,I4,aQ]
theorem U4 (n fu:Nat)(a:Int)(m:Mem):F9 KW fu (n + 2) (.func 260) [.int .i64 a] m=some [⟨.bool (decide (0≤a) && decide (a≤20000)),m⟩]:=by
 rw [enter (sf:=f260) rfl rfl]
 simp [D8,f260,trD,I4,O8]
theorem xW (n fu:Nat)(l h a b:Int)(m:Mem)(hm:m.Ok):F9 KW fu (n + 1) (.func 136) [.agg [.int .i64 l,.int .i64 h],.int .i64 a,.int .i64 b] m =
  some [⟨.bool (decide (a≤l) && decide (l≤h) && decide (h≤b)),ext m [C9 [.int .i64 l,.int .i64 h]]⟩]:=by
 rw [enter (sf:=f136) rfl rfl]
 simp +contextual [D8,f136,trD,I4,z8,A8,C8,j4 hm,j6 hm]
theorem CY (n fu:Nat)(l h a b:Int)(m:Mem)(hm:m.Ok):F9 KW fu (n + 1) (.func 70) [.agg [.int .i64 l,.int .i64 h],.int .i64 a,.int .i64 b] m =
  some [⟨.bool (decide (a≤l) && decide (l≤h) && decide (h≤b)),ext m [C9 [.int .i64 l,.int .i64 h]]⟩]:=by
 rw [enter (sf:=f70) rfl rfl]
 simp +contextual [D8,f70,trD,I4,z8,A8,C8,j4 hm,j6 hm]
theorem Iu (n fu:Nat)(l h a b:Int)(m:Mem)(hm:m.Ok):F9 KW fu (n + 1) (.func 98) [.agg [.int .i64 l,.int .i64 h],.int .i64 a,.int .i64 b] m =
  some [⟨.bool (decide (a≤l) && decide (l≤h) && decide (h≤b)),ext m [C9 [.int .i64 l,.int .i64 h]]⟩]:=by
 rw [enter (sf:=f98) rfl rfl]
 simp +contextual [D8,f98,trD,I4,z8,A8,C8,j4 hm,j6 hm]
theorem CZ (n fu:Nat)(l h a b:Int)(m:Mem)(hm:m.Ok):F9 KW fu (n + 1) (.func 161) [.agg [.int .i64 l,.int .i64 h],.int .i64 a,.int .i64 b] m =
  some [⟨.bool (decide (a≤l) && decide (l≤h) && decide (h≤b)),ext m [C9 [.int .i64 l,.int .i64 h]]⟩]:=by
 rw [enter (sf:=f161) rfl rfl]
 simp +contextual [D8,f161,trD,I4,z8,A8,C8,j4 hm,j6 hm]
theorem rM (n fu:Nat)(f:Fct)(m:Mem)(hm:m.Ok)(hl:m.lim≤m.next):F9 KW fu (n + 1) (.func 35) [.agg f.cells] m =
  some [⟨.agg [.int .i64 f.room,.int .i64 f.no],ext m [C9 f.cells,C9 [.int .i64 f.room,.int .i64 f.no]]⟩]:=by
 rw [enter (sf:=f35) rfl rfl]
 simp [f35,D8,trD,I4,z8,p9,o7,Kr,A8,C8,j4 hm,j6 hm,F5 hm hl,w9 hm hl,l6 hm,l5 hm,D9,o9,u6,u7,J5]
theorem KA (n fu:Nat)(f:Fct)(m:Mem)(hm:m.Ok)(hl:m.lim≤m.next):∃m',F9 KW fu (n + 2) (.func 135) [.agg f.cells] m=some [⟨.bool (decide (0≤f.flo) && decide (f.flo≤f.fhi) && decide (f.fhi≤1000000)),m'⟩]∧Ext m m':=by
 rw [enter (sf:=f135) rfl rfl]
 refine⟨ext m [C9 f.cells,C9 [.int .i64 f.flo,.int .i64 f.fhi]],?_,F3 hm _⟩
 simp +contextual [f135,D8,trD,I4,z8,p9,o7,Kr,A8,C8,j4 hm,j6 hm,F5 hm hl,w9 hm hl,l6 hm,l5 hm,D9,o9,u6,u7,J5,xW _ _ _ _ _ _ _ (J3 hm _)]
theorem KC (n fu:Nat)(f:Fct)(m:Mem)(hm:m.Ok)(hl:m.lim≤m.next):∃m',F9 KW fu (n + 3) (.func 140) [.agg f.cells] m=some [⟨.bool ((decide (1≤f.ug) && decide (f.ug≤1099511627776)) && (decide (0≤f.ud) && decide (f.ud≤20000))),m'⟩]∧Ext m m':=by
 rw [enter (sf:=f140) rfl rfl]
 refine⟨ext m [C9 f.cells],?_,F3 hm _⟩
 simp +contextual [f140,D8,trD,I4,z8,p9,o7,Kr,A8,C8,j4 hm,j6 hm,F5 hm hl,w9 hm hl,l6 hm,l5 hm,D9,o9,u6,u7,J5,fE,L6]
end Go.Proofs.YtefodipjjofocaaGreatDoor.TT
namespace Go.Proofs.YtefodipjjofocaaGreatDoor.TT
open Go Go.AM
set_option linter.unusedSimpArgs false
set_option linter.unusedVariables false
theorem KD {m:Mem}{v w:l8}{xs ys:List Int}(hv:bV m v xs)(hw:bV m w ys)(hxy:ys.length=xs.length)(hb:xs.length < 1000000)(cf:K7)(fu:Nat)(a2:l8):
  ∀(j i:Nat),i + j=xs.length→∀(N:Nat),j < N→∀(a5 a6 a7:l8),
   ∃x k b5 b6 b7,aW (fun env m k=>CW cf fu none env m k) N (.nd (.nd (.nd (.nd .e a7 .e) (.int .i64 ((i:Nat):Int)) .e) w (.nd .e a5 .e)) v (.nd (.nd (.nd .e (.bool false) .e) (.int .i64 ((xs.length:Nat):Int)) .e) a2 (.nd .e a6 .e))) m []=some [⟨x,(.nd (.nd (.nd (.nd .e b7 .e) (.int .i64 ((k:Nat):Int)) .e) w (.nd .e b5 .e)) v (.nd (.nd (.nd .e (.bool false) .e) (.int .i64 ((xs.length:Nat):Int)) .e) a2 (.nd .e b6 .e))),m,[],none⟩]∧
    x=(if xs.drop i=ys.drop i then R7.exit 0 else .ret):=by
 intro j
 induction j with
 | zero=>
  intro i hi N hN a5 a6 a7
  obtain⟨N,rfl⟩:∃M,N=M + 1:=⟨N - 1,by omega⟩
  refine⟨.exit 0,i,.bool false,a6,a7,?_,?_⟩
  ·rw [G7]
   have h:¬ i < xs.length:=by omega
   simp [CW,D8,trD,I4,z8,p9,o7,A8,C8,D9,o9,u6,u7,J5,h]
  ·rw [List.drop_of_length_le (by omega),List.drop_of_length_le (by omega)];rfl
 | succ j ih=>
  intro i hi N hN a5 a6 a7
  obtain⟨N,rfl⟩:∃M,N=M + 1:=⟨N - 1,by omega⟩
  have h:i < xs.length:=by omega
  have h':i < ys.length:=by omega
  obtain⟨p,e1,_,e2⟩:=hv.at h
  obtain⟨q,e3,_,e4⟩:=hw.at h'
  by_cases he:xs[i]=ys[i]
  ·obtain⟨x,k,b5,b6,b7,g1,g2⟩:=ih (i + 1) (by omega) N (by omega) (.bool true) (.int .i64 i) (.bool false)
   refine⟨x,k,b5,b6,b7,?_,?_⟩
   ·rw [G7,← g1]
    simp [CW,trD,I4,h,e1,e2,e3,e4,he,Q6 (i:=i) (by omega)]
   ·rw [g2]
    have hd:(xs.drop i=ys.drop i)↔(xs.drop (i + 1)=ys.drop (i + 1)):=by
     rw [List.drop_eq_getElem_cons h,List.drop_eq_getElem_cons h',he]
     exact⟨fun hh=>(List.cons.inj hh).2,fun hh=>by rw [hh]⟩
    simp only [hd]
  ·refine⟨.ret,i,.bool true,.int .i64 i,.bool true,?_,?_⟩
   ·rw [G7]
    simp [CW,trD,I4,h,e1,e2,e3,e4,he]
   ·rw [if_neg]
    intro hh
    rw [List.drop_eq_getElem_cons h,List.drop_eq_getElem_cons h'] at hh
    exact he (List.cons.inj hh).1
theorem Da {m:Mem}{v w:l8}{xs ys:List Int}(hv:bV m v xs)(hw:bV m w ys)(hb:xs.length < 1000)(n fu:Nat)(hfu:1000≤fu):
  F9 KW fu (n + 1) (.func 41) [v,w] m=some [⟨.bool (decide (xs=ys)),m⟩]:=by
 rw [enter (sf:=f41) rfl rfl]
 have l1:=hv.len
 have l2:=hw.len
 by_cases hxy:ys.length=xs.length
 ·obtain⟨x,k,b5,b6,b7,g1,g2⟩:=KD hv hw hxy (by omega) (F9 KW fu n) fu (.bool false) xs.length 0 (by omega) fu (by omega) .undef .undef .undef
  have g2:x=if xs=ys then R7.exit 0 else .ret:=g2
  by_cases he:xs=ys
  ·rw [if_pos he] at g2
   subst g2
   simp [D8,f41,trD,I4,l1,l2,hxy,he] at g1 ⊢
   simp [g1]
  ·rw [if_neg he] at g2
   subst g2
   simp [D8,f41,trD,I4,l1,l2,hxy,he] at g1 ⊢
   simp [g1]
 ·have h1:¬ xs.length=ys.length:=fun h=>hxy h.symm
  have h2:¬ xs=ys:=fun h=>h1 (by rw [h])
  have h3:¬ ((xs.length:Nat):Int)=((ys.length:Nat):Int):=by omega
  simp [D8,f41,trD,I4,l1,l2,h3,h2]
end Go.Proofs.YtefodipjjofocaaGreatDoor.TT
namespace Go.Proofs.YtefodipjjofocaaGreatDoor.TT
open Go Go.AM
set_option linter.unusedSimpArgs false
set_option linter.unusedVariables false
theorem Ga {m:Mem}{v:l8}{xs:List Int}(hv:bV m v xs)(hb:xs.length < 1000000)(n fu:Nat):
  ∀(j i:Nat),i + j=xs.length→∀(N:Nat),j < N→∀(a0 a1 a2 a3:l8),
   ∃x k b0 b1 b2 b3,aW (fun env m k=>lK (F9 KW fu (n + 1)) fu none env m k) N (.nd (.nd (.nd (.nd .e a3 .e) a0 .e) (.int .i64 ((i:Nat):Int)) (.nd .e a1 .e)) v (.nd (.nd (.nd .e (.bool false) .e) v .e) (.int .i64 ((xs.length:Nat):Int)) (.nd .e a2 .e))) m []=some [⟨x,(.nd (.nd (.nd (.nd .e b3 .e) b0 .e) (.int .i64 ((k:Nat):Int)) (.nd .e b1 .e)) v (.nd (.nd (.nd .e (.bool false) .e) v .e) (.int .i64 ((xs.length:Nat):Int)) (.nd .e b2 .e))),m,[],none⟩]∧x=(bif M9 (okB xs) j i then R7.exit 0 else .ret):=by
 intro j
 induction j with
 | zero=>
  intro i hi N hN a0 a1 a2 a3
  obtain⟨N,rfl⟩:∃M,N=M + 1:=⟨N - 1,by omega⟩
  refine⟨.exit 0,i,.bool false,a1,a2,a3,?_,rfl⟩
  rw [G7]
  have h:¬ i < xs.length:=by omega
  have l1:=hv.len
  simp [lK,D8,trD,I4,z8,p9,o7,h,l1]
 | succ j ih=>
  intro i hi N hN a0 a1 a2 a3
  obtain⟨N,rfl⟩:∃M,N=M + 1:=⟨N - 1,by omega⟩
  have h:i < xs.length:=by omega
  have l1:=hv.len
  obtain⟨p,e1,_,e2⟩:=hv.at h
  have hg:=dh h
  have good:okB xs i=true→∃x k b0 b1 b2 b3,aW (fun env m k=>lK (F9 KW fu (n + 1)) fu none env m k) (N + 1) (.nd (.nd (.nd (.nd .e a3 .e) a0 .e) (.int .i64 ((i:Nat):Int)) (.nd .e a1 .e)) v (.nd (.nd (.nd .e (.bool false) .e) v .e) (.int .i64 ((xs.length:Nat):Int)) (.nd .e a2 .e))) m []=some [⟨x,(.nd (.nd (.nd (.nd .e b3 .e) b0 .e) (.int .i64 ((k:Nat):Int)) (.nd .e b1 .e)) v (.nd (.nd (.nd .e (.bool false) .e) v .e) (.int .i64 ((xs.length:Nat):Int)) (.nd .e b2 .e))),m,[],none⟩]∧x=(bif M9 (okB xs) (j + 1) i then R7.exit 0 else .ret):=by
   intro hok
   obtain⟨x,k,b0,b1,b2,b3,g1,g2⟩:=ih (i + 1) (by omega) N (by omega) (.bool true) ((.int .i64 xs[i])) ((.int .i64 (i:Nat))) (.bool false)
   refine⟨x,k,b0,b1,b2,b3,?_,by rw [g2];simp [M9,hok]⟩
   rw [G7,← g1]
   simp only [okB,hg,Bool.and_eq_true,Bool.or_eq_true,decide_eq_true_eq] at hok
   obtain⟨⟨h1,h2⟩,h3⟩:=hok
   by_cases h0:i=0
   ·have h4:¬ 0 < i:=by omega
    simp [lK,D8,trD,I4,z8,p9,o7,h,l1,e1,e2,h1,h2,h4,O8,Q6 (i:=i) (by omega)]
   ·have hp:i - 1 < xs.length:=by omega
    obtain⟨q,e3,_,e4⟩:=hv.at hp
    have h3:=h3.resolve_left h0
    rw [dh hp] at h3
    have h4:0 < i:=by omega
    have h5:¬ xs[i]≤xs[i - 1]:=by omega
    simp [lK,D8,trD,I4,z8,p9,o7,h,l1,e1,e2,e3,e4,h1,h2,h4,h5,O8,Q6 (i:=i) (by omega),eY (i:=i) h4 (by omega)]
  cases hok:okB xs i with
  | true=>exact good hok
  | false=>
   refine⟨.ret,i,.bool true,.int .i64 xs[i],.int .i64 (i:Nat),.bool true,?_,by simp [M9,hok]⟩
   rw [G7]
   simp only [okB,hg] at hok
   by_cases h0:i=0
   ·have hr:(decide (1≤xs[i]) && decide (xs[i]≤1099511627776))=false:=by simpa [h0] using hok
    simp [lK,D8,trD,I4,z8,p9,o7,h,l1,e1,e2,hr,O8]
   ·have hp:i - 1 < xs.length:=by omega
    obtain⟨q,e3,_,e4⟩:=hv.at hp
    have h4:0 < i:=by omega
    rw [dh hp,show decide (i=0)=false from decide_eq_false h0,Bool.false_or] at hok
    cases hr:(decide (1≤xs[i]) && decide (xs[i]≤1099511627776)) with
    | false=>simp [lK,D8,trD,I4,z8,p9,o7,h,l1,e1,e2,hr,O8]
    | true=>
     rw [hr,Bool.true_and] at hok
     have h5:xs[i]≤xs[i - 1]:=by simpa using hok
     simp [lK,D8,trD,I4,z8,p9,o7,h,l1,e1,e2,e3,e4,hr,h4,h5,O8,eY (i:=i) h4 (by omega)]
theorem Db {m:Mem}{v:l8}{xs:List Int}(hv:bV m v xs)(hb:xs.length < 1000)(n fu:Nat)(hfu:1000≤fu):
  F9 KW fu (n + 2) (.func 329) [v] m=some [⟨.bool (M9 (okB xs) xs.length 0 && decide (xs.length≤6)),m⟩]:=by
 rw [enter (sf:=f329) rfl rfl]
 have l1:=hv.len
 obtain⟨x,k,b0,b1,b2,b3,g1,g2⟩:=Ga hv (by omega) n fu xs.length 0 (by omega) fu (by omega) .undef .undef .undef .undef
 cases ha:M9 (okB xs) xs.length 0 <;> rw [ha] at g2 <;> simp only [cond_true,cond_false] at g2 <;> subst g2 <;> simp [f329,D8,trD,I4,z8,p9,o7,l1] at g1 ⊢ <;> simp [g1,l1]
 omega
theorem KE {m:Mem}{v:l8}{xs:List Int}(hv:bV m v xs)(hb:xs.length < 1000000)(n fu:Nat):
  ∀(j i:Nat),i + j=xs.length→∀(N:Nat),j < N→∀(a0 a1:l8),
   ∃x k b0 b1,aW (fun env m k=>tT (F9 KW fu (n + 1)) fu none env m k) N (.nd (.nd (.nd .e a1 .e) v .e) (.int .i64 ((i:Nat):Int)) (.nd (.nd .e (.bool false) .e) a0 .e)) m []=some [⟨x,(.nd (.nd (.nd .e b1 .e) v .e) (.int .i64 ((k:Nat):Int)) (.nd (.nd .e (.bool false) .e) b0 .e)),m,[],none⟩]∧x=(bif M9 (okB xs) j i then R7.exit 0 else .ret):=by
 intro j
 induction j with
 | zero=>
  intro i hi N hN a0 a1
  obtain⟨N,rfl⟩:∃M,N=M + 1:=⟨N - 1,by omega⟩
  refine⟨.exit 0,i,.bool false,a1,?_,rfl⟩
  rw [G7]
  have h:¬ i < xs.length:=by omega
  have l1:=hv.len
  simp [tT,D8,trD,I4,z8,p9,o7,h,l1]
 | succ j ih=>
  intro i hi N hN a0 a1
  obtain⟨N,rfl⟩:∃M,N=M + 1:=⟨N - 1,by omega⟩
  have h:i < xs.length:=by omega
  have l1:=hv.len
  obtain⟨p,e1,_,e2⟩:=hv.at h
  have hg:=dh h
  have good:okB xs i=true→∃x k b0 b1,aW (fun env m k=>tT (F9 KW fu (n + 1)) fu none env m k) (N + 1) (.nd (.nd (.nd .e a1 .e) v .e) (.int .i64 ((i:Nat):Int)) (.nd (.nd .e (.bool false) .e) a0 .e)) m []=some [⟨x,(.nd (.nd (.nd .e b1 .e) v .e) (.int .i64 ((k:Nat):Int)) (.nd (.nd .e (.bool false) .e) b0 .e)),m,[],none⟩]∧x=(bif M9 (okB xs) (j + 1) i then R7.exit 0 else .ret):=by
   intro hok
   obtain⟨x,k,b0,b1,g1,g2⟩:=ih (i + 1) (by omega) N (by omega) (.bool true) (.bool false)
   refine⟨x,k,b0,b1,?_,by rw [g2];simp [M9,hok]⟩
   rw [G7,← g1]
   simp only [okB,hg,Bool.and_eq_true,Bool.or_eq_true,decide_eq_true_eq] at hok
   obtain⟨⟨h1,h2⟩,h3⟩:=hok
   by_cases h0:i=0
   ·have h4:¬ 0 < i:=by omega
    simp [tT,D8,trD,I4,z8,p9,o7,h,l1,e1,e2,h1,h2,h4,aQ,Q6 (i:=i) (by omega)]
   ·have hp:i - 1 < xs.length:=by omega
    obtain⟨q,e3,_,e4⟩:=hv.at hp
    have h3:=h3.resolve_left h0
    rw [dh hp] at h3
    have h4:0 < i:=by omega
    have h5:¬ xs[i]≤xs[i - 1]:=by omega
    simp [tT,D8,trD,I4,z8,p9,o7,h,l1,e1,e2,e3,e4,h1,h2,h4,h5,aQ,Q6 (i:=i) (by omega),eY (i:=i) h4 (by omega)]
  cases hok:okB xs i with
  | true=>exact good hok
  | false=>
   refine⟨.ret,i,.bool true,.bool true,?_,by simp [M9,hok]⟩
   rw [G7]
   simp only [okB,hg] at hok
   by_cases h0:i=0
   ·have hr:(decide (1≤xs[i]) && decide (xs[i]≤1099511627776))=false:=by simpa [h0] using hok
    simp [tT,D8,trD,I4,z8,p9,o7,h,l1,e1,e2,hr,aQ]
   ·have hp:i - 1 < xs.length:=by omega
    obtain⟨q,e3,_,e4⟩:=hv.at hp
    have h4:0 < i:=by omega
    rw [dh hp,show decide (i=0)=false from decide_eq_false h0,Bool.false_or] at hok
    cases hr:(decide (1≤xs[i]) && decide (xs[i]≤1099511627776)) with
    | false=>simp [tT,D8,trD,I4,z8,p9,o7,h,l1,e1,e2,hr,aQ]
    | true=>
     rw [hr,Bool.true_and] at hok
     have h5:xs[i]≤xs[i - 1]:=by simpa using hok
     simp [tT,D8,trD,I4,z8,p9,o7,h,l1,e1,e2,e3,e4,hr,h4,h5,aQ,eY (i:=i) h4 (by omega)]
theorem Iw {m:Mem}{v:l8}{xs:List Int}(hv:bV m v xs)(hb:xs.length < 1000)(n fu:Nat)(hfu:1000≤fu):
  F9 KW fu (n + 2) (.func 72) [v] m=some [⟨.bool (M9 (okB xs) xs.length 0 && decide (xs.length≤6)),m⟩]:=by
 rw [enter (sf:=f72) rfl rfl]
 have l1:=hv.len
 obtain⟨x,k,b0,b1,g1,g2⟩:=KE hv (by omega) n fu xs.length 0 (by omega) fu (by omega) .undef .undef
 cases ha:M9 (okB xs) xs.length 0 <;> rw [ha] at g2 <;> simp only [cond_true,cond_false] at g2 <;> subst g2 <;> simp [f72,D8,trD,I4,z8,p9,o7,l1] at g1 ⊢ <;> simp [g1,l1]
 omega
theorem Gb {m:Mem}(hm:m.Ok){v:l8}{day:Int}{xs:List Int}(hv:bV (ext m [C9 [.int .i64 day,v]]) v xs)(hb:xs.length < 1000000)(n fu:Nat):
  ∀(j i:Nat),i + j=xs.length→∀(N:Nat),j < N→∀(a0 a1 a2 a3:l8),
   ∃x k b0 b1 b2 b3,aW (fun env m k=>lJ (F9 KW fu (n + 2)) fu none env m k) N (.nd (.nd (.nd (.nd .e a2 .e) (.int .i64 ((xs.length:Nat):Int)) .e) (.ptr m.next 0) (.nd (.nd .e (.bool false) .e) v .e)) (.agg [.int .i64 day,v]) (.nd (.nd (.nd .e a3 .e) a0 .e) (.int .i64 ((i:Nat):Int)) (.nd .e a1 .e))) (ext m [C9 [.int .i64 day,v]]) []=some [⟨x,(.nd (.nd (.nd (.nd .e b2 .e) (.int .i64 ((xs.length:Nat):Int)) .e) (.ptr m.next 0) (.nd (.nd .e (.bool false) .e) v .e)) (.agg [.int .i64 day,v]) (.nd (.nd (.nd .e b3 .e) b0 .e) (.int .i64 ((k:Nat):Int)) (.nd .e b1 .e))),(ext m [C9 [.int .i64 day,v]]),[],none⟩]∧x=(bif M9 (okB xs) j i then R7.exit 0 else .ret):=by
 intro j
 induction j with
 | zero=>
  intro i hi N hN a0 a1 a2 a3
  obtain⟨N,rfl⟩:∃M,N=M + 1:=⟨N - 1,by omega⟩
  refine⟨.exit 0,i,.bool false,a1,a2,a3,?_,rfl⟩
  rw [G7]
  have h:¬ i < xs.length:=by omega
  have l1:=hv.len
  simp [lJ,D8,trD,I4,z8,p9,o7,h,l1,j4 hm]
 | succ j ih=>
  intro i hi N hN a0 a1 a2 a3
  obtain⟨N,rfl⟩:∃M,N=M + 1:=⟨N - 1,by omega⟩
  have h:i < xs.length:=by omega
  have l1:=hv.len
  obtain⟨p,e1,_,e2⟩:=hv.at h
  have hg:=dh h
  have good:okB xs i=true→∃x k b0 b1 b2 b3,aW (fun env m k=>lJ (F9 KW fu (n + 2)) fu none env m k) (N + 1) (.nd (.nd (.nd (.nd .e a2 .e) (.int .i64 ((xs.length:Nat):Int)) .e) (.ptr m.next 0) (.nd (.nd .e (.bool false) .e) v .e)) (.agg [.int .i64 day,v]) (.nd (.nd (.nd .e a3 .e) a0 .e) (.int .i64 ((i:Nat):Int)) (.nd .e a1 .e))) (ext m [C9 [.int .i64 day,v]]) []=some [⟨x,(.nd (.nd (.nd (.nd .e b2 .e) (.int .i64 ((xs.length:Nat):Int)) .e) (.ptr m.next 0) (.nd (.nd .e (.bool false) .e) v .e)) (.agg [.int .i64 day,v]) (.nd (.nd (.nd .e b3 .e) b0 .e) (.int .i64 ((k:Nat):Int)) (.nd .e b1 .e))),(ext m [C9 [.int .i64 day,v]]),[],none⟩]∧x=(bif M9 (okB xs) (j + 1) i then R7.exit 0 else .ret):=by
   intro hok
   obtain⟨x,k,b0,b1,b2,b3,g1,g2⟩:=ih (i + 1) (by omega) N (by omega) (.bool true) ((.int .i64 xs[i])) ((.int .i64 (i:Nat))) (.bool false)
   refine⟨x,k,b0,b1,b2,b3,?_,by rw [g2];simp [M9,hok]⟩
   rw [G7,← g1]
   simp only [okB,hg,Bool.and_eq_true,Bool.or_eq_true,decide_eq_true_eq] at hok
   obtain⟨⟨h1,h2⟩,h3⟩:=hok
   by_cases h0:i=0
   ·have h4:¬ 0 < i:=by omega
    simp [lJ,D8,trD,I4,z8,p9,o7,h,l1,e1,e2,h1,h2,h4,fE,Q6 (i:=i) (by omega),j4 hm]
   ·have hp:i - 1 < xs.length:=by omega
    obtain⟨q,e3,_,e4⟩:=hv.at hp
    have h3:=h3.resolve_left h0
    rw [dh hp] at h3
    have h4:0 < i:=by omega
    have h5:¬ xs[i]≤xs[i - 1]:=by omega
    simp [lJ,D8,trD,I4,z8,p9,o7,h,l1,e1,e2,e3,e4,h1,h2,h4,h5,fE,Q6 (i:=i) (by omega),eY (i:=i) h4 (by omega),j4 hm]
  cases hok:okB xs i with
  | true=>exact good hok
  | false=>
   refine⟨.ret,i,.bool true,.int .i64 xs[i],.int .i64 (i:Nat),.bool true,?_,by simp [M9,hok]⟩
   rw [G7]
   simp only [okB,hg] at hok
   by_cases h0:i=0
   ·have hr:(decide (1≤xs[i]) && decide (xs[i]≤1099511627776))=false:=by simpa [h0] using hok
    simp [lJ,D8,trD,I4,z8,p9,o7,h,l1,e1,e2,hr,fE,j4 hm]
   ·have hp:i - 1 < xs.length:=by omega
    obtain⟨q,e3,_,e4⟩:=hv.at hp
    have h4:0 < i:=by omega
    rw [dh hp,show decide (i=0)=false from decide_eq_false h0,Bool.false_or] at hok
    cases hr:(decide (1≤xs[i]) && decide (xs[i]≤1099511627776)) with
    | false=>simp [lJ,D8,trD,I4,z8,p9,o7,h,l1,e1,e2,hr,fE,j4 hm]
    | true=>
     rw [hr,Bool.true_and] at hok
     have h5:xs[i]≤xs[i - 1]:=by simpa using hok
     simp [lJ,D8,trD,I4,z8,p9,o7,h,l1,e1,e2,e3,e4,hr,h4,h5,fE,eY (i:=i) h4 (by omega),j4 hm]
theorem KF {m:Mem}(hm:m.Ok){v:l8}{day:Int}{xs:List Int}(hv:bV m v xs)(hb:xs.length < 1000)(n fu:Nat)(hfu:1000≤fu):
  F9 KW fu (n + 3) (.func 149) [.agg [.int .i64 day,v]] m=some [⟨.bool (M9 (okB xs) xs.length 0 && ((decide (0≤day) && decide (day≤19999)) && (decide (2≤xs.length) && decide (xs.length≤5)))),ext m [C9 [.int .i64 day,v]]⟩]:=by
 rw [enter (sf:=f149) rfl rfl]
 have hv:=hv.ext (F3 hm [C9 [.int .i64 day,v]])
 have l1:=hv.len
 have hz:v.cells=[v]:=hv.cells
 obtain⟨x,k,b0,b1,b2,b3,g1,g2⟩:=Gb hm hv (by omega) n fu xs.length 0 (by omega) fu (by omega) .undef .undef .undef .undef
 have c2:decide (2≤((xs.length:Nat):Int))=decide (2≤xs.length):=by rw [Bool.eq_iff_iff];simp;omega
 have c3:decide (((xs.length:Nat):Int)≤5)=decide (xs.length≤5):=by rw [Bool.eq_iff_iff];simp;omega
 cases ha:M9 (okB xs) xs.length 0 <;> rw [ha] at g2 <;> simp only [cond_true,cond_false] at g2 <;> subst g2 <;> simp [f149,D8,trD,I4,z8,p9,o7,l1,A8,j4 hm,hz] at g1 ⊢
 ·simp [g1]
 ·simp +contextual [g1,l1,j4 hm,D8,trD,I4,z8,p9,o7,L6,c2,c3]
end Go.Proofs.YtefodipjjofocaaGreatDoor.TT
namespace Go.Proofs.YtefodipjjofocaaGreatDoor.TT
open Go Go.AM
set_option linter.unusedSimpArgs false
set_option linter.unusedVariables false
@[simp] theorem KG:fq .nilSlice .nilSlice=some true:=id rfl
@[simp] theorem Gc (a b c d:Nat):fq (.slice a b c d) .nilSlice=some false:=id rfl
@[simp] theorem EJ (a b c d:Nat):fq (.sliceU a b c d) .nilSlice=some false:=id rfl
theorem Gd (x:Int)(n fu:Nat)(hfu:1000≤fu)(m:Mem):F9 KW fu (n + 1) (.func 184) [.nilSlice,.int .i64 x] m=some [⟨.int .i64 (.negSucc 0),m⟩]:=by
 rw [enter (sf:=f184) rfl rfl]
 obtain⟨N,rfl⟩:∃M,fu=M + 1:=⟨fu - 1,by omega⟩
 simp [f184,D8,trD,I4,z8,p9,o7,G7,Ih]
theorem Gf (x:Int)(n fu:Nat)(hfu:1000≤fu)(m:Mem):F9 KW fu (n + 2) (.func 197) [.nilSlice,.int .i64 x] m=some [⟨.bool false,m⟩]:=by
 rw [enter (sf:=f197) rfl rfl]
 simp [f197,D8,trD,I4,z8,p9,o7,Gd x n fu hfu]
theorem Gg (x:Int)(n fu:Nat)(hfu:1000≤fu){m:Mem}{p:Nat}(hp:m.get p=some (C9 [.nilSlice])):F9 KW fu (n + 3) (.func 300) [.int .i64 x,.ptr p 0] m=some [⟨.bool false,m⟩]:=by
 rw [enter (sf:=f300) rfl rfl]
 simp [f300,D8,trD,I4,z8,p9,o7,hp,Gf x n fu hfu]
theorem Gh {m:Mem}{v:l8}{xs:List Int}{p:Nat}(hv:bV m v xs)(hp:m.get p=some (C9 [.nilSlice]))(hb:xs.length < 1000000)(n fu:Nat)(hfu:1000≤fu):
  ∀(j i:Nat),i + j=xs.length→∀(N:Nat),j < N→∀(a0 a1 a2:l8),
   ∃k b0 b1 b2,aW (fun env m k=>vY (F9 KW fu (n + 3)) fu none env m k) N (.nd (.nd (.nd (.nd .e (.int .i64 0) .e) a0 .e) (.int .i64 ((i:Nat):Int)) (.nd .e a1 .e)) v (.nd (.nd .e (.func (.func 300) [] [.ptr p 0]) .e) (.int .i64 ((xs.length:Nat):Int)) (.nd .e a2 .e))) m []=some [⟨.exit 0,(.nd (.nd (.nd (.nd .e (.int .i64 0) .e) b0 .e) (.int .i64 ((k:Nat):Int)) (.nd .e b1 .e)) v (.nd (.nd .e (.func (.func 300) [] [.ptr p 0]) .e) (.int .i64 ((xs.length:Nat):Int)) (.nd .e b2 .e))),m,[],none⟩]:=by
 intro j
 induction j with
 | zero=>
  intro i hi N hN a0 a1 a2
  obtain⟨N,rfl⟩:∃M,N=M + 1:=⟨N - 1,by omega⟩
  refine⟨i,.bool false,a1,a2,?_⟩
  rw [G7]
  have h:¬ i < xs.length:=by omega
  simp [vY,D8,trD,I4,z8,p9,o7,h]
 | succ j ih=>
  intro i hi N hN a0 a1 a2
  obtain⟨N,rfl⟩:∃M,N=M + 1:=⟨N - 1,by omega⟩
  have h:i < xs.length:=by omega
  obtain⟨q,e1,_,e2⟩:=hv.at h
  obtain⟨k,b0,b1,b2,g1⟩:=ih (i + 1) (by omega) N (by omega) (.bool true) (.int .i64 i) (.bool false)
  refine⟨k,b0,b1,b2,?_⟩
  rw [G7,← g1]
  simp [vY,D8,trD,I4,z8,p9,o7,h,e1,e2,Gg _ n fu hfu hp,Q6 (i:=i) (by omega)]
theorem Gi {m:Mem}{v:l8}{xs:List Int}{p:Nat}(hv:bV m v xs)(hp:m.get p=some (C9 [.nilSlice]))(hb:xs.length < 1000)(n fu:Nat)(hfu:1000≤fu):
  F9 KW fu (n + 4) (.func 130) [v,.func (.func 300) [] [.ptr p 0]] m=some [⟨.int .i64 (.negSucc 0),m⟩]:=by
 rw [enter (sf:=f130) rfl rfl]
 have l1:=hv.len
 obtain⟨k,b0,b1,b2,g1⟩:=Gh hv hp (by omega) n fu hfu xs.length 0 (by omega) fu (by omega) .undef .undef .undef
 simp [f130,D8,trD,I4,z8,p9,o7,l1] at g1 ⊢
 simp [g1]
theorem Gj {m:Mem}{v:l8}{xs:List Int}{p:Nat}(hv:bV m v xs)(hp:m.get p=some (C9 [.nilSlice]))(hb:xs.length < 1000)(n fu:Nat)(hfu:1000≤fu):
  F9 KW fu (n + 5) (.func 299) [v,.func (.func 300) [] [.ptr p 0]] m=some [⟨v,m⟩]:=by
 rw [enter (sf:=f299) rfl rfl]
 simp [f299,D8,trD,I4,z8,p9,o7,Gi hv hp hb n fu hfu]
theorem KH {m:Mem}{v:l8}{xs:List Int}(hm:m.Ok)(hl:m.lim≤m.next)(hv:bV m v xs)(hb:xs.length < 1000)(n fu:Nat):
  ∃v' m',F9 KW fu (n + 1) (.func 153) [v] m=some [⟨v',m'⟩]∧Ext m m'∧bV m' v' xs:=by
 rw [enter (sf:=f153) rfl rfl]
 rcases hv with⟨rfl,rfl⟩ | hv
 ·refine⟨.nilSlice,m,?_,Ext.refl hm,.inl ⟨rfl,rfl⟩⟩
  simp [f153,D8,trD,I4,z8,p9,o7]
 ·have hv':bV m v xs:=.inr hv
  have hne:fq v .nilSlice=some false:=by
   obtain⟨id,⟨c,rfl⟩ | ⟨c,rfl⟩,_⟩:=hv <;> rfl
  have hz:gu 1 0 [] (fun b=>some (l8.slice m.next 0 0 0,some b))=some (.slice m.next 0 0 0,some (.cells 1 0 (T.ofList []))):=rfl
  have hL:∀z env,H9 1 0 z [] [] env m.next=some (.slice m.next 0 0 0,some (.cells 1 0 (T.ofList []))):=fun z env=>rfl
  have hv1:bV (m.new (.cells 1 0 (T.ofList []))) v xs:=hv'.ext ((Ext.refl hm).new _)
  cases hx:xs with
  | nil=>
   subst hx
   refine⟨.slice m.next 0 0 0,m.new (.cells 1 0 (T.ofList [])),?_,(Ext.refl hm).new _,.inr ⟨m.next,.inl ⟨0,rfl⟩,by simp,.inl rfl⟩⟩
   have hA':∀(l r:T l8) cf,eF 1 8 oL0 (O9 gH) cf [.slice m.next 0 0 0] (.nd l v r) (m.new (.cells 1 0 (T.ofList [])))=some [⟨.slice m.next 0 0 0,m.new (.cells 1 0 (T.ofList []))⟩]:=by
    intro l r cf
    show ob (Go.AM.lenOf v) (fun n=>ob (R8 _ 1 n v) fun new=>qb _ 1 8 n new (.slice m.next 0 0 0))=_
    rw [hv'.lenOf];simp only [Q7,List.length_nil]
    have:=hv1.read
    rw [List.length_nil] at this
    rw [this];rfl
   simp [f153,D8,trD,I4,z8,p9,o7,hne,hL,hA']
  | cons x xs'=>
   obtain⟨m',g1,g2,g3⟩:=AO (m:=m.new (.cells 1 0 (T.ofList []))) (Mem.Ok.new hm _) xs
   refine⟨_,m',?_,((Ext.refl hm).new _).trans g2,by rw [← hx];exact g3⟩
   have hA':∀(l r:T l8) cf,eF 1 8 oL0 (O9 gH) cf [.slice m.next 0 0 0] (.nd l v r) (m.new (.cells 1 0 (T.ofList [])))=some [⟨.sliceU (m.new (.cells 1 0 (T.ofList []))).next 0 xs.length 1,m'⟩]:=by
    intro l r cf
    show ob (Go.AM.lenOf v) (fun n=>ob (R8 _ 1 n v) fun new=>qb _ 1 8 n new (.slice m.next 0 0 0))=_
    rw [hv'.lenOf];simp only [Q7]
    rw [hv1.read];simp only [Q7]
    show rW _ 1 8 xs.length (ints xs) m.next 0 0 0=_
    unfold rW
    have hp:0 < xs.length:=by rw [hx];simp
    rw [show Nat.ble (Nat.add 0 xs.length) 0=false from by
     cases hb':Nat.ble (Nat.add 0 xs.length) 0 with
     | false=>rfl
     | true=>
      have h1:=Nat.le_of_ble_eq_true hb'
      have e0:Nat.add 0 xs.length=xs.length:=Nat.zero_add _
      rw [e0] at h1
      omega]
    rw [Y1]
    have hbig:big (Nat.add 0 xs.length) 8 1=true:=by
     have e:Nat.add 0 xs.length=xs.length:=Nat.zero_add _
     unfold big
     rw [e,show Nat.ble (Nat.mul (Nat.add (Nat.mul 2 xs.length) 2048) 8) 281474976710656=true from Nat.ble_eq_true_of_le (by show (2 * xs.length + 2048) * 8≤281474976710656;omega)]
     rfl
    rw [hbig,bn]
    show ob (R6 _ m.next 0 (Nat.mul 0 1)) _=_
    have e:Nat.mul 0 1=0:=rfl
    rw [e]
    show grown (m.new (.cells 1 0 (T.ofList []))) 1 (Nat.add 0 xs.length) (gq [] (ints xs))=_
    have e2:Nat.add 0 xs.length=xs.length:=Nat.zero_add _
    rw [e2,U9,List.nil_append,g1]
   simp [f153,D8,trD,I4,z8,p9,o7,hne,hL,hA']
theorem Dc {m:Mem}{v:l8}{xs:List Int}(hm:m.Ok)(hl:m.lim≤m.next)(hv:bV m v xs)(hb:xs.length < 1000)(n fu:Nat)(hfu:1000≤fu):
  ∃v' m',F9 KW fu (n + 6) (.func 205) [v,.nilSlice] m=some [⟨v',m'⟩]∧Ext m m'∧bV m' v' xs:=by
 rw [enter (sf:=f205) rfl rfl]
 have hv1:=hv.ext (F3 hm [C9 [.nilSlice]])
 obtain⟨v',m',g1,g2,g3⟩:=KH (m:=ext m [C9 [.nilSlice]]) (J3 hm _) (by simp;omega) hv1 hb (n + 4) fu
 have hp:m'.get m.next=some (C9 [.nilSlice]):=by
  rw [g2.old _ (by simp)]
  rw [j4 hm];rfl
 refine⟨v',m',?_,(F3 hm _).trans g2,g3⟩
 simp [f205,D8,trD,I4,z8,p9,o7,A8,g1,g3.pan,Gj g3 hp hb n fu hfu]
theorem AR {m:Mem}{v:l8}{xs:List Int}(hm:m.Ok)(hl:m.lim≤m.next)(hv:bV m v xs)(n fu:Nat)(hfu:1000≤fu):
  F9 KW fu (n + 6) (.func 205) [.nilSlice,v] m=some [⟨.nilSlice,ext m [C9 [v]]⟩]:=by
 rw [enter (sf:=f205) rfl rfl]
 obtain⟨N,rfl⟩:∃M,fu=M + 1:=⟨fu - 1,by omega⟩
 have hz:=hv.cells
 have c153:F9 KW (N + 1) (n + 5) (.func 153) [.nilSlice] (ext m [C9 [v]])=some [⟨.nilSlice,ext m [C9 [v]]⟩]:=by
  rw [enter (sf:=f153) rfl rfl]
  simp [f153,D8,trD,I4,z8,p9,o7]
 have c130:F9 KW (N + 1) (n + 4) (.func 130) [.nilSlice,.func (.func 300) [] [.ptr m.next 0]] (ext m [C9 [v]])=some [⟨.int .i64 (.negSucc 0),ext m [C9 [v]]⟩]:=by
  rw [enter (sf:=f130) rfl rfl]
  simp [f130,D8,trD,I4,z8,p9,o7,G7,vY]
 have c299:F9 KW (N + 1) (n + 5) (.func 299) [.nilSlice,.func (.func 300) [] [.ptr m.next 0]] (ext m [C9 [v]])=some [⟨.nilSlice,ext m [C9 [v]]⟩]:=by
  rw [enter (sf:=f299) rfl rfl]
  simp [f299,D8,trD,I4,z8,p9,o7,c130]
 simp [f205,D8,trD,I4,z8,p9,o7,A8,hz,c153,c299]
theorem KI {m:Mem}{v:l8}{xs:List Int}(hm:m.Ok)(hl:m.lim≤m.next)(hv:bV m v xs)(hb:xs.length < 1000)(n fu:Nat)(hfu:1000≤fu):
  ∃v1 v2 m',F9 KW fu (n + 7) (.func 309) [v,.nilSlice] m=some [⟨.tuple [v1,v2,.int .i64 (bif (M9 (okB xs) xs.length 0 && decide (xs.length≤6)) then 0 else 1)],m'⟩]∧Ext m m':=by
 rw [enter (sf:=f309) rfl rfl]
 have c1:=Db hv hb (n + 4) fu hfu
 have c2:F9 KW fu (n + 6) (.func 329) [.nilSlice] m=some [⟨.bool true,m⟩]:=Db (m:=m) (v:=.nilSlice) (xs:=[]) (.inl ⟨rfl,rfl⟩) (by simp) (n + 4) fu hfu
 cases ha:(M9 (okB xs) xs.length 0 && decide (xs.length≤6)) with
 | false=>
  rw [ha] at c1
  refine⟨.nilSlice,.nilSlice,m,?_,Ext.refl hm⟩
  simp [f309,D8,trD,I4,z8,p9,o7,c1]
 | true=>
  rw [ha] at c1
  obtain⟨v',m',g1,g2,g3⟩:=Dc hm hl hv hb n fu hfu
  have hv2:=hv.ext g2
  have c3:=AR (m:=m') g2.ok (by have h1:=g2.lim;have h2:=g2.next;omega) hv2 n fu hfu
  refine⟨v',.nilSlice,ext m' [C9 [v]],?_,g2.trans (F3 g2.ok _)⟩
  simp [f309,D8,trD,I4,z8,p9,o7,c1,c2,g1,g3.pan,c3]
theorem Df {m:Mem}{v:l8}{xs:List Int}(hm:m.Ok)(hl:m.lim≤m.next)(hv:bV m v xs)(hb:xs.length < 1000)(n fu:Nat)(hfu:1000≤fu):
  ∃m',F9 KW fu (n + 8) (.func 227) [v] m=some [⟨.bool (M9 (okB xs) xs.length 0 && decide (xs.length≤6)),m'⟩]∧Ext m m':=by
 rw [enter (sf:=f227) rfl rfl]
 obtain⟨v1,v2,m',g1,g2⟩:=KI hm hl hv hb n fu hfu
 refine⟨m',?_,g2⟩
 cases ha:(M9 (okB xs) xs.length 0 && decide (xs.length≤6)) <;> rw [ha] at g1 <;> simp [f227,D8,trD,I4,z8,p9,o7,g1]
end Go.Proofs.YtefodipjjofocaaGreatDoor.TT
namespace Go.Proofs.YtefodipjjofocaaGreatDoor.TT
open Go Go.AM
set_option linter.unusedSimpArgs false
set_option linter.unusedVariables false
theorem KJ {m:Mem}{v w:l8}{xs ys:List Int}(hv:bV m v xs)(hw:bV m w ys)(hxy:ys.length=xs.length)(hb:xs.length < 1000000)(cf:K7)(fu:Nat)(a2:l8):
  ∀(j i:Nat),i + j=xs.length→∀(N:Nat),j < N→∀(a4 a5:l8),
   ∃x k b4 b5,aW (fun env m k=>CU cf fu none env m k) N (.nd (.nd (.nd .e (.int .i64 ((i:Nat):Int)) .e) w (.nd .e a5 .e)) v (.nd (.nd .e a4 .e) a2 (.nd .e (.bool false) .e))) m []=some [⟨x,(.nd (.nd (.nd .e (.int .i64 ((k:Nat):Int)) .e) w (.nd .e b5 .e)) v (.nd (.nd .e b4 .e) a2 (.nd .e (.bool false) .e))),m,[],none⟩]∧
    x=(if xs.drop i=ys.drop i then R7.exit 0 else .ret):=by
 have l1:=hv.len
 intro j
 induction j with
 | zero=>
  intro i hi N hN a4 a5
  obtain⟨N,rfl⟩:∃M,N=M + 1:=⟨N - 1,by omega⟩
  refine⟨.exit 0,i,.bool false,a5,?_,?_⟩
  ·rw [G7]
   have h:¬ i < xs.length:=by omega
   simp [CU,D8,trD,I4,h,l1]
  ·rw [List.drop_of_length_le (by omega),List.drop_of_length_le (by omega)];rfl
 | succ j ih=>
  intro i hi N hN a4 a5
  obtain⟨N,rfl⟩:∃M,N=M + 1:=⟨N - 1,by omega⟩
  have h:i < xs.length:=by omega
  have h':i < ys.length:=by omega
  obtain⟨p,e1,_,e2⟩:=hv.at h
  obtain⟨q,e3,_,e4⟩:=hw.at h'
  by_cases he:xs[i]=ys[i]
  ·obtain⟨x,k,b4,b5,g1,g2⟩:=ih (i + 1) (by omega) N (by omega) (.bool true) (.bool false)
   refine⟨x,k,b4,b5,?_,?_⟩
   ·rw [G7,← g1]
    simp [CU,trD,I4,h,l1,e1,e2,e3,e4,he,Q6 (i:=i) (by omega)]
   ·rw [g2]
    have hd:(xs.drop i=ys.drop i)↔(xs.drop (i + 1)=ys.drop (i + 1)):=by
     rw [List.drop_eq_getElem_cons h,List.drop_eq_getElem_cons h',he]
     exact⟨fun hh=>(List.cons.inj hh).2,fun hh=>by rw [hh]⟩
    simp only [hd]
  ·refine⟨.ret,i,.bool true,.bool true,?_,?_⟩
   ·rw [G7]
    simp [CU,trD,I4,h,l1,e1,e2,e3,e4,he]
   ·rw [if_neg]
    intro hh
    rw [List.drop_eq_getElem_cons h,List.drop_eq_getElem_cons h'] at hh
    exact he (List.cons.inj hh).1
theorem Dg {m:Mem}{v w:l8}{xs ys:List Int}(hv:bV m v xs)(hw:bV m w ys)(hb:xs.length < 1000)(n fu:Nat)(hfu:1000≤fu):
  F9 KW fu (n + 1) (.func 30) [v,w] m=some [⟨.bool (decide (xs=ys)),m⟩]:=by
 rw [enter (sf:=f30) rfl rfl]
 have l1:=hv.len
 have l2:=hw.len
 by_cases hxy:ys.length=xs.length
 ·obtain⟨x,k,b4,b5,g1,g2⟩:=KJ hv hw hxy (by omega) (F9 KW fu n) fu (.bool false) xs.length 0 (by omega) fu (by omega) .undef .undef
  have g2:x=if xs=ys then R7.exit 0 else .ret:=g2
  by_cases he:xs=ys
  ·rw [if_pos he] at g2
   subst g2
   simp [D8,f30,trD,I4,l1,l2,hxy,he] at g1 ⊢
   simp [g1]
  ·rw [if_neg he] at g2
   subst g2
   simp [D8,f30,trD,I4,l1,l2,hxy,he] at g1 ⊢
   simp [g1]
 ·have h1:¬ xs.length=ys.length:=fun h=>hxy h.symm
  have h2:¬ xs=ys:=fun h=>h1 (by rw [h])
  have h3:¬ ((xs.length:Nat):Int)=((ys.length:Nat):Int):=by omega
  simp [D8,f30,trD,I4,l1,l2,h3,h2]
structure R4 (m:Mem)(f:Fct)(xa xb xl:List Int):Prop where
 a:bV m f.A xa
 b:bV m f.B xb
 l:bV m f.L xl
 la:xa.length < 1000
 lb:xb.length < 1000
 ll:xl.length < 1000
theorem R4.ext {m m':Mem}(h:Ext m m'){f:Fct}{a b l:List Int}(k:R4 m f a b l):R4 m' f a b l:=⟨k.a.ext h,k.b.ext h,k.l.ext h,k.la,k.lb,k.ll⟩
theorem R4.same {m:Mem}{f:Fct}{a b l:List Int}(k:R4 m f a b l):dz 100 (.agg f.cells) (.agg f.cells)=true:=by
 rw [vW]
 simp [Fct.cells,vV,zN,J6,tN k.a,tN k.b,tN k.l]
def nG (f g:Fct)(a b a' b':List Int):Bool:=
 decide (f.cid=g.cid) && (decide (f.cday=g.cday) && (decide (f.diff=g.diff) && (decide (f.err=g.err) && (decide (f.hlo=g.hlo) && (decide (f.hhi=g.hhi) && (decide (a=a') && decide (b=b')))))))
def Fct.cmp (f:Fct):List l8:=[.int .i64 f.cid,.int .i64 f.cday,f.A,f.B,.int .i64 f.diff,.int .i64 f.err,.int .i64 f.hlo,.int .i64 f.hhi]
@[simp] theorem Fct.agW (f:Fct):f.cmp.length=8:=id rfl
@[simp] theorem Fct.agX (f:Fct):(f.cmp.drop 6).take 2=[.int .i64 f.hlo,.int .i64 f.hhi]:=id rfl
@[simp] theorem Fct.M4 (f:Fct):[.int .i64 f.cid,.int .i64 f.cday,f.A,f.B,.int .i64 f.diff,.int .i64 f.err,.int .i64 f.hlo,.int .i64 f.hhi]=f.cmp:=id rfl
@[simp] theorem Fct.k0 (f:Fct)(h:0 < f.cmp.length):f.cmp[0]'h=l8.int .i64 f.cid:=id rfl
@[simp] theorem Fct.kk0 (f:Fct):f.cmp[0]?=some (l8.int .i64 f.cid):=id rfl
@[simp] theorem Fct.k1 (f:Fct)(h:1 < f.cmp.length):f.cmp[1]'h=l8.int .i64 f.cday:=id rfl
@[simp] theorem Fct.kk1 (f:Fct):f.cmp[1]?=some (l8.int .i64 f.cday):=id rfl
@[simp] theorem Fct.k2 (f:Fct)(h:2 < f.cmp.length):f.cmp[2]'h=f.A:=id rfl
@[simp] theorem Fct.kk2 (f:Fct):f.cmp[2]?=some (f.A):=id rfl
@[simp] theorem Fct.k3 (f:Fct)(h:3 < f.cmp.length):f.cmp[3]'h=f.B:=id rfl
@[simp] theorem Fct.kk3 (f:Fct):f.cmp[3]?=some (f.B):=id rfl
@[simp] theorem Fct.k4 (f:Fct)(h:4 < f.cmp.length):f.cmp[4]'h=l8.int .i64 f.diff:=id rfl
@[simp] theorem Fct.kk4 (f:Fct):f.cmp[4]?=some (l8.int .i64 f.diff):=id rfl
@[simp] theorem Fct.k5 (f:Fct)(h:5 < f.cmp.length):f.cmp[5]'h=l8.int .i64 f.err:=id rfl
@[simp] theorem Fct.kk5 (f:Fct):f.cmp[5]?=some (l8.int .i64 f.err):=id rfl
@[simp] theorem Fct.k6 (f:Fct)(h:6 < f.cmp.length):f.cmp[6]'h=l8.int .i64 f.hlo:=id rfl
@[simp] theorem Fct.kk6 (f:Fct):f.cmp[6]?=some (l8.int .i64 f.hlo):=id rfl
@[simp] theorem Fct.k7 (f:Fct)(h:7 < f.cmp.length):f.cmp[7]'h=l8.int .i64 f.hhi:=id rfl
@[simp] theorem Fct.kk7 (f:Fct):f.cmp[7]?=some (l8.int .i64 f.hhi):=id rfl
theorem UF {m:Mem}{f g:Fct}{a b l a' b' l':List Int}(hm:m.Ok)(hf:R4 m f a b l)(hg:R4 m g a' b' l')(n fu:Nat)(hfu:1000≤fu):
  F9 KW fu (n + 2) (.func 40) [.agg f.cmp,.agg g.cmp] m=some [⟨.bool (nG f g a b a' b'),ext m [C9 f.cmp,C9 g.cmp]⟩]:=by
 rw [enter (sf:=f40) rfl rfl]
 have hf:=hf.ext (F3 hm [C9 f.cmp,C9 g.cmp])
 have hg:=hg.ext (F3 hm [C9 f.cmp,C9 g.cmp])
 have c1:=Da hf.a hg.a hf.la n fu hfu
 have c2:=Da hf.b hg.b hf.lb n fu hfu
 by_cases h0:f.cid=g.cid
 ·by_cases h1:f.cday=g.cday
  ·by_cases h2:f.diff=g.diff
   ·by_cases h3:f.err=g.err
    ·by_cases h4:f.hlo=g.hlo
     ·by_cases h5:f.hhi=g.hhi
      ·by_cases h6:a=a'
       ·by_cases h7:b=b'
        ·simp [f40,D8,trD,I4,z8,p9,o7,A8,C8,j4 hm,j6 hm,l6 hm,l5 hm,D9,o9,u6,u7,J5,c1,c2,nG,h0,h1,h2,h3,h4,h5,h6,h7]
        ·simp [f40,D8,trD,I4,z8,p9,o7,A8,C8,j4 hm,j6 hm,l6 hm,l5 hm,D9,o9,u6,u7,J5,c1,c2,nG,h0,h1,h2,h3,h4,h5,h6,h7]
       ·simp [f40,D8,trD,I4,z8,p9,o7,A8,C8,j4 hm,j6 hm,l6 hm,l5 hm,D9,o9,u6,u7,J5,c1,c2,nG,h0,h1,h2,h3,h4,h5,h6]
      ·simp [f40,D8,trD,I4,z8,p9,o7,A8,C8,j4 hm,j6 hm,l6 hm,l5 hm,D9,o9,u6,u7,J5,c1,c2,nG,h0,h1,h2,h3,h4,h5]
     ·simp [f40,D8,trD,I4,z8,p9,o7,A8,C8,j4 hm,j6 hm,l6 hm,l5 hm,D9,o9,u6,u7,J5,c1,c2,nG,h0,h1,h2,h3,h4]
    ·simp [f40,D8,trD,I4,z8,p9,o7,A8,C8,j4 hm,j6 hm,l6 hm,l5 hm,D9,o9,u6,u7,J5,c1,c2,nG,h0,h1,h2,h3]
   ·simp [f40,D8,trD,I4,z8,p9,o7,A8,C8,j4 hm,j6 hm,l6 hm,l5 hm,D9,o9,u6,u7,J5,c1,c2,nG,h0,h1,h2]
  ·simp [f40,D8,trD,I4,z8,p9,o7,A8,C8,j4 hm,j6 hm,l6 hm,l5 hm,D9,o9,u6,u7,J5,c1,c2,nG,h0,h1]
 ·simp [f40,D8,trD,I4,z8,p9,o7,A8,C8,j4 hm,j6 hm,l6 hm,l5 hm,D9,o9,u6,u7,J5,c1,c2,nG,h0]
theorem UG {m:Mem}{f g:Fct}{a b l a' b' l':List Int}(hm:m.Ok)(hf:R4 m f a b l)(hg:R4 m g a' b' l')(n fu:Nat)(hfu:1000≤fu):
  F9 KW fu (n + 2) (.func 42) [.agg f.cmp,.agg g.cmp] m=some [⟨.bool (nG f g a b a' b'),ext m [C9 f.cmp,C9 g.cmp]⟩]:=by
 rw [enter (sf:=f42) rfl rfl]
 have hf:=hf.ext (F3 hm [C9 f.cmp,C9 g.cmp])
 have hg:=hg.ext (F3 hm [C9 f.cmp,C9 g.cmp])
 have c1:=Dg hf.a hg.a hf.la n fu hfu
 have c2:=Dg hf.b hg.b hf.lb n fu hfu
 by_cases h0:a=a'
 ·by_cases h1:b=b'
  ·by_cases h2:f.cid=g.cid
   ·by_cases h3:f.cday=g.cday
    ·by_cases h4:f.diff=g.diff
     ·by_cases h5:f.err=g.err
      ·by_cases h6:f.hlo=g.hlo
       ·by_cases h7:f.hhi=g.hhi
        ·simp [f42,D8,trD,I4,z8,p9,o7,A8,C8,j4 hm,j6 hm,l6 hm,l5 hm,D9,o9,u6,u7,J5,c1,c2,nG,h0,h1,h2,h3,h4,h5,h6,h7]
        ·simp [f42,D8,trD,I4,z8,p9,o7,A8,C8,j4 hm,j6 hm,l6 hm,l5 hm,D9,o9,u6,u7,J5,c1,c2,nG,h0,h1,h2,h3,h4,h5,h6,h7]
       ·simp [f42,D8,trD,I4,z8,p9,o7,A8,C8,j4 hm,j6 hm,l6 hm,l5 hm,D9,o9,u6,u7,J5,c1,c2,nG,h0,h1,h2,h3,h4,h5,h6]
      ·simp [f42,D8,trD,I4,z8,p9,o7,A8,C8,j4 hm,j6 hm,l6 hm,l5 hm,D9,o9,u6,u7,J5,c1,c2,nG,h0,h1,h2,h3,h4,h5]
     ·simp [f42,D8,trD,I4,z8,p9,o7,A8,C8,j4 hm,j6 hm,l6 hm,l5 hm,D9,o9,u6,u7,J5,c1,c2,nG,h0,h1,h2,h3,h4]
    ·simp [f42,D8,trD,I4,z8,p9,o7,A8,C8,j4 hm,j6 hm,l6 hm,l5 hm,D9,o9,u6,u7,J5,c1,c2,nG,h0,h1,h2,h3]
   ·simp [f42,D8,trD,I4,z8,p9,o7,A8,C8,j4 hm,j6 hm,l6 hm,l5 hm,D9,o9,u6,u7,J5,c1,c2,nG,h0,h1,h2]
  ·simp [f42,D8,trD,I4,z8,p9,o7,A8,C8,j4 hm,j6 hm,l6 hm,l5 hm,D9,o9,u6,u7,J5,c1,c2,nG,h0,h1]
 ·simp [f42,D8,trD,I4,z8,p9,o7,A8,C8,j4 hm,j6 hm,l6 hm,l5 hm,D9,o9,u6,u7,J5,c1,c2,nG,h0]
end Go.Proofs.YtefodipjjofocaaGreatDoor.TT
namespace Go.Proofs.YtefodipjjofocaaGreatDoor.TT
open Go Go.AM
set_option linter.unusedSimpArgs false
set_option linter.unusedVariables false
set_option maxRecDepth 100000
set_option maxHeartbeats 2000000
def X4 (f g:Fct):Bool:=(decide (f.room=g.room) && decide (f.no=g.no)) && (decide (f.known=g.known) && (decide (f.kind=g.kind) && ((decide (f.flo=g.flo) && decide (f.fhi=g.fhi)) && ((decide (f.gid=g.gid) && (decide (f.made=g.made) && (decide (f.nom=g.nom) && (decide (f.tlo=g.tlo) && (decide (f.thi=g.thi) && (decide (f.gn=g.gn) && (decide (f.gd=g.gd) && decide (f.wear=g.wear)))))))) && ((decide (f.ug=g.ug) && decide (f.ud=g.ud)) && ((decide (f.lg=g.lg) && (decide (f.ll=g.ll) && (decide (f.lh=g.lh) && decide (f.lw=g.lw)))) && ((decide (f.tr=g.tr) && decide (f.tn=g.tn)))))))))
def V6 (f g:Fct)(a b l a' b' l':List Int):Bool:=X4 f g && (nG f g a b a' b' && (decide (f.mday=g.mday) && decide (l=l')))
noncomputable def Fct.nm (f:Fct):Blk:=C9 [.int .i64 f.room,.int .i64 f.no]
theorem jT {m:Mem}{f g:Fct}{a b l a' b' l':List Int}(hm:m.Ok)(hl:m.lim≤m.next)(hf:R4 m f a b l)(hg:R4 m g a' b' l')(n fu:Nat)(hfu:1000≤fu):
  F9 KW fu (n + 3) (.func 13) [.agg f.cells,.agg g.cells] m=some [⟨.bool (V6 f g a b l a' b' l'),ext m ([C9 f.cells,C9 g.cells,C9 f.cells,f.nm,C9 g.cells,g.nm] ++ (bif X4 f g then [C9 f.cmp,C9 g.cmp] else []))⟩]:=by
 rw [enter (sf:=f13) rfl rfl]
 have s1:=hf.same
 have s2:=hg.same
 have c1:=rM (n + 1) fu f (ext m [C9 f.cells,C9 g.cells]) (J3 hm _) (by simp;omega)
 have c2:=rM (n + 1) fu g (ext m [C9 f.cells,C9 g.cells,C9 f.cells,f.nm]) (J3 hm _) (by simp;omega)
 have hf2:=hf.ext (F3 hm [C9 f.cells,C9 g.cells,C9 f.cells,f.nm,C9 g.cells,g.nm])
 have hg2:=hg.ext (F3 hm [C9 f.cells,C9 g.cells,C9 f.cells,f.nm,C9 g.cells,g.nm])
 have c3:=UF (J3 hm _) hf2 hg2 n fu hfu
 have hf3:=hf.ext (F3 hm [C9 f.cells,C9 g.cells,C9 f.cells,f.nm,C9 g.cells,g.nm,C9 f.cmp,C9 g.cmp])
 have hg3:=hg.ext (F3 hm [C9 f.cells,C9 g.cells,C9 f.cells,f.nm,C9 g.cells,g.nm,C9 f.cmp,C9 g.cmp])
 have c4:=Da hf3.l hg3.l hf.ll (n + 1) fu hfu
 simp only [Fct.nm] at c1 c2 c3 c4 ⊢
 cases h0:(decide (f.room=g.room) && decide (f.no=g.no)) with
 | true=>
  cases h1:decide (f.known=g.known) with
  | true=>
   cases h2:decide (f.kind=g.kind) with
   | true=>
    cases h3:(decide (f.flo=g.flo) && decide (f.fhi=g.fhi)) with
    | true=>
     cases h4:(decide (f.gid=g.gid) && (decide (f.made=g.made) && (decide (f.nom=g.nom) && (decide (f.tlo=g.tlo) && (decide (f.thi=g.thi) && (decide (f.gn=g.gn) && (decide (f.gd=g.gd) && decide (f.wear=g.wear)))))))) with
     | true=>
      cases h5:(decide (f.ug=g.ug) && decide (f.ud=g.ud)) with
      | true=>
       cases h6:(decide (f.lg=g.lg) && (decide (f.ll=g.ll) && (decide (f.lh=g.lh) && decide (f.lw=g.lw)))) with
       | true=>
        cases h7:(decide (f.tr=g.tr) && decide (f.tn=g.tn)) with
        | true=>
         cases h8:nG f g a b a' b' with
         | true=>
          cases h9:decide (f.mday=g.mday) with
          | true=>
           cases h10:decide (l=l') with
           | true=>
            simp [f13,D8,trD,I4,z8,p9,o7,A8,C8,j4 hm,j6 hm,l6 hm,l5 hm,D9,o9,u6,u7,J5,c1,c2,c3,c4,s1,s2,V6,X4,h0,h1,h2,h3,h4,h5,h6,h7,h8,h9,h10]
           | false=>simp [f13,D8,trD,I4,z8,p9,o7,A8,C8,j4 hm,j6 hm,l6 hm,l5 hm,D9,o9,u6,u7,J5,c1,c2,c3,c4,s1,s2,V6,X4,h0,h1,h2,h3,h4,h5,h6,h7,h8,h9,h10]
          | false=>simp [f13,D8,trD,I4,z8,p9,o7,A8,C8,j4 hm,j6 hm,l6 hm,l5 hm,D9,o9,u6,u7,J5,c1,c2,c3,c4,s1,s2,V6,X4,h0,h1,h2,h3,h4,h5,h6,h7,h8,h9]
         | false=>simp [f13,D8,trD,I4,z8,p9,o7,A8,C8,j4 hm,j6 hm,l6 hm,l5 hm,D9,o9,u6,u7,J5,c1,c2,c3,c4,s1,s2,V6,X4,h0,h1,h2,h3,h4,h5,h6,h7,h8]
        | false=>simp [f13,D8,trD,I4,z8,p9,o7,A8,C8,j4 hm,j6 hm,l6 hm,l5 hm,D9,o9,u6,u7,J5,c1,c2,c3,c4,s1,s2,V6,X4,h0,h1,h2,h3,h4,h5,h6,h7]
       | false=>simp [f13,D8,trD,I4,z8,p9,o7,A8,C8,j4 hm,j6 hm,l6 hm,l5 hm,D9,o9,u6,u7,J5,c1,c2,c3,c4,s1,s2,V6,X4,h0,h1,h2,h3,h4,h5,h6]
      | false=>simp [f13,D8,trD,I4,z8,p9,o7,A8,C8,j4 hm,j6 hm,l6 hm,l5 hm,D9,o9,u6,u7,J5,c1,c2,c3,c4,s1,s2,V6,X4,h0,h1,h2,h3,h4,h5]
     | false=>simp [f13,D8,trD,I4,z8,p9,o7,A8,C8,j4 hm,j6 hm,l6 hm,l5 hm,D9,o9,u6,u7,J5,c1,c2,c3,c4,s1,s2,V6,X4,h0,h1,h2,h3,h4]
    | false=>simp [f13,D8,trD,I4,z8,p9,o7,A8,C8,j4 hm,j6 hm,l6 hm,l5 hm,D9,o9,u6,u7,J5,c1,c2,c3,c4,s1,s2,V6,X4,h0,h1,h2,h3]
   | false=>simp [f13,D8,trD,I4,z8,p9,o7,A8,C8,j4 hm,j6 hm,l6 hm,l5 hm,D9,o9,u6,u7,J5,c1,c2,c3,c4,s1,s2,V6,X4,h0,h1,h2]
  | false=>simp [f13,D8,trD,I4,z8,p9,o7,A8,C8,j4 hm,j6 hm,l6 hm,l5 hm,D9,o9,u6,u7,J5,c1,c2,c3,c4,s1,s2,V6,X4,h0,h1]
 | false=>simp [f13,D8,trD,I4,z8,p9,o7,A8,C8,j4 hm,j6 hm,l6 hm,l5 hm,D9,o9,u6,u7,J5,c1,c2,c3,c4,s1,s2,V6,X4,h0]
end Go.Proofs.YtefodipjjofocaaGreatDoor.TT
namespace Go.Proofs.YtefodipjjofocaaGreatDoor.TT
open Go Go.AM
set_option linter.unusedSimpArgs false
set_option linter.unusedVariables false
set_option maxRecDepth 100000
set_option maxHeartbeats 2000000
theorem Dh {m:Mem}{f g:Fct}{a b l a' b' l':List Int}(hm:m.Ok)(hf:R4 m f a b l)(hg:R4 m g a' b' l')(n fu:Nat)(hfu:1000≤fu):
  F9 KW fu (n + 3) (.func 14) [.agg f.cells,.agg g.cells] m=some [⟨.bool (V6 f g a b l a' b' l'),ext m [C9 f.cells,C9 g.cells,C9 f.cmp,C9 g.cmp]⟩]:=by
 rw [enter (sf:=f14) rfl rfl]
 have hf2:=hf.ext (F3 hm [C9 f.cells,C9 g.cells])
 have hg2:=hg.ext (F3 hm [C9 f.cells,C9 g.cells])
 have c3:=UG (J3 hm _) hf2 hg2 n fu hfu
 have hf3:=hf.ext (F3 hm [C9 f.cells,C9 g.cells,C9 f.cmp,C9 g.cmp])
 have hg3:=hg.ext (F3 hm [C9 f.cells,C9 g.cells,C9 f.cmp,C9 g.cmp])
 have c4:=Dg hf3.l hg3.l hf.ll (n + 1) fu hfu
 cases h0:decide (f.room=g.room) with
 | true=>
  cases h1:decide (f.no=g.no) with
  | true=>
   cases h2:decide (f.known=g.known) with
   | true=>
    cases h3:decide (f.kind=g.kind) with
    | true=>
     cases h4:(decide (f.flo=g.flo) && decide (f.fhi=g.fhi)) with
     | true=>
      cases h5:(decide (f.gid=g.gid) && (decide (f.made=g.made) && (decide (f.nom=g.nom) && (decide (f.tlo=g.tlo) && (decide (f.thi=g.thi) && (decide (f.gn=g.gn) && (decide (f.gd=g.gd) && decide (f.wear=g.wear)))))))) with
      | true=>
       cases h6:(decide (f.ug=g.ug) && decide (f.ud=g.ud)) with
       | true=>
        cases h7:(decide (f.lg=g.lg) && (decide (f.ll=g.ll) && (decide (f.lh=g.lh) && decide (f.lw=g.lw)))) with
        | true=>
         cases h8:nG f g a b a' b' with
         | true=>
          cases h9:decide (f.mday=g.mday) with
          | true=>
           cases h10:decide (l=l') with
           | true=>
            cases h11:(decide (f.tr=g.tr) && decide (f.tn=g.tn)) with
            | true=>
             simp [f14,D8,trD,I4,z8,p9,o7,A8,C8,j4 hm,j6 hm,l6 hm,l5 hm,D9,o9,u6,u7,J5,c3,c4,V6,X4,h0,h1,h2,h3,h4,h5,h6,h7,h8,h9,h10,h11]
            | false=>simp [f14,D8,trD,I4,z8,p9,o7,A8,C8,j4 hm,j6 hm,l6 hm,l5 hm,D9,o9,u6,u7,J5,c3,c4,V6,X4,h0,h1,h2,h3,h4,h5,h6,h7,h8,h9,h10,h11]
           | false=>simp [f14,D8,trD,I4,z8,p9,o7,A8,C8,j4 hm,j6 hm,l6 hm,l5 hm,D9,o9,u6,u7,J5,c3,c4,V6,X4,h0,h1,h2,h3,h4,h5,h6,h7,h8,h9,h10]
          | false=>simp [f14,D8,trD,I4,z8,p9,o7,A8,C8,j4 hm,j6 hm,l6 hm,l5 hm,D9,o9,u6,u7,J5,c3,c4,V6,X4,h0,h1,h2,h3,h4,h5,h6,h7,h8,h9]
         | false=>simp [f14,D8,trD,I4,z8,p9,o7,A8,C8,j4 hm,j6 hm,l6 hm,l5 hm,D9,o9,u6,u7,J5,c3,c4,V6,X4,h0,h1,h2,h3,h4,h5,h6,h7,h8]
        | false=>simp [f14,D8,trD,I4,z8,p9,o7,A8,C8,j4 hm,j6 hm,l6 hm,l5 hm,D9,o9,u6,u7,J5,c3,c4,V6,X4,h0,h1,h2,h3,h4,h5,h6,h7]
       | false=>simp [f14,D8,trD,I4,z8,p9,o7,A8,C8,j4 hm,j6 hm,l6 hm,l5 hm,D9,o9,u6,u7,J5,c3,c4,V6,X4,h0,h1,h2,h3,h4,h5,h6]
      | false=>simp [f14,D8,trD,I4,z8,p9,o7,A8,C8,j4 hm,j6 hm,l6 hm,l5 hm,D9,o9,u6,u7,J5,c3,c4,V6,X4,h0,h1,h2,h3,h4,h5]
     | false=>simp [f14,D8,trD,I4,z8,p9,o7,A8,C8,j4 hm,j6 hm,l6 hm,l5 hm,D9,o9,u6,u7,J5,c3,c4,V6,X4,h0,h1,h2,h3,h4]
    | false=>simp [f14,D8,trD,I4,z8,p9,o7,A8,C8,j4 hm,j6 hm,l6 hm,l5 hm,D9,o9,u6,u7,J5,c3,c4,V6,X4,h0,h1,h2,h3]
   | false=>simp [f14,D8,trD,I4,z8,p9,o7,A8,C8,j4 hm,j6 hm,l6 hm,l5 hm,D9,o9,u6,u7,J5,c3,c4,V6,X4,h0,h1,h2]
  | false=>simp [f14,D8,trD,I4,z8,p9,o7,A8,C8,j4 hm,j6 hm,l6 hm,l5 hm,D9,o9,u6,u7,J5,c3,c4,V6,X4,h0,h1]
 | false=>simp [f14,D8,trD,I4,z8,p9,o7,A8,C8,j4 hm,j6 hm,l6 hm,l5 hm,D9,o9,u6,u7,J5,c3,c4,V6,X4,h0]
def N7 (f:Fct):Fct:={room:=f.room,no:=f.no,known:=f.known,kind:=f.kind,flo:=0,fhi:=0,gid:=0,made:=0,nom:=0,tlo:=0,thi:=0,gn:=0,gd:=0,wear:=0,ug:=0,ud:=0,lg:=0,ll:=0,lh:=0,lw:=0,cid:=0,cday:=0,A:=.nilSlice,B:=.nilSlice,diff:=0,err:=0,hlo:=0,hhi:=0,mday:=0,L:=.nilSlice,tr:=0,tn:=0}
def L8 (f:Fct):Fct:=if f.kind=1 then {N7 f with flo:=f.flo,fhi:=f.fhi} else if f.kind=2 then {N7 f with gid:=f.gid,made:=f.made,nom:=f.nom,tlo:=f.tlo,thi:=f.thi,gn:=f.gn,gd:=f.gd,wear:=f.wear} else if f.kind=3 then {N7 f with ug:=f.ug,ud:=f.ud} else if f.kind=4 then {N7 f with lg:=f.lg,ll:=f.ll,lh:=f.lh,lw:=f.lw} else if f.kind=5 then {N7 f with cid:=f.cid,cday:=f.cday,A:=f.A,B:=f.B,diff:=f.diff,err:=f.err,hlo:=f.hlo,hhi:=f.hhi} else if f.kind=6 then {N7 f with mday:=f.mday,L:=f.L} else if f.kind=7 then {N7 f with tr:=f.tr,tn:=f.tn} else N7 f
theorem jh {m:Mem}{f:Fct}{a b l:List Int}(hf:R4 m f a b l):R4 m (L8 f) (if f.kind=5 then a else []) (if f.kind=5 then b else []) (if f.kind=6 then l else []):=by
 have hn:bV m .nilSlice []:=.inl ⟨rfl,rfl⟩
 by_cases h5:f.kind=5
 ·refine⟨?_,?_,?_,?_,?_,?_⟩ <;> simp [L8,h5,N7,hf.a,hf.b,hf.la,hf.lb,hn]
 ·by_cases h6:f.kind=6
  ·refine⟨?_,?_,?_,?_,?_,?_⟩ <;> simp [L8,h6,N7,hf.l,hf.ll,hn]
  ·have e:(L8 f).A=.nilSlice∧(L8 f).B=.nilSlice∧(L8 f).L=.nilSlice:=by
    unfold L8
    simp only [h5,h6,if_false]
    repeat' split
    all_goals exact⟨rfl,rfl,rfl⟩
   simp only [h5,h6,if_false]
   exact⟨by rw [e.1];exact hn,by rw [e.2.1];exact hn,by rw [e.2.2];exact hn,by simp,by simp,by simp⟩
theorem UH {m:Mem}{f:Fct}(hm:m.Ok)(hl:m.lim≤m.next){a b l:List Int}(hf:R4 m f a b l)(n fu:Nat):
  F9 KW fu (n + 1) (.func 39) [.agg f.cells] m=some [⟨.agg (L8 f).cells,ext m [C9 f.cells,C9 (L8 f).cells,C9 (L8 f).cells]⟩]:=by
 rw [enter (sf:=f39) rfl rfl]
 have o1:=hf.a.J5
 have o2:=hf.b.J5
 have o3:=hf.l.J5
 have hn:J5 .nilSlice=true:=rfl
 have hi:∀i,J5 (.int .i64 i)=true:=fun _=>rfl
 by_cases k1:f.kind=1
 ·simp [-Fct.M4,f39,D8,trD,I4,z8,p9,o7,A8,C8,j4 hm,j6 hm,F5 hm hl,w9 hm hl,l6 hm,l5 hm,D9,o9,u6,u7,o1,o2,o3,hn,hi,L8,N7,Fct.cells,k1]
 by_cases k2:f.kind=2
 ·simp [-Fct.M4,f39,D8,trD,I4,z8,p9,o7,A8,C8,j4 hm,j6 hm,F5 hm hl,w9 hm hl,l6 hm,l5 hm,D9,o9,u6,u7,o1,o2,o3,hn,hi,L8,N7,Fct.cells,k2]
 by_cases k3:f.kind=3
 ·simp [-Fct.M4,f39,D8,trD,I4,z8,p9,o7,A8,C8,j4 hm,j6 hm,F5 hm hl,w9 hm hl,l6 hm,l5 hm,D9,o9,u6,u7,o1,o2,o3,hn,hi,L8,N7,Fct.cells,k3]
 by_cases k4:f.kind=4
 ·simp [-Fct.M4,f39,D8,trD,I4,z8,p9,o7,A8,C8,j4 hm,j6 hm,F5 hm hl,w9 hm hl,l6 hm,l5 hm,D9,o9,u6,u7,o1,o2,o3,hn,hi,L8,N7,Fct.cells,k4]
 by_cases k5:f.kind=5
 ·simp [-Fct.M4,f39,D8,trD,I4,z8,p9,o7,A8,C8,j4 hm,j6 hm,F5 hm hl,w9 hm hl,l6 hm,l5 hm,D9,o9,u6,u7,o1,o2,o3,hn,hi,L8,N7,Fct.cells,k5]
 by_cases k6:f.kind=6
 ·simp [-Fct.M4,f39,D8,trD,I4,z8,p9,o7,A8,C8,j4 hm,j6 hm,F5 hm hl,w9 hm hl,l6 hm,l5 hm,D9,o9,u6,u7,o1,o2,o3,hn,hi,L8,N7,Fct.cells,k6]
 by_cases k7:f.kind=7
 ·simp [-Fct.M4,f39,D8,trD,I4,z8,p9,o7,A8,C8,j4 hm,j6 hm,F5 hm hl,w9 hm hl,l6 hm,l5 hm,D9,o9,u6,u7,o1,o2,o3,hn,hi,L8,N7,Fct.cells,k7]
 simp [-Fct.M4,f39,D8,trD,I4,z8,p9,o7,A8,C8,j4 hm,j6 hm,F5 hm hl,w9 hm hl,l6 hm,l5 hm,D9,o9,u6,u7,o1,o2,o3,hn,hi,L8,N7,Fct.cells,k1,k2,k3,k4,k5,k6,k7]
end Go.Proofs.YtefodipjjofocaaGreatDoor.TT
namespace Go.Proofs.YtefodipjjofocaaGreatDoor.TT
open Go Go.AM
set_option linter.unusedSimpArgs false
set_option linter.unusedVariables false
set_option maxRecDepth 100000
set_option maxHeartbeats 2000000
def lM (xs:List Int):Bool:=M9 (okB xs) xs.length 0 && decide (xs.length≤6)
def AU (f:Fct):Bool:=(decide (0≤f.flo) && decide (f.flo≤f.fhi) && decide (f.fhi≤1000000))
def Iy (f:Fct):Bool:=(decide (1≤f.ug) && decide (f.ug≤1099511627776)) && (decide (0≤f.ud) && decide (f.ud≤20000))
def lN (f:Fct):Bool:=(decide (1≤f.lg) && decide (f.lg≤1099511627776)) && ((decide (0≤f.ll) && decide (f.ll≤f.lh) && decide (f.lh≤20000)) && (decide (0≤f.lw) && decide (f.lw≤1048576)))
def Z0 (f:Fct)(a b:List Int):Bool:=decide (f.cid=0) && ((decide (0≤f.cday) && decide (f.cday≤20000)) && ((decide (-1125899906842624≤f.diff) && decide (f.diff≤1125899906842624)) && ((decide (0≤f.err) && decide (f.err≤1073741824)) && ((decide (-10000≤f.hlo) && decide (f.hlo≤f.hhi) && decide (f.hhi≤10000)) && (lM a && lM b)))))
def EK (f:Fct)(l:List Int):Bool:=M9 (okB l) l.length 0 && ((decide (0≤f.mday) && decide (f.mday≤19999)) && (decide (2≤l.length) && decide (l.length≤5)))
def wdB (f:Fct):Bool:=(decide (1≤f.tr) && decide (f.tr≤6)) && ((decide (1≤f.tn) && decide (f.tn≤60)) && !(decide (f.tr=f.room) && decide (f.tn=f.no)))
theorem KL (n fu:Nat)(f:Fct)(m:Mem)(hm:m.Ok)(hl:m.lim≤m.next):∃m',F9 KW fu (n + 3) (.func 143) [.agg f.cells] m=some [⟨.bool (lN f),m'⟩]∧Ext m m':=by
 rw [enter (sf:=f143) rfl rfl]
 have c1:=xW (n + 1) fu f.ll f.lh 0 20000 (ext m [C9 f.cells]) (J3 hm _)
 cases h0:(decide (1≤f.lg) && decide (f.lg≤1099511627776)) with
 | true=>
  cases h1:(decide (0≤f.ll) && decide (f.ll≤f.lh) && decide (f.lh≤20000)) with
  | true=>
   cases h2:(decide (0≤f.lw) && decide (f.lw≤1048576)) with
   | true=>
    exact⟨ext m [C9 f.cells,C9 [.int .i64 f.ll,.int .i64 f.lh]],by simp [f143,D8,trD,I4,z8,p9,o7,A8,C8,j4 hm,j6 hm,l6 hm,l5 hm,D9,o9,u6,u7,J5,fE,L6,c1,lN,h0,h1,h2],F3 hm _⟩
   | false=>exact⟨ext m [C9 f.cells,C9 [.int .i64 f.ll,.int .i64 f.lh]],by simp [f143,D8,trD,I4,z8,p9,o7,A8,C8,j4 hm,j6 hm,l6 hm,l5 hm,D9,o9,u6,u7,J5,fE,L6,c1,lN,h0,h1,h2],F3 hm _⟩
  | false=>exact⟨ext m [C9 f.cells,C9 [.int .i64 f.ll,.int .i64 f.lh]],by simp [f143,D8,trD,I4,z8,p9,o7,A8,C8,j4 hm,j6 hm,l6 hm,l5 hm,D9,o9,u6,u7,J5,fE,L6,c1,lN,h0,h1],F3 hm _⟩
 | false=>exact⟨ext m [C9 f.cells],by simp [f143,D8,trD,I4,z8,p9,o7,A8,C8,j4 hm,j6 hm,l6 hm,l5 hm,D9,o9,u6,u7,J5,fE,L6,c1,lN,h0],F3 hm _⟩
theorem KM {m:Mem}{f:Fct}{a b l:List Int}(hm:m.Ok)(hl:m.lim≤m.next)(hf:R4 m f a b l)(n fu:Nat)(hfu:1000≤fu):
  ∃m',F9 KW fu (n + 9) (.func 146) [.agg f.cmp] m=some [⟨.bool (Z0 f a b),m'⟩]∧Ext m m':=by
 rw [enter (sf:=f146) rfl rfl]
 have c1:=xW (n + 7) fu f.hlo f.hhi (-10000) 10000 (ext m [C9 f.cmp]) (J3 hm _)
 have E2:=F3 hm [C9 f.cmp,C9 [.int .i64 f.hlo,.int .i64 f.hhi]]
 obtain⟨m3,g3,E3⟩:=Df (J3 hm _) (by simp;omega) (hf.a.ext E2) hf.la n fu hfu
 have q3:m3.get m.next=some (C9 f.cmp):=by rw [E3.old _ (by simp),j4 hm];rfl
 have E23:=E2.trans E3
 obtain⟨m4,g4,E4⟩:=Df (m:=m3) E3.ok (by have h1:=E23.lim;have h2:=E23.next;omega) (hf.b.ext E23) hf.lb n fu hfu
 cases h0:decide (f.cid=0) with
 | true=>
  cases h1:(decide (0≤f.cday) && decide (f.cday≤20000)) with
  | true=>
   cases h2:(decide (-1125899906842624≤f.diff) && decide (f.diff≤1125899906842624)) with
   | true=>
    cases h3:(decide (0≤f.err) && decide (f.err≤1073741824)) with
    | true=>
     cases h4:(decide (-10000≤f.hlo) && decide (f.hlo≤f.hhi) && decide (f.hhi≤10000)) with
     | true=>
      cases h5:M9 (okB a) a.length 0 && decide (a.length≤6) with
      | true=>
       cases h6:M9 (okB b) b.length 0 && decide (b.length≤6) with
       | true=>
        exact⟨m4,by rw [h5] at g3;rw [h6] at g4;simp [f146,D8,trD,I4,z8,p9,o7,A8,C8,j4 hm,j6 hm,l6 hm,l5 hm,D9,o9,u6,u7,J5,L6,c1,g3,q3,g4,Z0,lM,h0,h1,h2,h3,h4,h5,h6],E23.trans E4⟩
       | false=>exact⟨m4,by rw [h5] at g3;rw [h6] at g4;simp [f146,D8,trD,I4,z8,p9,o7,A8,C8,j4 hm,j6 hm,l6 hm,l5 hm,D9,o9,u6,u7,J5,L6,c1,g3,q3,g4,Z0,lM,h0,h1,h2,h3,h4,h5,h6],E23.trans E4⟩
      | false=>exact⟨m3,by rw [h5] at g3;simp [f146,D8,trD,I4,z8,p9,o7,A8,C8,j4 hm,j6 hm,l6 hm,l5 hm,D9,o9,u6,u7,J5,L6,c1,g3,q3,Z0,lM,h0,h1,h2,h3,h4,h5],E23⟩
     | false=>exact⟨ext m [C9 f.cmp,C9 [.int .i64 f.hlo,.int .i64 f.hhi]],by simp [f146,D8,trD,I4,z8,p9,o7,A8,C8,j4 hm,j6 hm,l6 hm,l5 hm,D9,o9,u6,u7,J5,L6,c1,Z0,lM,h0,h1,h2,h3,h4],F3 hm _⟩
    | false=>exact⟨ext m [C9 f.cmp],by simp [f146,D8,trD,I4,z8,p9,o7,A8,C8,j4 hm,j6 hm,l6 hm,l5 hm,D9,o9,u6,u7,J5,L6,c1,Z0,lM,h0,h1,h2,h3],F3 hm _⟩
   | false=>exact⟨ext m [C9 f.cmp],by simp [f146,D8,trD,I4,z8,p9,o7,A8,C8,j4 hm,j6 hm,l6 hm,l5 hm,D9,o9,u6,u7,J5,L6,c1,Z0,lM,h0,h1,h2],F3 hm _⟩
  | false=>exact⟨ext m [C9 f.cmp],by simp [f146,D8,trD,I4,z8,p9,o7,A8,C8,j4 hm,j6 hm,l6 hm,l5 hm,D9,o9,u6,u7,J5,L6,c1,Z0,lM,h0,h1],F3 hm _⟩
 | false=>exact⟨ext m [C9 f.cmp],by simp [f146,D8,trD,I4,z8,p9,o7,A8,C8,j4 hm,j6 hm,l6 hm,l5 hm,D9,o9,u6,u7,J5,L6,c1,Z0,lM,h0],F3 hm _⟩
theorem KN {m:Mem}{f:Fct}{a b l:List Int}(hm:m.Ok)(hl:m.lim≤m.next)(hf:R4 m f a b l)(n fu:Nat)(hfu:1000≤fu):
  ∃m',F9 KW fu (n + 10) (.func 145) [.agg f.cells] m=some [⟨.bool (Z0 f a b),m'⟩]∧Ext m m':=by
 rw [enter (sf:=f145) rfl rfl]
 obtain⟨m3,g3,E3⟩:=KM (J3 hm [C9 f.cells]) (by simp;omega) (hf.ext (F3 hm _)) n fu hfu
 exact⟨m3,by simp [f145,D8,trD,I4,z8,p9,o7,A8,C8,j4 hm,j6 hm,l6 hm,l5 hm,D9,o9,u6,u7,J5,g3],(F3 hm _).trans E3⟩
theorem KO {m:Mem}{f:Fct}{a b l:List Int}(hm:m.Ok)(hl:m.lim≤m.next)(hf:R4 m f a b l)(n fu:Nat)(hfu:1000≤fu):
  ∃m',F9 KW fu (n + 4) (.func 148) [.agg f.cells] m=some [⟨.bool (EK f l),m'⟩]∧Ext m m':=by
 rw [enter (sf:=f148) rfl rfl]
 have g3:=KF (J3 hm [C9 f.cells]) (day:=f.mday) (hf.l.ext (F3 hm _)) hf.ll n fu hfu
 exact⟨ext m [C9 f.cells,C9 [.int .i64 f.mday,f.L]],by simp [f148,D8,trD,I4,z8,p9,o7,A8,C8,j4 hm,j6 hm,l6 hm,l5 hm,D9,o9,u6,u7,J5,g3,EK],F3 hm _⟩
theorem KP {m:Mem}{f:Fct}{a b l:List Int}(hm:m.Ok)(hl:m.lim≤m.next)(hf:R4 m f a b l)(n fu:Nat):
  ∃m',F9 KW fu (n + 2) (.func 151) [.agg f.cells] m=some [⟨.bool (wdB f),m'⟩]∧Ext m m':=by
 rw [enter (sf:=f151) rfl rfl]
 have s1:=hf.same
 have s2:dz 100 (.agg [.int .i64 f.tr,.int .i64 f.tn]) (.agg [.int .i64 f.tr,.int .i64 f.tn])=true:=by
  rw [vW];simp [vV,zN,J6]
 have c1:=rM n fu f (ext m [C9 f.cells]) (J3 hm _) (by simp;omega)
 cases h0:(decide (1≤f.tr) && decide (f.tr≤6)) with
 | true=>
  cases h1:(decide (1≤f.tn) && decide (f.tn≤60)) with
  | true=>
   cases h2:(decide (f.tr=f.room) && decide (f.tn=f.no)) with
   | true=>
    exact⟨ext m [C9 f.cells,C9 f.cells,C9 [.int .i64 f.room,.int .i64 f.no]],by simp [f151,D8,trD,I4,z8,p9,o7,A8,C8,j4 hm,j6 hm,l6 hm,l5 hm,D9,o9,u6,u7,J5,L6,c1,s1,s2,wdB,eq_comm (a:=f.room),eq_comm (a:=f.no),h0,h1,h2],F3 hm _⟩
   | false=>exact⟨ext m [C9 f.cells,C9 f.cells,C9 [.int .i64 f.room,.int .i64 f.no]],by simp [f151,D8,trD,I4,z8,p9,o7,A8,C8,j4 hm,j6 hm,l6 hm,l5 hm,D9,o9,u6,u7,J5,L6,c1,s1,s2,wdB,eq_comm (a:=f.room),eq_comm (a:=f.no),h0,h1,h2],F3 hm _⟩
  | false=>exact⟨ext m [C9 f.cells],by simp [f151,D8,trD,I4,z8,p9,o7,A8,C8,j4 hm,j6 hm,l6 hm,l5 hm,D9,o9,u6,u7,J5,L6,c1,s1,s2,wdB,eq_comm (a:=f.room),eq_comm (a:=f.no),h0,h1],F3 hm _⟩
 | false=>exact⟨ext m [C9 f.cells],by simp [f151,D8,trD,I4,z8,p9,o7,A8,C8,j4 hm,j6 hm,l6 hm,l5 hm,D9,o9,u6,u7,J5,L6,c1,s1,s2,wdB,eq_comm (a:=f.room),eq_comm (a:=f.no),h0],F3 hm _⟩
theorem KQ {m:Mem}{f g:Fct}{a b l:List Int}{p:Nat}(hm:m.Ok)(hl:m.lim≤p)(hp:p < m.next)(hf:R4 m f a b l)(hg:m.get p=some (C9 g.cells))(n fu:Nat):
  ∃m',F9 KW fu (n + 1) (.func 137) [.ptr p 0,.agg f.cells] m=some [⟨.tuple [],m'⟩]∧m'.Ok∧m'.lim=m.lim∧m.next≤m'.next∧(∀i,i < m.next→i≠p→m'.get i=m.get i)∧m'.get p=some (C9 ({g with flo:=f.flo,fhi:=f.fhi}:Fct).cells):=by
 rw [enter (sf:=f137) rfl rfl]
 have o1:=hf.a.J5
 have o2:=hf.b.J5
 have o3:=hf.l.J5
 have hi:∀i,J5 (.int .i64 i)=true:=fun _=>rfl
 have hg1:(ext m [C9 f.cells]).get p=some (C9 g.cells):=by rw [F6 hm _ hp];exact hg
 have hp1:p < (ext m [C9 f.cells]).next:=by simp;omega
 refine⟨(ext m [C9 f.cells]).set p (C9 ({g with flo:=f.flo,fhi:=f.fhi}:Fct).cells),?_,(J3 hm _).set hp1 _,by simp,by simp,fun i hi hne=>?_,P9 (J3 hm _) _ hp1 rfl⟩
 ·simp only [Fct.cells] at hg1 ⊢
  simp [-Fct.M4,f137,D8,trD,I4,z8,p9,o7,A8,C8,j4 hm,j6 hm,l6 hm,l5 hm,D9,o9,u6,u7,Z9,hl,hg1,o1,o2,o3,hi]
 ·rw [Z8 (J3 hm _) _ hp1 hne,F6 hm _ hi]
theorem KR {m:Mem}{f g:Fct}{a b l:List Int}{p:Nat}(hm:m.Ok)(hl:m.lim≤p)(hp:p < m.next)(hf:R4 m f a b l)(hg:m.get p=some (C9 g.cells))(n fu:Nat):
  ∃m',F9 KW fu (n + 1) (.func 139) [.ptr p 0,.agg f.cells] m=some [⟨.tuple [],m'⟩]∧m'.Ok∧m'.lim=m.lim∧m.next≤m'.next∧(∀i,i < m.next→i≠p→m'.get i=m.get i)∧m'.get p=some (C9 ({g with gid:=f.gid,made:=f.made,nom:=f.nom,tlo:=f.tlo,thi:=f.thi,gn:=f.gn,gd:=f.gd,wear:=f.wear}:Fct).cells):=by
 rw [enter (sf:=f139) rfl rfl]
 have o1:=hf.a.J5
 have o2:=hf.b.J5
 have o3:=hf.l.J5
 have hi:∀i,J5 (.int .i64 i)=true:=fun _=>rfl
 have hg1:(ext m [C9 f.cells]).get p=some (C9 g.cells):=by rw [F6 hm _ hp];exact hg
 have hp1:p < (ext m [C9 f.cells]).next:=by simp;omega
 refine⟨(ext m [C9 f.cells]).set p (C9 ({g with gid:=f.gid,made:=f.made,nom:=f.nom,tlo:=f.tlo,thi:=f.thi,gn:=f.gn,gd:=f.gd,wear:=f.wear}:Fct).cells),?_,(J3 hm _).set hp1 _,by simp,by simp,fun i hi hne=>?_,P9 (J3 hm _) _ hp1 rfl⟩
 ·simp only [Fct.cells] at hg1 ⊢
  simp [-Fct.M4,f139,D8,trD,I4,z8,p9,o7,A8,C8,j4 hm,j6 hm,l6 hm,l5 hm,D9,o9,u6,u7,Z9,hl,hg1,o1,o2,o3,hi]
 ·rw [Z8 (J3 hm _) _ hp1 hne,F6 hm _ hi]
theorem KS {m:Mem}{f g:Fct}{a b l:List Int}{p:Nat}(hm:m.Ok)(hl:m.lim≤p)(hp:p < m.next)(hf:R4 m f a b l)(hg:m.get p=some (C9 g.cells))(n fu:Nat):
  ∃m',F9 KW fu (n + 1) (.func 142) [.ptr p 0,.agg f.cells] m=some [⟨.tuple [],m'⟩]∧m'.Ok∧m'.lim=m.lim∧m.next≤m'.next∧(∀i,i < m.next→i≠p→m'.get i=m.get i)∧m'.get p=some (C9 ({g with ug:=f.ug,ud:=f.ud}:Fct).cells):=by
 rw [enter (sf:=f142) rfl rfl]
 have o1:=hf.a.J5
 have o2:=hf.b.J5
 have o3:=hf.l.J5
 have hi:∀i,J5 (.int .i64 i)=true:=fun _=>rfl
 have hg1:(ext m [C9 f.cells]).get p=some (C9 g.cells):=by rw [F6 hm _ hp];exact hg
 have hp1:p < (ext m [C9 f.cells]).next:=by simp;omega
 refine⟨(ext m [C9 f.cells]).set p (C9 ({g with ug:=f.ug,ud:=f.ud}:Fct).cells),?_,(J3 hm _).set hp1 _,by simp,by simp,fun i hi hne=>?_,P9 (J3 hm _) _ hp1 rfl⟩
 ·simp only [Fct.cells] at hg1 ⊢
  simp [-Fct.M4,f142,D8,trD,I4,z8,p9,o7,A8,C8,j4 hm,j6 hm,l6 hm,l5 hm,D9,o9,u6,u7,Z9,hl,hg1,o1,o2,o3,hi]
 ·rw [Z8 (J3 hm _) _ hp1 hne,F6 hm _ hi]
theorem KT {m:Mem}{f g:Fct}{a b l:List Int}{p:Nat}(hm:m.Ok)(hl:m.lim≤p)(hp:p < m.next)(hf:R4 m f a b l)(hg:m.get p=some (C9 g.cells))(n fu:Nat):
  ∃m',F9 KW fu (n + 1) (.func 144) [.ptr p 0,.agg f.cells] m=some [⟨.tuple [],m'⟩]∧m'.Ok∧m'.lim=m.lim∧m.next≤m'.next∧(∀i,i < m.next→i≠p→m'.get i=m.get i)∧m'.get p=some (C9 ({g with lg:=f.lg,ll:=f.ll,lh:=f.lh,lw:=f.lw}:Fct).cells):=by
 rw [enter (sf:=f144) rfl rfl]
 have o1:=hf.a.J5
 have o2:=hf.b.J5
 have o3:=hf.l.J5
 have hi:∀i,J5 (.int .i64 i)=true:=fun _=>rfl
 have hg1:(ext m [C9 f.cells]).get p=some (C9 g.cells):=by rw [F6 hm _ hp];exact hg
 have hp1:p < (ext m [C9 f.cells]).next:=by simp;omega
 refine⟨(ext m [C9 f.cells]).set p (C9 ({g with lg:=f.lg,ll:=f.ll,lh:=f.lh,lw:=f.lw}:Fct).cells),?_,(J3 hm _).set hp1 _,by simp,by simp,fun i hi hne=>?_,P9 (J3 hm _) _ hp1 rfl⟩
 ·simp only [Fct.cells] at hg1 ⊢
  simp [-Fct.M4,f144,D8,trD,I4,z8,p9,o7,A8,C8,j4 hm,j6 hm,l6 hm,l5 hm,D9,o9,u6,u7,Z9,hl,hg1,o1,o2,o3,hi]
 ·rw [Z8 (J3 hm _) _ hp1 hne,F6 hm _ hi]
theorem KU {m:Mem}{f g:Fct}{a b l:List Int}{p:Nat}(hm:m.Ok)(hl:m.lim≤p)(hp:p < m.next)(hf:R4 m f a b l)(hg:m.get p=some (C9 g.cells))(n fu:Nat):
  ∃m',F9 KW fu (n + 1) (.func 147) [.ptr p 0,.agg f.cells] m=some [⟨.tuple [],m'⟩]∧m'.Ok∧m'.lim=m.lim∧m.next≤m'.next∧(∀i,i < m.next→i≠p→m'.get i=m.get i)∧m'.get p=some (C9 ({g with cid:=f.cid,cday:=f.cday,A:=f.A,B:=f.B,diff:=f.diff,err:=f.err,hlo:=f.hlo,hhi:=f.hhi}:Fct).cells):=by
 rw [enter (sf:=f147) rfl rfl]
 have o1:=hf.a.J5
 have o2:=hf.b.J5
 have o3:=hf.l.J5
 have hi:∀i,J5 (.int .i64 i)=true:=fun _=>rfl
 have hg1:(ext m [C9 f.cells]).get p=some (C9 g.cells):=by rw [F6 hm _ hp];exact hg
 have hp1:p < (ext m [C9 f.cells]).next:=by simp;omega
 refine⟨(ext m [C9 f.cells]).set p (C9 ({g with cid:=f.cid,cday:=f.cday,A:=f.A,B:=f.B,diff:=f.diff,err:=f.err,hlo:=f.hlo,hhi:=f.hhi}:Fct).cells),?_,(J3 hm _).set hp1 _,by simp,by simp,fun i hi hne=>?_,P9 (J3 hm _) _ hp1 rfl⟩
 ·simp only [Fct.cells] at hg1 ⊢
  simp [-Fct.M4,f147,D8,trD,I4,z8,p9,o7,A8,C8,j4 hm,j6 hm,l6 hm,l5 hm,D9,o9,u6,u7,Z9,hl,hg1,o1,o2,o3,hi]
 ·rw [Z8 (J3 hm _) _ hp1 hne,F6 hm _ hi]
theorem KV {m:Mem}{f g:Fct}{a b l:List Int}{p:Nat}(hm:m.Ok)(hl:m.lim≤p)(hp:p < m.next)(hf:R4 m f a b l)(hg:m.get p=some (C9 g.cells))(n fu:Nat):
  ∃m',F9 KW fu (n + 1) (.func 150) [.ptr p 0,.agg f.cells] m=some [⟨.tuple [],m'⟩]∧m'.Ok∧m'.lim=m.lim∧m.next≤m'.next∧(∀i,i < m.next→i≠p→m'.get i=m.get i)∧m'.get p=some (C9 ({g with mday:=f.mday,L:=f.L}:Fct).cells):=by
 rw [enter (sf:=f150) rfl rfl]
 have o1:=hf.a.J5
 have o2:=hf.b.J5
 have o3:=hf.l.J5
 have hi:∀i,J5 (.int .i64 i)=true:=fun _=>rfl
 have hg1:(ext m [C9 f.cells]).get p=some (C9 g.cells):=by rw [F6 hm _ hp];exact hg
 have hp1:p < (ext m [C9 f.cells]).next:=by simp;omega
 refine⟨(ext m [C9 f.cells]).set p (C9 ({g with mday:=f.mday,L:=f.L}:Fct).cells),?_,(J3 hm _).set hp1 _,by simp,by simp,fun i hi hne=>?_,P9 (J3 hm _) _ hp1 rfl⟩
 ·simp only [Fct.cells] at hg1 ⊢
  simp [-Fct.M4,f150,D8,trD,I4,z8,p9,o7,A8,C8,j4 hm,j6 hm,l6 hm,l5 hm,D9,o9,u6,u7,Z9,hl,hg1,o1,o2,o3,hi]
 ·rw [Z8 (J3 hm _) _ hp1 hne,F6 hm _ hi]
theorem KX {m:Mem}{f g:Fct}{a b l:List Int}{p:Nat}(hm:m.Ok)(hl:m.lim≤p)(hp:p < m.next)(hf:R4 m f a b l)(hg:m.get p=some (C9 g.cells))(n fu:Nat):
  ∃m',F9 KW fu (n + 1) (.func 152) [.ptr p 0,.agg f.cells] m=some [⟨.tuple [],m'⟩]∧m'.Ok∧m'.lim=m.lim∧m.next≤m'.next∧(∀i,i < m.next→i≠p→m'.get i=m.get i)∧m'.get p=some (C9 ({g with tr:=f.tr,tn:=f.tn}:Fct).cells):=by
 rw [enter (sf:=f152) rfl rfl]
 have o1:=hf.a.J5
 have o2:=hf.b.J5
 have o3:=hf.l.J5
 have hi:∀i,J5 (.int .i64 i)=true:=fun _=>rfl
 have hg1:(ext m [C9 f.cells]).get p=some (C9 g.cells):=by rw [F6 hm _ hp];exact hg
 have hp1:p < (ext m [C9 f.cells]).next:=by simp;omega
 refine⟨(ext m [C9 f.cells]).set p (C9 ({g with tr:=f.tr,tn:=f.tn}:Fct).cells),?_,(J3 hm _).set hp1 _,by simp,by simp,fun i hi hne=>?_,P9 (J3 hm _) _ hp1 rfl⟩
 ·simp only [Fct.cells] at hg1 ⊢
  simp [-Fct.M4,f152,D8,trD,I4,z8,p9,o7,A8,C8,j4 hm,j6 hm,l6 hm,l5 hm,D9,o9,u6,u7,Z9,hl,hg1,o1,o2,o3,hi]
 ·rw [Z8 (J3 hm _) _ hp1 hne,F6 hm _ hi]
end Go.Proofs.YtefodipjjofocaaGreatDoor.TT
namespace Go.Proofs.YtefodipjjofocaaGreatDoor.TT
open Go Go.AM
set_option linter.unusedSimpArgs false
set_option linter.unusedVariables false
set_option maxRecDepth 100000
set_option maxHeartbeats 2000000
theorem Gl (cf:K7)(fu:Nat)(m:Mem):∀(k a b:Nat),b < 2 ^ k→∀(N:Nat),2 * k + 1≤N→∀(a1:l8),
  ∃ba1,aW (fun env m k=>pQ cf fu none env m k) N (.nd (.nd (.nd .e (.int .u64 0) .e) a1 .e) (.int .u64 ((b:Nat):Int)) (.nd .e (.int .u64 ((a:Nat):Int)) .e)) m []=some [⟨.exit 0,(.nd (.nd (.nd .e (.int .u64 0) .e) ba1 .e) (.int .u64 ((0:Nat):Int)) (.nd .e (.int .u64 (((Nat.gcd a b):Nat):Int)) .e)),m,[],none⟩]:=by
 have stop:∀(a N:Nat) (a1:l8),aW (fun env m k=>pQ cf fu none env m k) (N + 1) (.nd (.nd (.nd .e (.int .u64 0) .e) a1 .e) (.int .u64 ((0:Nat):Int)) (.nd .e (.int .u64 ((a:Nat):Int)) .e)) m []=some [⟨.exit 0,(.nd (.nd (.nd .e (.int .u64 0) .e) (.bool false) .e) (.int .u64 ((0:Nat):Int)) (.nd .e (.int .u64 ((a:Nat):Int)) .e)),m,[],none⟩]:=by
  intro a N a1
  rw [G7]
  simp [pQ,D8,trD,I4,z8,p9,o7]
 have step:∀(a b N:Nat) (a1:l8),b≠0→aW (fun env m k=>pQ cf fu none env m k) (N + 1) (.nd (.nd (.nd .e (.int .u64 0) .e) a1 .e) (.int .u64 ((b:Nat):Int)) (.nd .e (.int .u64 ((a:Nat):Int)) .e)) m []=aW (fun env m k=>pQ cf fu none env m k) N (.nd (.nd (.nd .e (.int .u64 0) .e) (.bool true) .e) (.int .u64 (((a % b):Nat):Int)) (.nd .e (.int .u64 ((b:Nat):Int)) .e)) m []:=by
  intro a b N a1 hb
  rw [G7]
  have h1:¬ ((b:Nat):Int)=0:=by omega
  simp [pQ,D8,trD,I4,z8,p9,o7,hb,zO _ a b hb]
 intro k
 induction k with
 | zero=>
  intro a b hb N hN a1
  obtain⟨N,rfl⟩:∃M,N=M + 1:=⟨N - 1,by omega⟩
  have hb0:b=0:=by simpa using hb
  subst hb0
  exact⟨(.bool false),by rw [stop,Nat.gcd_zero_right]⟩
 | succ k ih=>
  intro a b hb N hN a1
  obtain⟨N,rfl⟩:∃M,N=M + 2:=⟨N - 2,by omega⟩
  by_cases h0:b=0
  ·subst h0
   exact⟨(.bool false),by rw [stop,Nat.gcd_zero_right]⟩
  ·by_cases hc:a % b=0
   ·refine⟨(.bool false),?_⟩
    have e:Nat.gcd a b=b:=by rw [Nat.gcd_comm,Nat.gcd_rec,hc,Nat.gcd_zero_left]
    rw [step _ _ _ _ h0,hc,stop,e]
   ·have h1:a % b < b:=Nat.mod_lt _ (by omega)
    have h2:b % (a % b) < a % b:=Nat.mod_lt _ (by omega)
    have h3:b % (a % b) + a % b≤b:=by
     have:=Nat.div_add_mod b (a % b)
     have h4:1≤b / (a % b):=(Nat.one_le_div_iff (by omega)).2 (by omega)
     have h5:a % b * 1≤a % b * (b / (a % b)):=Nat.mul_le_mul_left _ h4
     omega
    have h6:b % (a % b) < 2 ^ k:=by rw [Nat.pow_succ] at hb;omega
    obtain⟨ca1,g⟩:=ih (a % b) (b % (a % b)) h6 N (by omega) ((.bool true))
    refine⟨ca1,?_⟩
    rw [step _ _ _ _ h0,step _ _ _ _ hc,g]
    have e:Nat.gcd (a % b) (b % (a % b))=Nat.gcd a b:=by
     rw [Nat.gcd_comm a b,Nat.gcd_rec b a,Nat.gcd_rec (a % b) b,Nat.gcd_comm]
    rw [e]
theorem KY (a b:Nat)(hb:b < 2 ^ 64)(n fu:Nat)(hfu:1000≤fu)(m:Mem):F9 KW fu (n + 1) (.func 383) [.int .u64 a,.int .u64 b] m=some [⟨.int .u64 (Nat.gcd a b:Nat),m⟩]:=by
 rw [enter (sf:=abQ) rfl rfl]
 obtain⟨b1,g⟩:=Gl (F9 KW fu n) fu m 64 a b hb fu (by omega) .undef
 simp [abQ,D8,trD,I4,z8,p9,o7] at g ⊢
 simp [g]
theorem Gm (cf:K7)(fu:Nat)(m:Mem):∀(k a b:Nat),b < 2 ^ k→∀(N:Nat),2 * k + 1≤N→∀(a1 a3:l8),
  ∃ba1 ba3,aW (fun env m k=>pO cf fu none env m k) N (.nd (.nd (.nd .e a3 .e) a1 .e) (.int .i64 ((b:Nat):Int)) (.nd (.nd .e (.int .i64 0) .e) (.int .i64 ((a:Nat):Int)) .e)) m []=some [⟨.exit 0,(.nd (.nd (.nd .e ba3 .e) ba1 .e) (.int .i64 ((0:Nat):Int)) (.nd (.nd .e (.int .i64 0) .e) (.int .i64 (((Nat.gcd a b):Nat):Int)) .e)),m,[],none⟩]:=by
 have stop:∀(a N:Nat) (a1 a3:l8),aW (fun env m k=>pO cf fu none env m k) (N + 1) (.nd (.nd (.nd .e a3 .e) a1 .e) (.int .i64 ((0:Nat):Int)) (.nd (.nd .e (.int .i64 0) .e) (.int .i64 ((a:Nat):Int)) .e)) m []=some [⟨.exit 0,(.nd (.nd (.nd .e a3 .e) (.bool false) .e) (.int .i64 ((0:Nat):Int)) (.nd (.nd .e (.int .i64 0) .e) (.int .i64 ((a:Nat):Int)) .e)),m,[],none⟩]:=by
  intro a N a1 a3
  rw [G7]
  simp [pO,D8,trD,I4,z8,p9,o7]
 have step:∀(a b N:Nat) (a1 a3:l8),b≠0→aW (fun env m k=>pO cf fu none env m k) (N + 1) (.nd (.nd (.nd .e a3 .e) a1 .e) (.int .i64 ((b:Nat):Int)) (.nd (.nd .e (.int .i64 0) .e) (.int .i64 ((a:Nat):Int)) .e)) m []=aW (fun env m k=>pO cf fu none env m k) N (.nd (.nd (.nd .e (.int .i64 ((a % b:Nat):Int)) .e) (.bool true) .e) (.int .i64 (((a % b):Nat):Int)) (.nd (.nd .e (.int .i64 0) .e) (.int .i64 ((b:Nat):Int)) .e)) m []:=by
  intro a b N a1 a3 hb
  rw [G7]
  have h1:¬ ((b:Nat):Int)=0:=by omega
  simp [pO,D8,trD,I4,z8,p9,o7,hb,zO _ a b hb]
 intro k
 induction k with
 | zero=>
  intro a b hb N hN a1 a3
  obtain⟨N,rfl⟩:∃M,N=M + 1:=⟨N - 1,by omega⟩
  have hb0:b=0:=by simpa using hb
  subst hb0
  exact⟨(.bool false),a3,by rw [stop,Nat.gcd_zero_right]⟩
 | succ k ih=>
  intro a b hb N hN a1 a3
  obtain⟨N,rfl⟩:∃M,N=M + 2:=⟨N - 2,by omega⟩
  by_cases h0:b=0
  ·subst h0
   exact⟨(.bool false),a3,by rw [stop,Nat.gcd_zero_right]⟩
  ·by_cases hc:a % b=0
   ·refine⟨(.bool false),(.int .i64 ((a % b:Nat):Int)),?_⟩
    have e:Nat.gcd a b=b:=by rw [Nat.gcd_comm,Nat.gcd_rec,hc,Nat.gcd_zero_left]
    rw [step _ _ _ _ _ h0,hc,stop,e]
   ·have h1:a % b < b:=Nat.mod_lt _ (by omega)
    have h2:b % (a % b) < a % b:=Nat.mod_lt _ (by omega)
    have h3:b % (a % b) + a % b≤b:=by
     have:=Nat.div_add_mod b (a % b)
     have h4:1≤b / (a % b):=(Nat.one_le_div_iff (by omega)).2 (by omega)
     have h5:a % b * 1≤a % b * (b / (a % b)):=Nat.mul_le_mul_left _ h4
     omega
    have h6:b % (a % b) < 2 ^ k:=by rw [Nat.pow_succ] at hb;omega
    obtain⟨ca1,ca3,g⟩:=ih (a % b) (b % (a % b)) h6 N (by omega) ((.bool true)) ((.int .i64 ((b % (a % b):Nat):Int)))
    refine⟨ca1,ca3,?_⟩
    rw [step _ _ _ _ _ h0,step _ _ _ _ _ hc,g]
    have e:Nat.gcd (a % b) (b % (a % b))=Nat.gcd a b:=by
     rw [Nat.gcd_comm a b,Nat.gcd_rec b a,Nat.gcd_rec (a % b) b,Nat.gcd_comm]
    rw [e]
theorem KZ (a b:Nat)(hb:b < 2 ^ 64)(n fu:Nat)(hfu:1000≤fu)(m:Mem):F9 KW fu (n + 1) (.func 268) [.int .i64 a,.int .i64 b] m=some [⟨.int .i64 (Nat.gcd a b:Nat),m⟩]:=by
 rw [enter (sf:=f268) rfl rfl]
 obtain⟨b1,b3,g⟩:=Gm (F9 KW fu n) fu m 64 a b hb fu (by omega) .undef .undef
 simp [f268,D8,trD,I4,z8,p9,o7] at g ⊢
 simp [g]
theorem wrap_u64 {n:Int}(h:0≤n)(h':n < 18446744073709551616):IntKind.u64.wrap n=n:=by
 simp [IntKind.wrap,IntKind.bits,IntKind.signed]
 omega
theorem Di (a:Int)(h:-9223372036854775808≤a)(h':a < 9223372036854775808)(n fu:Nat)(m:Mem):F9 KW fu (n + 1) (.func 382) [.int .i64 a] m=some [⟨.int .u64 (a.natAbs:Nat),m⟩]:=by
 rw [enter (sf:=Uv) rfl rfl]
 by_cases h0:a < 0
 ·have e:jH .u64 (0 - jH .u64 a)=((a.natAbs:Nat):Int):=by
   show IntKind.u64.wrap (0 - IntKind.u64.wrap a)=_
   simp [IntKind.wrap,IntKind.bits,IntKind.signed]
   omega
  simp only [Int.zero_sub] at e
  simp [Uv,D8,trD,I4,z8,p9,o7,h0,e]
 ·have e:jH .u64 a=((a.natAbs:Nat):Int):=by
   show IntKind.u64.wrap a=_
   rw [wrap_u64 (by omega) (by omega)];omega
  simp [Uv,D8,trD,I4,z8,p9,o7,h0,e]
theorem La (a:Int)(h:-9223372036854775808 < a)(h':a < 9223372036854775808)(n fu:Nat)(m:Mem):F9 KW fu (n + 1) (.func 269) [.int .i64 a] m=some [⟨.int .i64 (a.natAbs:Nat),m⟩]:=by
 rw [enter (sf:=f269) rfl rfl]
 by_cases h0:a < 0
 ·have e:w64 (-a)=((a.natAbs:Nat):Int):=by rw [eX (by omega) (by omega)];omega
  simp [f269,D8,trD,I4,z8,p9,o7,h0,e]
 ·have e:((a.natAbs:Nat):Int)=a:=by omega
  simp [f269,D8,trD,I4,z8,p9,o7,h0,e]
end Go.Proofs.YtefodipjjofocaaGreatDoor.TT
namespace Go.Proofs.YtefodipjjofocaaGreatDoor.TT
open Go Go.AM
set_option linter.unusedSimpArgs false
set_option linter.unusedVariables false
set_option maxRecDepth 100000
set_option maxHeartbeats 2000000
def Ba (a b:Int):Bool:=decide (1≤b) && (decide (b≤2147483647) && (decide (((a.natAbs:Nat):Int)≤2147483647) && decide (Nat.gcd a.natAbs b.natAbs=1)))
def eu (a:Int):Prop:=-9223372036854775808≤a∧a < 9223372036854775808
theorem Lb (a b:Int)(ha:eu a)(hb:eu b)(n fu:Nat)(hfu:1000≤fu)(m:Mem)(hm:m.Ok):F9 KW fu (n + 2) (.func 323) [.agg [.int .i64 a,.int .i64 b]] m=some [⟨.bool (Ba a b),ext m [C9 [.int .i64 a,.int .i64 b]]⟩]:=by
 rw [enter (sf:=f323) rfl rfl]
 have c1:=Di a ha.1 ha.2 n fu
 have c2:=Di b hb.1 hb.2 n fu
 have c3:=KY a.natAbs b.natAbs (by have:=hb.1;have:=hb.2;omega) n fu hfu
 have s1:dz 100 (.int .i64 b) (.int .i64 b)=true:=J6 _ _ _
 have e1:decide (((Nat.gcd a.natAbs b.natAbs:Nat):Int)=1)=decide (Nat.gcd a.natAbs b.natAbs=1):=by rw [Bool.eq_iff_iff];simp;omega
 cases h0:decide (1≤b) with
 | true=>
  cases h1:decide (b≤2147483647) with
  | true=>
   cases h2:decide (((a.natAbs:Nat):Int)≤2147483647) with
   | true=>
    cases h3:decide (Nat.gcd a.natAbs b.natAbs=1) with
    | true=>
     simp [f323,D8,trD,I4,z8,p9,o7,A8,C8,j4 hm,j6 hm,l6 hm,l5 hm,D9,o9,u6,u7,J5,c1,c2,c3,s1,e1,Ba,h0,h1,h2,h3]
    | false=>simp [f323,D8,trD,I4,z8,p9,o7,A8,C8,j4 hm,j6 hm,l6 hm,l5 hm,D9,o9,u6,u7,J5,c1,c2,c3,s1,e1,Ba,h0,h1,h2,h3]
   | false=>simp [f323,D8,trD,I4,z8,p9,o7,A8,C8,j4 hm,j6 hm,l6 hm,l5 hm,D9,o9,u6,u7,J5,c1,c2,c3,s1,e1,Ba,h0,h1,h2]
  | false=>simp [f323,D8,trD,I4,z8,p9,o7,A8,C8,j4 hm,j6 hm,l6 hm,l5 hm,D9,o9,u6,u7,J5,c1,c2,c3,s1,e1,Ba,h0,h1]
 | false=>simp [f323,D8,trD,I4,z8,p9,o7,A8,C8,j4 hm,j6 hm,l6 hm,l5 hm,D9,o9,u6,u7,J5,c1,c2,c3,s1,e1,Ba,h0]
def xX (a b:Int):Bool:=!(decide (b < 1)) && (!(decide (2147483647 < b)) && (!(decide (a < -2147483647)) && (!(decide (2147483647 < a)) && decide (Nat.gcd a.natAbs b.natAbs=1))))
theorem Lc (a b:Int):xX a b=Ba a b:=by
 unfold xX Ba
 have e1:(!(decide (b < 1)))=decide (1≤b):=by rw [Bool.eq_iff_iff];simp
 have e2:(!(decide (2147483647 < b)))=decide (b≤2147483647):=by rw [Bool.eq_iff_iff];simp
 have e3:(!(decide (a < -2147483647)) && !(decide (2147483647 < a)))=decide (((a.natAbs:Nat):Int)≤2147483647):=by rw [Bool.eq_iff_iff];simp;omega
 rw [e1,e2,← e3]
 simp [Bool.and_assoc]
theorem Ld (a b:Int)(ha:eu a)(hb:eu b)(n fu:Nat)(hfu:1000≤fu)(m:Mem)(hm:m.Ok):F9 KW fu (n + 2) (.func 170) [.agg [.int .i64 a,.int .i64 b]] m=some [⟨.bool (Ba a b),ext m [C9 [.int .i64 a,.int .i64 b]]⟩]:=by
 rw [enter (sf:=f170) rfl rfl,← Lc]
 have c3:=KZ a.natAbs b.natAbs (by have:=hb.1;have:=hb.2;omega) n fu hfu
 have s1:dz 100 (.int .i64 b) (.int .i64 b)=true:=J6 _ _ _
 have e1:decide (((Nat.gcd a.natAbs b.natAbs:Nat):Int)=1)=decide (Nat.gcd a.natAbs b.natAbs=1):=by rw [Bool.eq_iff_iff];simp;omega
 cases h0:decide (b < 1) with
 | true=>simp [f170,D8,trD,I4,z8,p9,o7,A8,C8,j4 hm,j6 hm,l6 hm,l5 hm,D9,o9,u6,u7,J5,xX,h0]
 | false=>
 cases h1:decide (2147483647 < b) with
 | true=>simp [f170,D8,trD,I4,z8,p9,o7,A8,C8,j4 hm,j6 hm,l6 hm,l5 hm,D9,o9,u6,u7,J5,xX,h0,h1]
 | false=>
 cases h2:decide (a < -2147483647) with
 | true=>simp [f170,D8,trD,I4,z8,p9,o7,A8,C8,j4 hm,j6 hm,l6 hm,l5 hm,D9,o9,u6,u7,J5,xX,h0,h1,h2]
 | false=>
 cases h3:decide (2147483647 < a) with
 | true=>simp [f170,D8,trD,I4,z8,p9,o7,A8,C8,j4 hm,j6 hm,l6 hm,l5 hm,D9,o9,u6,u7,J5,xX,h0,h1,h2,h3]
 | false=>
 have g0:¬ b < 1:=by simpa using h0
 have g2:¬ a < -2147483647:=by simpa using h2
 have g3:¬ 2147483647 < a:=by simpa using h3
 have eb:((b.natAbs:Nat):Int)=b:=by omega
 have c1:=La a (by omega) (by omega) n fu
 rw [eb] at c3
 cases h4:decide (Nat.gcd a.natAbs b.natAbs=1) <;> simp [f170,D8,trD,I4,z8,p9,o7,A8,C8,j4 hm,j6 hm,l6 hm,l5 hm,D9,o9,u6,u7,J5,xX,h0,h1,h2,h3,h4,c1,c3,s1,e1]
end Go.Proofs.YtefodipjjofocaaGreatDoor.TT
namespace Go.Proofs.YtefodipjjofocaaGreatDoor.TT
open Go Go.AM
set_option linter.unusedSimpArgs false
set_option linter.unusedVariables false
set_option maxRecDepth 100000
set_option maxHeartbeats 2000000
def Fct.gau (f:Fct):List l8:=[.int .i64 f.gid,.int .i64 f.made,.int .i64 f.nom,.int .i64 f.tlo,.int .i64 f.thi,.int .i64 f.gn,.int .i64 f.gd,.int .i64 f.wear]
def M5 (f:Fct):Bool:=(Ba f.gn f.gd && ((decide (-1000≤f.gn) && decide (f.gn≤1000)) && (decide (f.gd≤100) && ((decide (1≤f.gid) && decide (f.gid≤1099511627776)) && ((decide (0≤f.made) && decide (f.made≤20000)) && ((decide (1≤f.nom) && decide (f.nom≤1125899906842624)) && ((decide (-1073741824≤f.tlo) && decide (f.tlo≤f.thi) && decide (f.thi≤1073741824)) && (decide (0≤f.wear) && decide (f.wear≤1048576)))))))))
theorem Le (f:Fct)(ha:eu f.gn)(hb:eu f.gd)(n fu:Nat)(hfu:1000≤fu)(m:Mem)(hm:m.Ok):∃m',F9 KW fu (n + 3) (.func 258) [.agg f.gau] m=some [⟨.bool (M5 f),m'⟩]∧Ext m m':=by
 rw [enter (sf:=f258) rfl rfl]
 have c1:=Lb f.gn f.gd ha hb n fu hfu (ext m [C9 f.gau]) (J3 hm _)
 have c2:=CZ (n + 1) fu f.tlo f.thi (-1073741824) 1073741824 (ext m [C9 f.gau,C9 [.int .i64 f.gn,.int .i64 f.gd]]) (J3 hm _)
 have e1:decide (100 < f.gd)=!decide (f.gd≤100):=by rw [Bool.eq_iff_iff];simp
 simp only [Fct.gau] at c1 c2
 cases h0:Ba f.gn f.gd with
 | true=>
  cases h1:(decide (-1000≤f.gn) && decide (f.gn≤1000)) with
  | true=>
   cases h2:decide (f.gd≤100) with
   | true=>
    cases h3:(decide (1≤f.gid) && decide (f.gid≤1099511627776)) with
    | true=>
     cases h4:(decide (0≤f.made) && decide (f.made≤20000)) with
     | true=>
      cases h5:(decide (1≤f.nom) && decide (f.nom≤1125899906842624)) with
      | true=>
       cases h6:(decide (-1073741824≤f.tlo) && decide (f.tlo≤f.thi) && decide (f.thi≤1073741824)) with
       | true=>
        cases h7:(decide (0≤f.wear) && decide (f.wear≤1048576)) with
        | true=>
         exact⟨ext m [C9 f.gau,C9 [.int .i64 f.gn,.int .i64 f.gd],C9 [.int .i64 f.tlo,.int .i64 f.thi]],by simp [f258,Fct.gau,D8,trD,I4,z8,p9,o7,A8,C8,j4 hm,j6 hm,l6 hm,l5 hm,D9,o9,u6,u7,J5,c1,c2,e1,O8,U4,M5,h0,h1,h2,h3,h4,h5,h6,h7],F3 hm _⟩
        | false=>exact⟨ext m [C9 f.gau,C9 [.int .i64 f.gn,.int .i64 f.gd],C9 [.int .i64 f.tlo,.int .i64 f.thi]],by simp [f258,Fct.gau,D8,trD,I4,z8,p9,o7,A8,C8,j4 hm,j6 hm,l6 hm,l5 hm,D9,o9,u6,u7,J5,c1,c2,e1,O8,U4,M5,h0,h1,h2,h3,h4,h5,h6,h7],F3 hm _⟩
       | false=>exact⟨ext m [C9 f.gau,C9 [.int .i64 f.gn,.int .i64 f.gd],C9 [.int .i64 f.tlo,.int .i64 f.thi]],by simp [f258,Fct.gau,D8,trD,I4,z8,p9,o7,A8,C8,j4 hm,j6 hm,l6 hm,l5 hm,D9,o9,u6,u7,J5,c1,c2,e1,O8,U4,M5,h0,h1,h2,h3,h4,h5,h6],F3 hm _⟩
      | false=>exact⟨ext m [C9 f.gau,C9 [.int .i64 f.gn,.int .i64 f.gd]],by simp [f258,Fct.gau,D8,trD,I4,z8,p9,o7,A8,C8,j4 hm,j6 hm,l6 hm,l5 hm,D9,o9,u6,u7,J5,c1,c2,e1,O8,U4,M5,h0,h1,h2,h3,h4,h5],F3 hm _⟩
     | false=>exact⟨ext m [C9 f.gau,C9 [.int .i64 f.gn,.int .i64 f.gd]],by simp [f258,Fct.gau,D8,trD,I4,z8,p9,o7,A8,C8,j4 hm,j6 hm,l6 hm,l5 hm,D9,o9,u6,u7,J5,c1,c2,e1,O8,U4,M5,h0,h1,h2,h3,h4],F3 hm _⟩
    | false=>exact⟨ext m [C9 f.gau,C9 [.int .i64 f.gn,.int .i64 f.gd]],by simp [f258,Fct.gau,D8,trD,I4,z8,p9,o7,A8,C8,j4 hm,j6 hm,l6 hm,l5 hm,D9,o9,u6,u7,J5,c1,c2,e1,O8,U4,M5,h0,h1,h2,h3],F3 hm _⟩
   | false=>
    cases h3:(decide (1≤f.gid) && decide (f.gid≤1099511627776)) with
    | true=>
     cases h4:(decide (0≤f.made) && decide (f.made≤20000)) with
     | true=>
      cases h5:(decide (1≤f.nom) && decide (f.nom≤1125899906842624)) with
      | true=>
       cases h6:(decide (-1073741824≤f.tlo) && decide (f.tlo≤f.thi) && decide (f.thi≤1073741824)) with
       | true=>
        exact⟨ext m [C9 f.gau,C9 [.int .i64 f.gn,.int .i64 f.gd],C9 [.int .i64 f.tlo,.int .i64 f.thi]],by simp [f258,Fct.gau,D8,trD,I4,z8,p9,o7,A8,C8,j4 hm,j6 hm,l6 hm,l5 hm,D9,o9,u6,u7,J5,c1,c2,e1,O8,U4,M5,h0,h1,h2,h3,h4,h5,h6],F3 hm _⟩
       | false=>exact⟨ext m [C9 f.gau,C9 [.int .i64 f.gn,.int .i64 f.gd],C9 [.int .i64 f.tlo,.int .i64 f.thi]],by simp [f258,Fct.gau,D8,trD,I4,z8,p9,o7,A8,C8,j4 hm,j6 hm,l6 hm,l5 hm,D9,o9,u6,u7,J5,c1,c2,e1,O8,U4,M5,h0,h1,h2,h3,h4,h5,h6],F3 hm _⟩
      | false=>exact⟨ext m [C9 f.gau,C9 [.int .i64 f.gn,.int .i64 f.gd]],by simp [f258,Fct.gau,D8,trD,I4,z8,p9,o7,A8,C8,j4 hm,j6 hm,l6 hm,l5 hm,D9,o9,u6,u7,J5,c1,c2,e1,O8,U4,M5,h0,h1,h2,h3,h4,h5],F3 hm _⟩
     | false=>exact⟨ext m [C9 f.gau,C9 [.int .i64 f.gn,.int .i64 f.gd]],by simp [f258,Fct.gau,D8,trD,I4,z8,p9,o7,A8,C8,j4 hm,j6 hm,l6 hm,l5 hm,D9,o9,u6,u7,J5,c1,c2,e1,O8,U4,M5,h0,h1,h2,h3,h4],F3 hm _⟩
    | false=>exact⟨ext m [C9 f.gau,C9 [.int .i64 f.gn,.int .i64 f.gd]],by simp [f258,Fct.gau,D8,trD,I4,z8,p9,o7,A8,C8,j4 hm,j6 hm,l6 hm,l5 hm,D9,o9,u6,u7,J5,c1,c2,e1,O8,U4,M5,h0,h1,h2,h3],F3 hm _⟩
  | false=>
   cases h3:(decide (1≤f.gid) && decide (f.gid≤1099511627776)) with
   | true=>
    cases h4:(decide (0≤f.made) && decide (f.made≤20000)) with
    | true=>
     cases h5:(decide (1≤f.nom) && decide (f.nom≤1125899906842624)) with
     | true=>
      cases h6:(decide (-1073741824≤f.tlo) && decide (f.tlo≤f.thi) && decide (f.thi≤1073741824)) with
      | true=>
       exact⟨ext m [C9 f.gau,C9 [.int .i64 f.gn,.int .i64 f.gd],C9 [.int .i64 f.tlo,.int .i64 f.thi]],by simp [f258,Fct.gau,D8,trD,I4,z8,p9,o7,A8,C8,j4 hm,j6 hm,l6 hm,l5 hm,D9,o9,u6,u7,J5,c1,c2,e1,O8,U4,M5,h0,h1,h3,h4,h5,h6],F3 hm _⟩
      | false=>exact⟨ext m [C9 f.gau,C9 [.int .i64 f.gn,.int .i64 f.gd],C9 [.int .i64 f.tlo,.int .i64 f.thi]],by simp [f258,Fct.gau,D8,trD,I4,z8,p9,o7,A8,C8,j4 hm,j6 hm,l6 hm,l5 hm,D9,o9,u6,u7,J5,c1,c2,e1,O8,U4,M5,h0,h1,h3,h4,h5,h6],F3 hm _⟩
     | false=>exact⟨ext m [C9 f.gau,C9 [.int .i64 f.gn,.int .i64 f.gd]],by simp [f258,Fct.gau,D8,trD,I4,z8,p9,o7,A8,C8,j4 hm,j6 hm,l6 hm,l5 hm,D9,o9,u6,u7,J5,c1,c2,e1,O8,U4,M5,h0,h1,h3,h4,h5],F3 hm _⟩
    | false=>exact⟨ext m [C9 f.gau,C9 [.int .i64 f.gn,.int .i64 f.gd]],by simp [f258,Fct.gau,D8,trD,I4,z8,p9,o7,A8,C8,j4 hm,j6 hm,l6 hm,l5 hm,D9,o9,u6,u7,J5,c1,c2,e1,O8,U4,M5,h0,h1,h3,h4],F3 hm _⟩
   | false=>exact⟨ext m [C9 f.gau,C9 [.int .i64 f.gn,.int .i64 f.gd]],by simp [f258,Fct.gau,D8,trD,I4,z8,p9,o7,A8,C8,j4 hm,j6 hm,l6 hm,l5 hm,D9,o9,u6,u7,J5,c1,c2,e1,O8,U4,M5,h0,h1,h3],F3 hm _⟩
 | false=>
  cases h3:(decide (1≤f.gid) && decide (f.gid≤1099511627776)) with
  | true=>
   cases h4:(decide (0≤f.made) && decide (f.made≤20000)) with
   | true=>
    cases h5:(decide (1≤f.nom) && decide (f.nom≤1125899906842624)) with
    | true=>
     cases h6:(decide (-1073741824≤f.tlo) && decide (f.tlo≤f.thi) && decide (f.thi≤1073741824)) with
     | true=>
      exact⟨ext m [C9 f.gau,C9 [.int .i64 f.gn,.int .i64 f.gd],C9 [.int .i64 f.tlo,.int .i64 f.thi]],by simp [f258,Fct.gau,D8,trD,I4,z8,p9,o7,A8,C8,j4 hm,j6 hm,l6 hm,l5 hm,D9,o9,u6,u7,J5,c1,c2,e1,O8,U4,M5,h0,h3,h4,h5,h6],F3 hm _⟩
     | false=>exact⟨ext m [C9 f.gau,C9 [.int .i64 f.gn,.int .i64 f.gd],C9 [.int .i64 f.tlo,.int .i64 f.thi]],by simp [f258,Fct.gau,D8,trD,I4,z8,p9,o7,A8,C8,j4 hm,j6 hm,l6 hm,l5 hm,D9,o9,u6,u7,J5,c1,c2,e1,O8,U4,M5,h0,h3,h4,h5,h6],F3 hm _⟩
    | false=>exact⟨ext m [C9 f.gau,C9 [.int .i64 f.gn,.int .i64 f.gd]],by simp [f258,Fct.gau,D8,trD,I4,z8,p9,o7,A8,C8,j4 hm,j6 hm,l6 hm,l5 hm,D9,o9,u6,u7,J5,c1,c2,e1,O8,U4,M5,h0,h3,h4,h5],F3 hm _⟩
   | false=>exact⟨ext m [C9 f.gau,C9 [.int .i64 f.gn,.int .i64 f.gd]],by simp [f258,Fct.gau,D8,trD,I4,z8,p9,o7,A8,C8,j4 hm,j6 hm,l6 hm,l5 hm,D9,o9,u6,u7,J5,c1,c2,e1,O8,U4,M5,h0,h3,h4],F3 hm _⟩
  | false=>exact⟨ext m [C9 f.gau,C9 [.int .i64 f.gn,.int .i64 f.gd]],by simp [f258,Fct.gau,D8,trD,I4,z8,p9,o7,A8,C8,j4 hm,j6 hm,l6 hm,l5 hm,D9,o9,u6,u7,J5,c1,c2,e1,O8,U4,M5,h0,h3],F3 hm _⟩
theorem UJ (f:Fct)(ha:eu f.gn)(hb:eu f.gd)(n fu:Nat)(hfu:1000≤fu)(m:Mem)(hm:m.Ok):∃m',F9 KW fu (n + 3) (.func 99) [.agg f.gau] m=some [⟨.bool (M5 f),m'⟩]∧Ext m m':=by
 rw [enter (sf:=f99) rfl rfl]
 have c1:=Ld f.gn f.gd ha hb n fu hfu (ext m [C9 f.gau]) (J3 hm _)
 have c2:=Iu (n + 1) fu f.tlo f.thi (-1073741824) 1073741824 (ext m [C9 f.gau,C9 [.int .i64 f.gn,.int .i64 f.gd]]) (J3 hm _)
 have e1:decide (100 < f.gd)=!decide (f.gd≤100):=by rw [Bool.eq_iff_iff];simp
 simp only [Fct.gau] at c1 c2
 cases h0:Ba f.gn f.gd with
 | true=>
  cases h1:(decide (-1000≤f.gn) && decide (f.gn≤1000)) with
  | true=>
   cases h2:decide (f.gd≤100) with
   | true=>
    cases h3:(decide (1≤f.gid) && decide (f.gid≤1099511627776)) with
    | true=>
     cases h4:(decide (0≤f.made) && decide (f.made≤20000)) with
     | true=>
      cases h5:(decide (1≤f.nom) && decide (f.nom≤1125899906842624)) with
      | true=>
       cases h6:(decide (-1073741824≤f.tlo) && decide (f.tlo≤f.thi) && decide (f.thi≤1073741824)) with
       | true=>
        cases h7:(decide (0≤f.wear) && decide (f.wear≤1048576)) with
        | true=>
         exact⟨ext m [C9 f.gau,C9 [.int .i64 f.gn,.int .i64 f.gd],C9 [.int .i64 f.tlo,.int .i64 f.thi]],by simp [f99,Fct.gau,D8,trD,I4,z8,p9,o7,A8,C8,j4 hm,j6 hm,l6 hm,l5 hm,D9,o9,u6,u7,J5,c1,c2,e1,aQ,aV,M5,h0,h1,h2,h3,h4,h5,h6,h7],F3 hm _⟩
        | false=>exact⟨ext m [C9 f.gau,C9 [.int .i64 f.gn,.int .i64 f.gd],C9 [.int .i64 f.tlo,.int .i64 f.thi]],by simp [f99,Fct.gau,D8,trD,I4,z8,p9,o7,A8,C8,j4 hm,j6 hm,l6 hm,l5 hm,D9,o9,u6,u7,J5,c1,c2,e1,aQ,aV,M5,h0,h1,h2,h3,h4,h5,h6,h7],F3 hm _⟩
       | false=>exact⟨ext m [C9 f.gau,C9 [.int .i64 f.gn,.int .i64 f.gd],C9 [.int .i64 f.tlo,.int .i64 f.thi]],by simp [f99,Fct.gau,D8,trD,I4,z8,p9,o7,A8,C8,j4 hm,j6 hm,l6 hm,l5 hm,D9,o9,u6,u7,J5,c1,c2,e1,aQ,aV,M5,h0,h1,h2,h3,h4,h5,h6],F3 hm _⟩
      | false=>exact⟨ext m [C9 f.gau,C9 [.int .i64 f.gn,.int .i64 f.gd]],by simp [f99,Fct.gau,D8,trD,I4,z8,p9,o7,A8,C8,j4 hm,j6 hm,l6 hm,l5 hm,D9,o9,u6,u7,J5,c1,c2,e1,aQ,aV,M5,h0,h1,h2,h3,h4,h5],F3 hm _⟩
     | false=>exact⟨ext m [C9 f.gau,C9 [.int .i64 f.gn,.int .i64 f.gd]],by simp [f99,Fct.gau,D8,trD,I4,z8,p9,o7,A8,C8,j4 hm,j6 hm,l6 hm,l5 hm,D9,o9,u6,u7,J5,c1,c2,e1,aQ,aV,M5,h0,h1,h2,h3,h4],F3 hm _⟩
    | false=>exact⟨ext m [C9 f.gau,C9 [.int .i64 f.gn,.int .i64 f.gd]],by simp [f99,Fct.gau,D8,trD,I4,z8,p9,o7,A8,C8,j4 hm,j6 hm,l6 hm,l5 hm,D9,o9,u6,u7,J5,c1,c2,e1,aQ,aV,M5,h0,h1,h2,h3],F3 hm _⟩
   | false=>exact⟨ext m [C9 f.gau,C9 [.int .i64 f.gn,.int .i64 f.gd]],by simp [f99,Fct.gau,D8,trD,I4,z8,p9,o7,A8,C8,j4 hm,j6 hm,l6 hm,l5 hm,D9,o9,u6,u7,J5,c1,c2,e1,aQ,aV,M5,h0,h1,h2],F3 hm _⟩
  | false=>exact⟨ext m [C9 f.gau,C9 [.int .i64 f.gn,.int .i64 f.gd]],by simp [f99,Fct.gau,D8,trD,I4,z8,p9,o7,A8,C8,j4 hm,j6 hm,l6 hm,l5 hm,D9,o9,u6,u7,J5,c1,c2,e1,aQ,aV,M5,h0,h1],F3 hm _⟩
 | false=>exact⟨ext m [C9 f.gau,C9 [.int .i64 f.gn,.int .i64 f.gd]],by simp [f99,Fct.gau,D8,trD,I4,z8,p9,o7,A8,C8,j4 hm,j6 hm,l6 hm,l5 hm,D9,o9,u6,u7,J5,c1,c2,e1,aQ,aV,M5,h0],F3 hm _⟩
end Go.Proofs.YtefodipjjofocaaGreatDoor.TT
namespace Go.Proofs.YtefodipjjofocaaGreatDoor.TT
open Go Go.AM
set_option linter.unusedSimpArgs false
set_option linter.unusedVariables false
set_option maxRecDepth 100000
set_option maxHeartbeats 2000000
def J7 (id:Nat):List l8:=[.int .i64 0,.int .i64 0,.slice id 0 1 1,.nilSlice,.nilSlice,.nilSlice,.nilSlice]
@[simp] theorem agY (f:Fct):f.gau.length=8:=id rfl
@[simp] theorem auT (f:Fct):f.gau.take 8=f.gau:=id rfl
@[simp] theorem auU (f:Fct)(h:0 < f.gau.length):f.gau[0]'h=.int .i64 f.gid:=id rfl
@[simp] theorem auV (f:Fct)(h:1 < f.gau.length):f.gau[1]'h=.int .i64 f.made:=id rfl
@[simp] theorem agZ (f:Fct):ah f.gau=true:=id rfl
@[simp] theorem UK (f:Fct):[l8.int .i64 f.gid,.int .i64 f.made,.int .i64 f.nom,.int .i64 f.tlo,.int .i64 f.thi,.int .i64 f.gn,.int .i64 f.gd,.int .i64 f.wear]=f.gau:=id rfl
theorem Lf (f:Fct)(ha:eu f.gn)(hb:eu f.gd)(n fu:Nat)(hfu:1000≤fu)(m:Mem)(hm:m.Ok)(hl:m.lim≤m.next)(id:Nat)(hid:id < m.next)(hg:m.get id=some (C9 f.gau)):
  ∃m',F9 KW fu (n + 4) (.func 162) [.agg (J7 id)] m=some [⟨.int .i64 (bif M5 f then 0 else 1),m'⟩]∧Ext m m':=by
 rw [enter (sf:=f162) rfl rfl]
 obtain⟨N,rfl⟩:∃N,fu=N + 2:=⟨fu - 2,by omega⟩
 have hg1:(ext m [C9 (J7 id)]).get id=some (C9 f.gau):=by rw [F6 hm _ hid];exact hg
 have hz:C9 [l8.int .i64 0,.int .i64 0,.int .i64 0,.int .i64 0,.int .i64 0,.int .i64 0,.int .i64 0,.int .i64 0]=C9 [l8.int .i64 0,.int .i64 0,.int .i64 0,.int .i64 0,.int .i64 0,.int .i64 0,.int .i64 0,.int .i64 0]:=rfl
 obtain⟨m1,g1,E1⟩:=Le f ha hb n (N + 2) hfu (ext m [C9 (J7 id),C9 f.gau]) (J3 hm _)
 refine⟨m1,?_,(F3 hm _).trans E1⟩
 simp only [J7] at hg1 g1 ⊢
 cases hgb:M5 f <;> rw [hgb] at g1
 ·simp [f162,CX,G7,D8,trD,I4,z8,p9,o7,A8,C8,j4 hm,j6 hm,F5 hm hl,w9 hm hl,l6 hm,l5 hm,D9,o9,u6,u7,J5,hg1,g1]
 ·simp [f162,CX,G7,D8,trD,I4,z8,p9,o7,A8,C8,j4 hm,j6 hm,F5 hm hl,w9 hm hl,l6 hm,l5 hm,D9,o9,u6,u7,J5,hg1,g1,show w64 1=1 from eX (by decide) (by decide)]
theorem Lg (f:Fct)(n fu:Nat)(hfu:1000≤fu)(m:Mem)(hm:m.Ok)(hl:m.lim≤m.next)(id:Nat)(hid:id < m.next)(hg:m.get id=some (C9 f.gau)):
  ∃p m',F9 KW fu (n + 1) (.func 163) [.agg (J7 id)] m=some [⟨.map p,m'⟩]∧Ext m m':=by
 rw [enter (sf:=f163) rfl rfl]
 obtain⟨N,rfl⟩:∃N,fu=N + 2:=⟨fu - 2,by omega⟩
 have hbl:∀c,Nat.blt (m.next + c) m.lim=false:=fun c=>by have:=CR hl [] c;rwa [dY] at this
 have hg1:(ext m [C9 (J7 id),.map []]).get id=some (C9 f.gau):=by rw [F6 hm _ hid];exact hg
 refine⟨m.next + 1,ext m [C9 (J7 id),.map [(.int .i64 f.gid,.agg f.gau)],C9 f.gau],?_,F3 hm _⟩
 simp only [J7] at hg1 ⊢
 simp [f163,Ic,G7,D8,trD,I4,z8,p9,o7,A8,C8,j4 hm,j6 hm,F5 hm hl,w9 hm hl,l6 hm,l5 hm,D9,o9,u6,u7,J5,hg1,jG,hbl,tO,nE,U1,show w64 1=1 from eX (by decide) (by decide)]
theorem Lh (n fu:Nat)(m:Mem)(hm:m.Ok)(hl:m.lim≤m.next)(id p:Nat):
  F9 KW fu (n + 1) (.func 164) [.agg (J7 id),.map p] m=some [⟨.func (.func 262) [] [.ptr m.next 0,.ptr (m.next + 2) 0,.ptr (m.next + 1) 0],ext m [C9 (J7 id),C9 [.map p],C9 [.func (.func 259) [] [.ptr (m.next + 1) 0]]]⟩]:=by
 rw [enter (sf:=f164) rfl rfl]
 simp only [J7]
 simp [f164,D8,trD,I4,z8,p9,o7,A8,C8,j4 hm,j6 hm,F5 hm hl,w9 hm hl,l6 hm,l5 hm,D9,o9,u6,u7,J5]
theorem Li (n fu:Nat)(hfu:1000≤fu)(m:Mem)(id p q r:Nat)(y:l8)(hp:m.get p=some (C9 (J7 id))):
  F9 KW fu (n + 1) (.func 262) [y,.ptr p 0,.ptr q 0,.ptr r 0] m=some [⟨.tuple [],m⟩]:=by
 rw [enter (sf:=f262) rfl rfl]
 obtain⟨N,rfl⟩:∃N,fu=N + 2:=⟨fu - 2,by omega⟩
 simp only [J7] at hp
 simp [f262,Ii,Ij,Ik,Il,G7,D8,trD,I4,z8,p9,o7,hp]
end Go.Proofs.YtefodipjjofocaaGreatDoor.TT
namespace Go.Proofs.YtefodipjjofocaaGreatDoor.TT
open Go Go.AM
set_option linter.unusedSimpArgs false
set_option linter.unusedVariables false
set_option maxRecDepth 100000
set_option maxHeartbeats 2000000
theorem UL (n fu:Nat)(m:Mem):F9 KW fu (n + 1) (.func 237) [.int .u64 1] m=some [⟨.int .i64 1,m⟩]:=by
 rw [enter (sf:=f237) rfl rfl]
 have h1:jH .u8 1=1:=by decide +kernel
 have h2:jH .i64 1=1:=by decide +kernel
 have h3:w64 1=1:=eX (by decide) (by decide)
 have hs:∀(x:OF) (env:T l8) ls,x ls env=.int .u8 1→zV (M0 (.str [0,1,2,2,3,3,3,3,4,4,4,4,4,4,4,4,5,5,5,5,5,5,5,5,5,5,5,5,5,5,5,5,6,6,6,6,6,6,6,6,6,6,6,6,6,6,6,6,6,6,6,6,6,6,6,6,6,6,6,6,6,6,6,6,7,7,7,7,7,7,7,7,7,7,7,7,7,7,7,7,7,7,7,7,7,7,7,7,7,7,7,7,7,7,7,7,7,7,7,7,7,7,7,7,7,7,7,7,7,7,7,7,7,7,7,7,7,7,7,7,7,7,7,7,7,7,7,7,8,8,8,8,8,8,8,8,8,8,8,8,8,8,8,8,8,8,8,8,8,8,8,8,8,8,8,8,8,8,8,8,8,8,8,8,8,8,8,8,8,8,8,8,8,8,8,8,8,8,8,8,8,8,8,8,8,8,8,8,8,8,8,8,8,8,8,8,8,8,8,8,8,8,8,8,8,8,8,8,8,8,8,8,8,8,8,8,8,8,8,8,8,8,8,8,8,8,8,8,8,8,8,8,8,8,8,8,8,8,8,8,8,8,8,8,8,8,8,8,8,8,8,8,8,8,8,8])) x ls env=some (.int .u8 1):=by
  intro x env ls hx
  show nI (x ls env) _=_
  rw [hx];rfl
 simp [f237,D8,trD,I4,z8,p9,o7,h1,h2,h3,hs]
theorem UM (n fu:Nat)(m:Mem):F9 KW fu (n + 2) (.func 155) [.int .u64 1] m=some [⟨.int .i64 1,m⟩]:=by
 rw [enter (sf:=f155) rfl rfl]
 simp [f155,D8,trD,I4,z8,p9,o7,UL]
theorem UN (v:l8)(n fu:Nat)(hfu:1000≤fu)(m:Mem):F9 KW fu (n + 1) (.func 350) [v,.int .i64 0,.int .i64 1] m=some [⟨.tuple [],m⟩]:=by
 rw [enter (sf:=abP) rfl rfl]
 obtain⟨N,rfl⟩:∃N,fu=N + 2:=⟨fu - 2,by omega⟩
 simp [abP,Iq,G7,D8,trD,I4,z8,p9,o7,show w64 1=1 from eX (by decide) (by decide)]
theorem UO (v:l8)(n fu:Nat)(hfu:1000≤fu)(m:Mem):F9 KW fu (n + 2) (.func 291) [v,.int .i64 0,.int .i64 1,.int .i64 1] m=some [⟨.tuple [],m⟩]:=by
 rw [enter (sf:=f291) rfl rfl]
 obtain⟨N,rfl⟩:∃N,fu=N + 2:=⟨fu - 2,by omega⟩
 have c:=UN v n (N + 2) hfu m
 simp [f291,Ip,G7,D8,trD,I4,z8,p9,o7,show w64 1=1 from eX (by decide) (by decide),c]
theorem UQ (id c:Nat)(n fu:Nat)(hfu:1000≤fu)(m:Mem):F9 KW fu (n + 3) (.func 191) [.slice id 0 1 c] m=some [⟨.tuple [],m⟩]:=by
 rw [enter (sf:=f191) rfl rfl]
 have c1:=UO (.slice id 0 1 c) n fu hfu m
 have h1:jH .u64 1=1:=by decide +kernel
 simp [f191,D8,trD,I4,z8,p9,o7,h1,UM,c1]
theorem UR (id c:Nat)(n fu:Nat)(hfu:1000≤fu)(m:Mem):F9 KW fu (n + 1) (.func 332) [.slice id 0 1 c] m=some [⟨.slice id 0 1 c,m⟩]:=by
 rw [enter (sf:=f332) rfl rfl]
 simp [f332,D8,trD,I4,z8,p9,o7]
theorem Lj (f:Fct)(n fu:Nat)(hfu:1000≤fu)(m:Mem)(hm:m.Ok)(hl:m.lim≤m.next)(id:Nat):
  F9 KW fu (n + 4) (.func 265) [.agg (J7 id),.agg f.gau] m=some [⟨.slice (m.next + 2) 0 1 1,ext m [C9 (J7 id),C9 f.gau,C9 [.int .i64 f.made]]⟩]:=by
 rw [enter (sf:=f265) rfl rfl]
 obtain⟨N,rfl⟩:∃N,fu=N + 2:=⟨fu - 2,by omega⟩
 simp only [J7]
 simp [f265,Im,Io,G7,D8,trD,I4,z8,p9,o7,A8,C8,j4 hm,j6 hm,F5 hm hl,w9 hm hl,l6 hm,l5 hm,D9,o9,u6,u7,J5,aB,UQ _ _ n (N + 2) hfu,UR _ _ (n + 2) (N + 2) hfu]
theorem Ll (a b:l8)(m:Mem)(hm:m.Ok)(id:Nat)(hg:m.get id=some (C9 [a,b])):R8 m 2 1 (.slice id 0 1 1)=some [a,b]:=by
 show R6 m id 0 (Nat.mul 1 2)=_
 show X5 (m.get id) (fun rs k rows=>U5 rs k rows 2 0)=_
 rw [hg];kernel_rfl
theorem zQ (a b:l8)(m:Mem)(hm:m.Ok)(id:Nat)(hg:m.get id=some (C9 [a,b]))(s x:OF)(cf:K7)(ls:List l8)(env:T l8)(hs:s ls env=.nilSlice)(hx:x ls env=.slice id 0 1 1):
  eF 2 16 s x cf ls env m=some [⟨.sliceU m.next 0 1 2,m.new (C9 [a,b])⟩]:=by
 show ob (lenOf (x ls env)) (fun n=>ob (R8 m 2 n (x ls env)) fun new=>qb m 2 16 n new (s ls env))=_
 rw [hx,hs]
 show ob (R8 m 2 1 (.slice id 0 1 1)) _=_
 rw [Ll a b m hm id hg]
 rfl
theorem Lm (f:Fct)(n fu:Nat)(hfu:1000≤fu)(m:Mem)(hm:m.Ok)(hl:m.lim≤m.next)(id:Nat)(hid:id < m.next)(hg:m.get id=some (C9 f.gau)):
  ∃p m',F9 KW fu (n + 5) (.func 165) [.agg (J7 id)] m=some [⟨.sliceU p 0 1 2,m'⟩]∧Ext m m':=by
 rw [enter (sf:=f165) rfl rfl]
 obtain⟨N,rfl⟩:∃N,fu=N + 2:=⟨fu - 2,by omega⟩
 have hg1:(ext m [C9 (J7 id)]).get id=some (C9 f.gau):=by rw [F6 hm _ hid];exact hg
 have c1:=Lj f n (N + 2) hfu (ext m [C9 (J7 id),C9 f.gau]) (J3 hm _) (by simp;omega) id
 have c2:∀(s x:OF) cf ls env,s ls env=.nilSlice→x ls env=.slice (m.next + 5) 0 1 1→
   eF 2 16 s x cf ls env (ext m [C9 (J7 id),C9 f.gau,C9 (J7 id),C9 f.gau,C9 [.int .i64 f.made],C9 [.int .i64 f.gid,.int .i64 f.made]]) =
    some [⟨.sliceU (m.next + 6) 0 1 2,ext m [C9 (J7 id),C9 f.gau,C9 (J7 id),C9 f.gau,C9 [.int .i64 f.made],C9 [.int .i64 f.gid,.int .i64 f.made],C9 [.int .i64 f.gid,.int .i64 f.made]]⟩]:=by
  intro s x cf ls env hs hx
  rw [zQ (.int .i64 f.gid) (.int .i64 f.made) _ (J3 hm _) (m.next + 5) (by rw [j6 hm];rfl) s x cf ls env hs hx,← aH]
  simp
 refine⟨m.next + 6,ext m [C9 (J7 id),C9 f.gau,C9 (J7 id),C9 f.gau,C9 [.int .i64 f.made],C9 [.int .i64 f.gid,.int .i64 f.made],C9 [.int .i64 f.gid,.int .i64 f.made]],?_,F3 hm _⟩
 simp only [J7] at hg1 c1 c2 ⊢
 simp [f165,Ie,Ig,G7,D8,trD,I4,z8,p9,o7,A8,C8,j4 hm,j6 hm,F5 hm hl,w9 hm hl,l6 hm,l5 hm,D9,o9,u6,u7,J5,aB,Nat.add_assoc,hg1,c1,c2,show w64 1=1 from eX (by decide) (by decide)]
end Go.Proofs.YtefodipjjofocaaGreatDoor.TT
namespace Go.Proofs.YtefodipjjofocaaGreatDoor.TT
open Go Go.AM
set_option linter.unusedSimpArgs false
set_option linter.unusedVariables false
set_option maxRecDepth 100000
set_option maxHeartbeats 2000000
theorem UU (f:Fct)(ha:eu f.gn)(hb:eu f.gd)(n fu:Nat)(hfu:1000≤fu)(m:Mem)(hm:m.Ok)(hl:m.lim≤m.next)(id:Nat)(hid:id < m.next)(hg:m.get id=some (C9 f.gau)):
  ∃m',F9 KW fu (n + 8) (.func 92) [.agg (J7 id)] m=some [⟨.int .i64 (bif M5 f then 0 else 1),m'⟩]∧Ext m m':=by
 rw [enter (sf:=f92) rfl rfl]
 have c161:=CZ (n + 6) fu 0 0 0 1000000 (ext m [C9 (J7 id),C9 [.int .i64 0]]) (J3 hm _)
 have hg2:(ext m [C9 (J7 id),C9 [.int .i64 0],C9 [.int .i64 0,.int .i64 0]]).get id=some (C9 f.gau):=by rw [F6 hm _ hid];exact hg
 have E2:=F3 hm [C9 (J7 id),C9 [.int .i64 0],C9 [.int .i64 0,.int .i64 0]]
 obtain⟨m3,g3,E3⟩:=Lf f ha hb (n + 3) fu hfu _ (J3 hm [C9 (J7 id),C9 [.int .i64 0],C9 [.int .i64 0,.int .i64 0]]) (by simp;omega) id (by simp;omega) hg2
 have q3a:m3.get m.next=some (C9 (J7 id)):=by rw [E3.old _ (by simp),j4 hm];rfl
 have q3b:m3.get (m.next + 1)=some (C9 [.int .i64 0]):=by rw [E3.old _ (by simp),j6 hm];rfl
 have E23:=E2.trans E3
 have l3:m3.lim≤m.next:=by rw [E23.lim];exact hl
 have n3:m.next + 3≤m3.next:=by have:=E3.next;simpa using this
 have k3:m3.Ok:=E3.ok
 cases hgb:M5 f with
 | false=>
  rw [hgb] at g3
  refine⟨m3.set (m.next + 1) (C9 [.int .i64 1]),?_,E23.set (by omega) (by omega) _⟩
  have r1:(m3.set (m.next + 1) (C9 [.int .i64 1])).get (m.next + 1)=some (C9 [.int .i64 1]):=P9 k3 _ (by omega) rfl
  simp only [J7] at c161 g3 q3a ⊢
  simp [f92,D8,trD,I4,z8,p9,o7,A8,C8,j4 hm,j6 hm,F5 hm hl,w9 hm hl,l6 hm,l5 hm,D9,o9,u6,u7,J5,c161,g3,q3a,q3b,rG (show m3.lim≤m.next + 1 by omega),r1]
 | true=>
  rw [hgb] at g3
  have hg3:m3.get id=some (C9 f.gau):=by rw [E3.old _ (by simp;omega)];exact hg2
  obtain⟨p,m4,g4,E4⟩:=Lg f (n + 6) fu hfu m3 k3 (by omega) id (by omega) hg3
  have k4:m4.Ok:=E4.ok
  have l4:m4.lim≤m.next:=by rw [E4.lim];exact l3
  have n4:m3.next≤m4.next:=E4.next
  have q4a:m4.get m.next=some (C9 (J7 id)):=by rw [E4.old _ (by omega)];exact q3a
  have q4b:m4.get (m.next + 1)=some (C9 [.int .i64 0]):=by rw [E4.old _ (by omega)];exact q3b
  have g5:=Lh (n + 6) fu m4 k4 (by omega) id p
  have g6:∀y st pend env ps asg bd,F9 KW fu (n + 7) (.func 262) [y,.ptr m4.next 0,.ptr (m4.next + 2) 0,.ptr (m4.next + 1) 0] (ext m4 [C9 (J7 id),C9 [.map p],C9 [.func (.func 259) [] [.ptr (m4.next + 1) 0]],.deferred,.loop st pend env ps asg bd])=some [⟨.tuple [],ext m4 [C9 (J7 id),C9 [.map p],C9 [.func (.func 259) [] [.ptr (m4.next + 1) 0]],.deferred,.loop st pend env ps asg bd]⟩]:=fun y st pend env ps asg bd=>
   Li (n + 6) fu hfu _ id _ _ _ y (by rw [j4 k4];rfl)
  have E6:=F3 k4 [C9 (J7 id),C9 [.map p],C9 [.func (.func 259) [] [.ptr (m4.next + 1) 0]],.deferred,.dead]
  have q6a:(ext m4 [C9 (J7 id),C9 [.map p],C9 [.func (.func 259) [] [.ptr (m4.next + 1) 0]],.deferred,.dead]).get m.next=some (C9 (J7 id)):=by rw [E6.old _ (by omega)];exact q4a
  obtain⟨q,m7,g7,E7⟩:=Lm f (n + 2) fu hfu _ (J3 k4 [C9 (J7 id),C9 [.map p],C9 [.func (.func 259) [] [.ptr (m4.next + 1) 0]],.deferred,.dead]) (by simp;omega) id (by simp;omega)
   (by rw [F6 k4 _ (by omega),E4.old _ (by omega)];exact hg3)
  have E47:=E6.trans E7
  have k7:m7.Ok:=E7.ok
  have n7:m4.next + 5≤m7.next:=by have:=E7.next;simpa using this
  have l7:m7.lim≤m.next:=by rw [E47.lim];exact l4
  have q7a:m7.get m.next=some (C9 (J7 id)):=by rw [E47.old _ (by omega)];exact q4a
  have q7b:m7.get (m.next + 1)=some (C9 [.int .i64 0]):=by rw [E47.old _ (by omega)];exact q4b
  have q7c:m7.get (m4.next + 3)=some .deferred:=by rw [E7.old _ (by simp),j6 k4];rfl
  have E07:=(E23.trans E4).trans E47
  refine⟨(m7.set (m.next + 1) (C9 [.int .i64 0])).set (m4.next + 3) .dead,?_,(E07.set (by omega) (by omega) _).set (by simp;omega) (by omega) _⟩
  have k8:(m7.set (m.next + 1) (C9 [.int .i64 0])).Ok:=k7.set (by omega) _
  have r0:(m7.set (m.next + 1) (C9 [.int .i64 0])).get (m4.next + 3)=some .deferred:=by rw [Z8 k7 _ (by omega) (by omega)];exact q7c
  have r1:((m7.set (m.next + 1) (C9 [.int .i64 0])).set (m4.next + 3) .dead).get (m.next + 1)=some (C9 [.int .i64 0]):=by
   rw [Z8 k8 _ (by simp;omega) (by omega)]
   exact P9 k7 _ (by omega) rfl
  simp only [J7] at c161 g3 q3a g4 q4a q6a g5 g6 g7 q7a ⊢
  simp [f92,D8,trD,I4,z8,p9,o7,A8,C8,j4 hm,j6 hm,F5 hm hl,w9 hm hl,l6 hm,l5 hm,D9,o9,u6,u7,J5,j4 k4,j6 k4,l6 k4,c161,g3,q3a,q3b,g4,q4a,q6a,g5,g6,g7,q7a,q7b,rG (show m7.lim≤m.next + 1 by omega),Kv,r0,r1,
   show w64 2=2 from eX (by decide) (by decide),show w64 0=0 from eX (by decide) (by decide)]
theorem Lr {m:Mem}{f:Fct}(ha:eu f.gn)(hb:eu f.gd)(hm:m.Ok)(hl:m.lim≤m.next)(n fu:Nat)(hfu:1000≤fu):
  ∃m',F9 KW fu (n + 9) (.func 138) [.agg f.cells] m=some [⟨.bool (M5 f),m'⟩]∧Ext m m':=by
 rw [enter (sf:=f138) rfl rfl]
 obtain⟨m1,g1,E1⟩:=UU f ha hb n fu hfu (ext m [C9 f.cells,C9 f.gau]) (J3 hm _) (by simp;omega) (m.next + 1) (by simp) (by rw [j6 hm];rfl)
 refine⟨m1,?_,(F3 hm _).trans E1⟩
 simp only [J7] at g1
 cases hgb:M5 f <;> rw [hgb] at g1 <;> simp [f138,D8,trD,I4,z8,p9,o7,A8,C8,j4 hm,j6 hm,F5 hm hl,w9 hm hl,l6 hm,l5 hm,D9,o9,u6,u7,J5,aB,g1]
end Go.Proofs.YtefodipjjofocaaGreatDoor.TT
namespace Go.Proofs.YtefodipjjofocaaGreatDoor.TT
open Go Go.AM
set_option linter.unusedSimpArgs false
set_option linter.unusedVariables false
set_option maxRecDepth 100000
set_option maxHeartbeats 2000000
theorem Ls (n fu:Nat)(hfu:1000≤fu)(m:Mem)(hm:m.Ok)(hl:m.lim≤m.next)(id:Nat):
  F9 KW fu (n + 1) (.func 100) [.agg (J7 id)] m=some [⟨.int .i64 0,ext m [C9 (J7 id)]⟩]:=by
 rw [enter (sf:=f100) rfl rfl]
 obtain⟨N,rfl⟩:∃N,fu=N + 2:=⟨fu - 2,by omega⟩
 simp only [J7]
 simp [f100,Hr,G7,D8,trD,I4,z8,p9,o7,A8,C8,j4 hm,j6 hm,F5 hm hl,w9 hm hl,l6 hm,l5 hm,D9,o9,u6,u7,J5]
theorem Lu (n fu:Nat)(hfu:1000≤fu)(m:Mem)(hm:m.Ok)(hl:m.lim≤m.next)(id:Nat):
  F9 KW fu (n + 1) (.func 101) [.agg (J7 id)] m=some [⟨.int .i64 0,ext m [C9 (J7 id)]⟩]:=by
 rw [enter (sf:=f101) rfl rfl]
 obtain⟨N,rfl⟩:∃N,fu=N + 2:=⟨fu - 2,by omega⟩
 simp only [J7]
 simp [f101,Ht,G7,D8,trD,I4,z8,p9,o7,A8,C8,j4 hm,j6 hm,F5 hm hl,w9 hm hl,l6 hm,l5 hm,D9,o9,u6,u7,J5]
theorem Lv (f:Fct)(n fu:Nat)(hfu:1000≤fu)(m:Mem)(hm:m.Ok)(hl:m.lim≤m.next)(id:Nat):
  F9 KW fu (n + 1) (.func 172) [.agg (J7 id),.agg f.gau,.int .i64 f.made] m=some [⟨.bool true,ext m [C9 (J7 id),C9 f.gau]⟩]:=by
 rw [enter (sf:=f172) rfl rfl]
 obtain⟨N,rfl⟩:∃N,fu=N + 2:=⟨fu - 2,by omega⟩
 simp only [J7]
 simp [f172,G7,D8,trD,I4,z8,p9,o7,A8,C8,j4 hm,j6 hm,F5 hm hl,w9 hm hl,l6 hm,l5 hm,D9,o9,u6,u7,J5]
end Go.Proofs.YtefodipjjofocaaGreatDoor.TT
namespace Go.Proofs.YtefodipjjofocaaGreatDoor.TT
open Go Go.AM
set_option linter.unusedSimpArgs false
set_option linter.unusedVariables false
set_option maxRecDepth 100000
set_option maxHeartbeats 2000000
theorem Lx (a:l8)(m:Mem)(hm:m.Ok)(id:Nat)(hg:m.get id=some (C9 [a])):R8 m 1 1 (.slice id 0 1 1)=some [a]:=by
 show R6 m id 0 (Nat.mul 1 1)=_
 show X5 (m.get id) (fun rs k rows=>U5 rs k rows 1 0)=_
 rw [hg];kernel_rfl
theorem Gn (a:l8)(m:Mem)(hm:m.Ok)(id:Nat)(hg:m.get id=some (C9 [a]))(s x:OF)(cf:K7)(ls:List l8)(env:T l8)(hs:s ls env=.nilSlice)(hx:x ls env=.slice id 0 1 1):
  eF 1 8 s x cf ls env m=some [⟨.sliceU m.next 0 1 1,m.new (C9 [a])⟩]:=by
 show ob (lenOf (x ls env)) (fun n=>ob (R8 m 1 n (x ls env)) fun new=>qb m 1 8 n new (s ls env))=_
 rw [hx,hs]
 show ob (R8 m 1 1 (.slice id 0 1 1)) _=_
 rw [Lx a m hm id hg]
 rfl
theorem UW (b:Int)(hb:b < 20001)(x y:OF)(ls:List l8)(env:T l8)(hx:x ls env=.int .i64 20001)(hy:y ls env=.int .i64 b):
  pMm false x [y] ls env=some (.int .i64 b):=by
 show ob (mm2 false (x ls env) (y ls env)) _=_
 rw [hx,hy]
 show some (l8.int .i64 (bi (lV b 20001) b 20001))=_
 rw [show lV b 20001=true by rw [dA];simp;omega]
 rfl
theorem Dj (f:Fct)(h0:0≤f.made)(h1:f.made≤20000)(n fu:Nat)(hfu:1000≤fu)(m:Mem)(hm:m.Ok)(hl:m.lim≤m.next)(id:Nat)(hid:id < m.next)(hg:m.get id=some (C9 f.gau)):
  F9 KW fu (n + 2) (.func 105) [.agg (J7 id)] m=some [⟨.sliceU (m.next + 6) 0 1 2,ext m [C9 (J7 id),C9 [.int .i64 f.made],C9 [.int .i64 f.made],C9 (J7 id),C9 f.gau,C9 [.int .i64 f.gid,.int .i64 f.made],C9 [.int .i64 f.gid,.int .i64 f.made]]⟩]:=by
 rw [enter (sf:=f105) rfl rfl]
 obtain⟨N,rfl⟩:∃N,fu=N + 3:=⟨fu - 3,by omega⟩
 have hg1:(ext m [C9 (J7 id)]).get id=some (C9 f.gau):=by rw [F6 hm _ hid];exact hg
 have hg2:(ext m [C9 (J7 id),C9 [.int .i64 f.made],C9 [.int .i64 f.made]]).get id=some (C9 f.gau):=by rw [F6 hm _ hid];exact hg
 have hg3:(ext m [C9 (J7 id),C9 [.int .i64 f.made],C9 [.int .i64 f.made],C9 (J7 id),C9 f.gau]).get id=some (C9 f.gau):=by rw [F6 hm _ hid];exact hg
 have hg4:(ext m [C9 (J7 id),C9 [.int .i64 f.made],C9 [.int .i64 f.made],C9 (J7 id),C9 f.gau,C9 [.int .i64 f.gid,.int .i64 f.made],C9 [.int .i64 f.gid,.int .i64 f.made]]).get id=some (C9 f.gau):=by rw [F6 hm _ hid];exact hg
 have c1:∀(s x:OF) cf ls env,s ls env=.nilSlice→x ls env=.slice (m.next + 1) 0 1 1→
   eF 1 8 s x cf ls env (ext m [C9 (J7 id),C9 [.int .i64 f.made]])=some [⟨.sliceU (m.next + 2) 0 1 1,ext m [C9 (J7 id),C9 [.int .i64 f.made],C9 [.int .i64 f.made]]⟩]:=by
  intro s x cf ls env hs hx
  rw [Gn (.int .i64 f.made) _ (J3 hm _) (m.next + 1) (by rw [j6 hm];rfl) s x cf ls env hs hx,← aH]
  simp
 have c2:=Lv f n (N + 3) hfu (ext m [C9 (J7 id),C9 [.int .i64 f.made],C9 [.int .i64 f.made]]) (J3 hm _) (by simp;omega) id
 have c3:∀(s x:OF) cf ls env,s ls env=.nilSlice→x ls env=.slice (m.next + 5) 0 1 1→
   eF 2 16 s x cf ls env (ext m [C9 (J7 id),C9 [.int .i64 f.made],C9 [.int .i64 f.made],C9 (J7 id),C9 f.gau,C9 [.int .i64 f.gid,.int .i64 f.made]]) =
    some [⟨.sliceU (m.next + 6) 0 1 2,ext m [C9 (J7 id),C9 [.int .i64 f.made],C9 [.int .i64 f.made],C9 (J7 id),C9 f.gau,C9 [.int .i64 f.gid,.int .i64 f.made],C9 [.int .i64 f.gid,.int .i64 f.made]]⟩]:=by
  intro s x cf ls env hs hx
  rw [zQ (.int .i64 f.gid) (.int .i64 f.made) _ (J3 hm _) (m.next + 5) (by rw [j6 hm];rfl) s x cf ls env hs hx,← aH]
  simp
 have c4:=UW f.made (by omega)
 have d1:decide (-1 < f.made)=true:=by simp;omega
 have d2:decide (f.made < 20001)=true:=by simp;omega
 have d1':-1 < f.made:=by omega
 have d2':f.made < 20001:=by omega
 simp only [J7] at hg1 hg2 hg3 hg4 c1 c2 c3 ⊢
 simp [f105,Hu,Hw,Hy,Hz,HV,HY,G7,D8,trD,I4,z8,p9,o7,A8,C8,j4 hm,j6 hm,F5 hm hl,w9 hm hl,l6 hm,l5 hm,D9,o9,u6,u7,J5,aB,Nat.add_assoc,hg1,hg2,hg3,hg4,c1,c2,c3,c4,d1,d2,d1',d2',show w64 1=1 from eX (by decide) (by decide)]
end Go.Proofs.YtefodipjjofocaaGreatDoor.TT
namespace Go.Proofs.YtefodipjjofocaaGreatDoor.TT
open Go Go.AM
set_option linter.unusedSimpArgs false
set_option linter.unusedVariables false
set_option maxRecDepth 100000
set_option maxHeartbeats 2000000
@[simp] theorem auW (f:Fct)(h:2 < f.gau.length):f.gau[2]'h=.int .i64 f.nom:=id rfl
@[simp] theorem auX (f:Fct)(h:3 < f.gau.length):f.gau[3]'h=.int .i64 f.tlo:=id rfl
@[simp] theorem auY (f:Fct)(h:4 < f.gau.length):f.gau[4]'h=.int .i64 f.thi:=id rfl
noncomputable def rO (a b:List l8):Blk:=.cells (len' a) 2 (T.ofList [a,b])
theorem xY {β:Type}{es:Nat}{cells:List l8}(h:cells.length=es + es)(k:Blk→Option β):gu es 2 cells k=k (rO (cells.take es) (cells.drop es)):=by
 show ob (ob (takeN es cells) fun r=>ob (ob (takeN es (iB es cells)) fun r'=>ob (rowsOf es 0 (iB es (iB es cells))) fun rest=>some (r' :: rest)) fun rest=>some (r :: rest)) (fun rows=>k (.cells es 2 (T.ofList rows)))=_
 have h2:(cells.drop es).length=es:=by simp;omega
 have h3:(cells.drop es).drop es=[]:=List.drop_of_length_le (by omega)
 have h4:(cells.drop es).take es=cells.drop es:=List.take_of_length_le (by omega)
 rw [fM _ _ (by omega),Q7,eG,fM _ _ (by omega),Q7,eG,h3,h4]
 show k (.cells es 2 (T.ofList [cells.take es,cells.drop es]))=k (.cells (len' (cells.take es)) 2 (T.ofList [cells.take es,cells.drop es]))
 rw [O4,List.length_take,Nat.min_eq_left (by omega)]
theorem qB (es:Nat)(zero:List l8)(ps:List (Nat×Nat×OF))(ls:List l8)(env:T l8)(nid:Nat):H9 es 2 zero ps ls env nid=ob (lay ps ls env (zero ++ zero)) fun cells=>if cells.length=es + es then some (.slice nid 0 2 2,some (rO (cells.take es) (cells.drop es))) else gu es 2 cells fun b=>some (.slice nid 0 2 2,some b):=by
 show ob (lay ps ls env (gq zero (gq zero []))) (fun cells=>gu es 2 cells fun b=>some (l8.slice nid 0 2 2,some b))=_
 rw [U9,U9,List.append_nil]
 congr 1
 funext cells
 split
 ·rename_i h;rw [xY h]
 ·rfl
theorem LA (a b c d:l8)(m:Mem)(hm:m.Ok)(id:Nat)(hg:m.get id=some (rO [a,b] [c,d]))(s x:OF)(cf:K7)(ls:List l8)(env:T l8)(hs:s ls env=.nilSlice)(hx:x ls env=.slice id 0 2 2):
  eF 2 16 s x cf ls env m=some [⟨.sliceU m.next 0 2 2,m.new (rO [a,b] [c,d])⟩]:=by
 show ob (lenOf (x ls env)) (fun n=>ob (R8 m 2 n (x ls env)) fun new=>qb m 2 16 n new (s ls env))=_
 rw [hx,hs]
 show ob (R8 m 2 2 (.slice id 0 2 2)) _=_
 rw [show R8 m 2 2 (.slice id 0 2 2)=some [a,b,c,d] by
  show X5 (m.get id) (fun rs k rows=>U5 rs k rows 4 0)=_
  rw [hg];kernel_rfl]
 rfl
theorem LB (a b c d e f:l8)(m:Mem)(hm:m.Ok)(id:Nat)(hg:m.get id=some (rO [a,b,c] [d,e,f]))(s x:OF)(cf:K7)(ls:List l8)(env:T l8)(hs:s ls env=.nilSlice)(hx:x ls env=.slice id 0 2 2):
  eF 3 24 s x cf ls env m=some [⟨.sliceU m.next 0 2 3,m.new (rO [a,b,c] [d,e,f])⟩]:=by
 show ob (lenOf (x ls env)) (fun n=>ob (R8 m 3 n (x ls env)) fun new=>qb m 3 24 n new (s ls env))=_
 rw [hx,hs]
 show ob (R8 m 3 2 (.slice id 0 2 2)) _=_
 rw [show R8 m 3 2 (.slice id 0 2 2)=some [a,b,c,d,e,f] by
  show X5 (m.get id) (fun rs k rows=>U5 rs k rows 6 0)=_
  rw [hg];kernel_rfl]
 rfl
theorem LC (f:Fct)(h0:0≤f.made)(h1:f.made≤20000)(n fu:Nat)(hfu:1000≤fu)(m:Mem)(hm:m.Ok)(hl:m.lim≤m.next)(id:Nat)(hid:id < m.next)(hg:m.get id=some (C9 f.gau)):
  ∃p q m',F9 KW fu (n + 3) (.func 106) [.agg (J7 id)] m=some [⟨.agg [.sliceU p 0 2 3,.sliceU q 0 2 2],m'⟩]∧Ext m m':=by
 rw [enter (sf:=f106) rfl rfl]
 obtain⟨N,rfl⟩:∃N,fu=N + 2:=⟨fu - 2,by omega⟩
 have hgx:∀bs,(ext m bs).get id=some (C9 f.gau):=fun bs=>by rw [F6 hm _ hid];exact hg
 have hg1:=hgx [C9 (J7 id),C9 [.nilSlice,.nilSlice],C9 [.nilSlice,.nilSlice],C9 (J7 id),C9 [.int .i64 f.made],C9 [.int .i64 f.made],C9 (J7 id),C9 f.gau,C9 [.int .i64 f.gid,.int .i64 f.made],C9 [.int .i64 f.gid,.int .i64 f.made]]
 have c1:=Dj f h0 h1 n (N + 2) hfu (ext m [C9 (J7 id),C9 [.nilSlice,.nilSlice],C9 [.nilSlice,.nilSlice]]) (J3 hm _) (by simp;omega) id (by simp;omega) (hgx _)
 have c2:∀(a b c d e g:Int) (s x:OF) cf ls env,s ls env=.nilSlice→x ls env=.slice (m.next + 11) 0 2 2→
   eF 3 24 s x cf ls env (ext m [C9 (J7 id),C9 [.nilSlice,.nilSlice],C9 [.nilSlice,.nilSlice],C9 (J7 id),C9 [.int .i64 f.made],C9 [.int .i64 f.made],C9 (J7 id),C9 f.gau,C9 [.int .i64 f.gid,.int .i64 f.made],C9 [.int .i64 f.gid,.int .i64 f.made],C9 f.gau,rO [.int .i64 a,.int .i64 b,.int .i64 c] [.int .i64 d,.int .i64 e,.int .i64 g]])=some [⟨.sliceU (m.next + 12) 0 2 3,ext m [C9 (J7 id),C9 [.nilSlice,.nilSlice],C9 [.nilSlice,.nilSlice],C9 (J7 id),C9 [.int .i64 f.made],C9 [.int .i64 f.made],C9 (J7 id),C9 f.gau,C9 [.int .i64 f.gid,.int .i64 f.made],C9 [.int .i64 f.gid,.int .i64 f.made],C9 f.gau,rO [.int .i64 a,.int .i64 b,.int .i64 c] [.int .i64 d,.int .i64 e,.int .i64 g],rO [.int .i64 a,.int .i64 b,.int .i64 c] [.int .i64 d,.int .i64 e,.int .i64 g]]⟩]:=by
  intro a b c d e g s x cf ls env hs hx
  rw [LB (.int .i64 a) (.int .i64 b) (.int .i64 c) (.int .i64 d) (.int .i64 e) (.int .i64 g) _ (J3 hm _) (m.next + 11) (by rw [j6 hm];rfl) s x cf ls env hs hx,← aH]
  simp
 have c3:∀(a b c d e g:Int) (s x:OF) cf ls env,s ls env=.nilSlice→x ls env=.slice (m.next + 13) 0 2 2→
   eF 2 16 s x cf ls env (ext m [C9 (J7 id),C9 [.nilSlice,.nilSlice],C9 [.sliceU (m.next + 12) 0 2 3,.nilSlice],C9 (J7 id),C9 [.int .i64 f.made],C9 [.int .i64 f.made],C9 (J7 id),C9 f.gau,C9 [.int .i64 f.gid,.int .i64 f.made],C9 [.int .i64 f.gid,.int .i64 f.made],C9 f.gau,rO [.int .i64 a,.int .i64 b,.int .i64 c] [.int .i64 d,.int .i64 e,.int .i64 g],rO [.int .i64 a,.int .i64 b,.int .i64 c] [.int .i64 d,.int .i64 e,.int .i64 g],rO [.int .i64 1,.int .i64 0] [.int .i64 1,.int .i64 0]])=some [⟨.sliceU (m.next + 14) 0 2 2,ext m [C9 (J7 id),C9 [.nilSlice,.nilSlice],C9 [.sliceU (m.next + 12) 0 2 3,.nilSlice],C9 (J7 id),C9 [.int .i64 f.made],C9 [.int .i64 f.made],C9 (J7 id),C9 f.gau,C9 [.int .i64 f.gid,.int .i64 f.made],C9 [.int .i64 f.gid,.int .i64 f.made],C9 f.gau,rO [.int .i64 a,.int .i64 b,.int .i64 c] [.int .i64 d,.int .i64 e,.int .i64 g],rO [.int .i64 a,.int .i64 b,.int .i64 c] [.int .i64 d,.int .i64 e,.int .i64 g],rO [.int .i64 1,.int .i64 0] [.int .i64 1,.int .i64 0],rO [.int .i64 1,.int .i64 0] [.int .i64 1,.int .i64 0]]⟩]:=by
  intro a b c d e g s x cf ls env hs hx
  rw [LA (.int .i64 1) (.int .i64 0) (.int .i64 1) (.int .i64 0) _ (J3 hm _) (m.next + 13) (by rw [j6 hm];rfl) s x cf ls env hs hx,← aH]
  simp
 refine⟨m.next + 12,m.next + 14,ext m [C9 (J7 id),C9 [.sliceU (m.next + 12) 0 2 3,.sliceU (m.next + 14) 0 2 2],C9 [.sliceU (m.next + 12) 0 2 3,.sliceU (m.next + 14) 0 2 2],C9 (J7 id),C9 [.int .i64 f.made],C9 [.int .i64 f.made],C9 (J7 id),C9 f.gau,C9 [.int .i64 f.gid,.int .i64 f.made],C9 [.int .i64 f.gid,.int .i64 f.made],C9 f.gau,rO [.int .i64 0,.int .i64 1,.int .i64 (w64 (f.nom + f.thi))] [.int .i64 1,.int .i64 0,.int .i64 (w64 (w64 (-f.nom) - f.tlo))],rO [.int .i64 0,.int .i64 1,.int .i64 (w64 (f.nom + f.thi))] [.int .i64 1,.int .i64 0,.int .i64 (w64 (w64 (-f.nom) - f.tlo))],rO [.int .i64 1,.int .i64 0] [.int .i64 1,.int .i64 0],rO [.int .i64 1,.int .i64 0] [.int .i64 1,.int .i64 0]],?_,F3 hm _⟩
 simp only [J7] at hg1 c1 c2 c3 ⊢
 simp [f106,HZ,Ia,Ib,G7,D8,trD,I4,z8,p9,o7,A8,C8,j4 hm,j6 hm,F5 hm hl,w9 hm hl,l6 hm,l5 hm,D9,o9,u6,u7,J5,qB,Nat.add_assoc,hg1,c1,c2,c3,show w64 1=1 from eX (by decide) (by decide)]
end Go.Proofs.YtefodipjjofocaaGreatDoor.TT
namespace Go.Proofs.YtefodipjjofocaaGreatDoor.TT
open Go Go.AM
set_option linter.unusedSimpArgs false
set_option linter.unusedVariables false
set_option maxRecDepth 100000
set_option maxHeartbeats 2000000
theorem xZ (f:Fct)(h:M5 f=true):0≤f.made∧f.made≤20000:=by
 simp only [M5,Bool.and_eq_true,decide_eq_true_eq] at h
 exact h.2.2.2.2.1
theorem UY (f:Fct)(ha:eu f.gn)(hb:eu f.gd)(n fu:Nat)(hfu:1000≤fu)(m:Mem)(hm:m.Ok)(hl:m.lim≤m.next)(id:Nat)(hid:id < m.next)(hg:m.get id=some (C9 f.gau)):
  ∃m',F9 KW fu (n + 5) (.func 51) [.agg (J7 id)] m=some [⟨.int .i64 (bif M5 f then 0 else 1),m'⟩]∧Ext m m':=by
 rw [enter (sf:=f51) rfl rfl]
 obtain⟨N,rfl⟩:∃N,fu=N + 2:=⟨fu - 2,by omega⟩
 have c98:=Iu (n + 3) (N + 2) 0 0 0 1000000 (ext m [C9 (J7 id)]) (J3 hm _)
 have hg2:(ext m [C9 (J7 id),C9 [.int .i64 0,.int .i64 0]]).get id=some (C9 f.gau):=by rw [F6 hm _ hid];exact hg
 have E2:=F3 hm [C9 (J7 id),C9 [.int .i64 0,.int .i64 0]]
 obtain⟨m3,g3,E3⟩:=UJ f ha hb (n + 1) (N + 2) hfu _ (J3 hm [C9 (J7 id),C9 [.int .i64 0,.int .i64 0]])
 have q3a:m3.get m.next=some (C9 (J7 id)):=by rw [E3.old _ (by simp),j4 hm];rfl
 have q3b:m3.get id=some (C9 f.gau):=by rw [E3.old _ (by simp;omega)];exact hg2
 have E23:=E2.trans E3
 have l3:m3.lim≤m3.next:=by rw [E23.lim];have:=E23.next;omega
 have n3:m.next + 2≤m3.next:=by have:=E3.next;simpa using this
 have k3:m3.Ok:=E3.ok
 cases hgb:M5 f with
 | false=>
  rw [hgb] at g3
  refine⟨m3,?_,E23⟩
  simp only [J7] at c98 hg2 g3 q3a ⊢
  simp [f51,Kz,G7,D8,trD,I4,z8,p9,o7,A8,C8,j4 hm,j6 hm,F5 hm hl,w9 hm hl,l6 hm,l5 hm,D9,o9,u6,u7,J5,c98,hg2,g3,q3a]
 | true=>
  rw [hgb] at g3
  obtain⟨h0,h1⟩:=xZ f hgb
  have g100:=Ls (n + 3) (N + 2) hfu m3 k3 l3 id
  have g101:=Lu (n + 3) (N + 2) hfu (ext m3 [C9 (J7 id)]) (J3 k3 _) (by simp;omega) id
  have r1:(ext m3 [C9 (J7 id)]).get m.next=some (C9 (J7 id)):=by rw [F6 k3 _ (by omega)];exact q3a
  have r2:(ext m3 [C9 (J7 id),C9 (J7 id)]).get m.next=some (C9 (J7 id)):=by rw [F6 k3 _ (by omega)];exact q3a
  have g105:=Dj f h0 h1 (n + 2) (N + 2) hfu (ext m3 [C9 (J7 id),C9 (J7 id)]) (J3 k3 _) (by simp;omega) id (by simp;omega) (by rw [F6 k3 _ (by omega)];exact q3b)
  have r3:(ext m3 [C9 (J7 id),C9 (J7 id),C9 (J7 id),C9 [.int .i64 f.made],C9 [.int .i64 f.made],C9 (J7 id),C9 f.gau,C9 [.int .i64 f.gid,.int .i64 f.made],C9 [.int .i64 f.gid,.int .i64 f.made]]).get m.next=some (C9 (J7 id)):=by rw [F6 k3 _ (by omega)];exact q3a
  obtain⟨p,q,m5,g106,E5⟩:=LC f h0 h1 (n + 1) (N + 2) hfu (ext m3 [C9 (J7 id),C9 (J7 id),C9 (J7 id),C9 [.int .i64 f.made],C9 [.int .i64 f.made],C9 (J7 id),C9 f.gau,C9 [.int .i64 f.gid,.int .i64 f.made],C9 [.int .i64 f.gid,.int .i64 f.made]]) (J3 k3 _) (by simp;omega) id (by simp;omega) (by rw [F6 k3 _ (by omega)];exact q3b)
  refine⟨m5,?_,E23.trans ((F3 k3 _).trans E5)⟩
  simp only [J7] at c98 hg2 g3 q3a g100 g101 r1 r2 r3 g105 g106 ⊢
  simp [f51,Si,Sj,Kz,G7,D8,trD,I4,z8,p9,o7,A8,C8,j4 hm,j6 hm,F5 hm hl,w9 hm hl,l6 hm,l5 hm,D9,o9,u6,u7,J5,Nat.add_assoc,c98,hg2,g3,q3a,q3b,g100,g101,g105,r1,r2,r3,g106,show w64 1=1 from eX (by decide) (by decide)]
end Go.Proofs.YtefodipjjofocaaGreatDoor.TT
