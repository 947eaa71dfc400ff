/- What is known of the library, and the row of RoomOpens in the evaluator's words; conditions: the row's own. -/
import Derived.Test.YtfnlnpllpfhhnaaGreatDoorQD6
import Derived.Test.YtfnlnpllpfhhnaaGreatDoorQC11
import Derived.Shelf.Strconv.Itoa3
import Derived.Shelf.Strconv.AtoiAll
import Derived.Shelf.Strings.FieldsAny
import Derived.Test.YtfnlnpllpfhhnaaGreatDoorProg
import Derived.Shelf.Strings.OnBuilder
import Derived.Shelf.Strings.Search3
import Derived.Shelf.Strings.Count
import Derived.Lib.AppendIntMem
import Derived.OpenShut
import Derived.ProofKit
import Derived.LaidMore
import Derived.ChangeSame
import Derived.Carry
import Derived.Below
set_option linter.all false
namespace Go.Proofs
open Go.Shelf
set_option maxRecDepth 100000
def Tryz.Pz:Go.Shelf.Ren:=⟨fun | 171=>147 | 243=>244 | 246=>314 | 283=>410 | 284=>411 | 285=>412 | 286=>413 | 129=>344 | 317=>458 | 318=>459 | 319=>460 | 320=>461 | 337=>483 | 338=>484 | n=>n,fun | 3=>3 | 9=>9 | 2=>2 | 4=>4 | 171=>471 | 0=>0 | 53=>396 | 37=>230 | 5=>5 | 173=>473 | 212=>518 | 51=>309 | 20=>20 | 213=>519 | 46=>77 | 232=>546 | 233=>547 | n=>n,fun | 17=>5 | 18=>8 | 19=>9 | n=>n⟩
theorem Tryz.acf:Go.Proofs.LaysM.n171 Tryz.prog Tryz.Pz:=by constructor<;>first | kernel_rfl | exact λ_=>by kernel_rfl | (constructor<;>first | kernel_rfl | exact λ_=>by kernel_rfl | decide) | decide
open Go.RowKit Go.Sort Go.Lib in
theorem Tryz.strconv_Itoa (n:Int)(h0:-9223372036854775808<=n)(b:n<=9223372036854775807)(w:World)(a:Lib.TabIs Tryz.prog w "internal/strconv.uint64pow10" .u64 Lib.pow10Tab):
  Calls Tryz.prog 147 #[.int .i64 n] w λe w'=>e=.returned (.string ⟨(Lib.itoa n).toArray⟩)∧∃k os,w'=grow (w.drewN k) os:=Any.strconv_Itoa Tryz.acf n h0 b w a
def Tryz.PD:Go.Shelf.Ren:=⟨fun | 172=>93 | 244=>178 | 245=>179 | 247=>258 | 279=>259 | 280=>260 | 281=>261 | 282=>262 | 287=>329 | 316=>330 | 171=>147 | 205=>331 | 321=>424 | 322=>425 | 243=>244 | 246=>314 | 283=>410 | 284=>411 | 285=>412 | 286=>413 | 129=>344 | 317=>458 | 318=>459 | 319=>460 | 320=>461 | 337=>483 | 338=>484 | n=>n,fun | 9=>9 | 3=>3 | 75=>174 | 76=>175 | 4=>4 | 5=>5 | 167=>327 | 37=>230 | 0=>0 | 85=>328 | 2=>2 | 168=>330 | 53=>396 | 175=>397 | 46=>77 | 210=>401 | 127=>333 | 145=>488 | 143=>486 | 21=>21 | 171=>471 | 173=>473 | 212=>518 | 51=>309 | 20=>20 | 213=>519 | 232=>546 | 233=>547 | 80=>220 | n=>n,fun | 15=>2 | 16=>3 | 17=>5 | 18=>8 | 19=>9 | n=>n⟩
theorem Tryz.KX:Go.Proofs.LaysC.n172 Tryz.prog Tryz.PD:=by constructor<;>first | kernel_rfl | exact λ_=>by kernel_rfl | (constructor<;>first | kernel_rfl | exact λ_=>by kernel_rfl | (constructor<;>first | kernel_rfl | exact λ_=>by kernel_rfl))
def Tryz.SI:Go.Shelf.Ren:=⟨fun | 157=>83 | 229=>164 | 199=>165 | 261=>245 | 311=>315 | 312=>316 | n=>n,fun | 9=>9 | 31=>46 | 3=>3 | 5=>5 | 4=>4 | 119=>217 | 0=>0 | 40=>219 | 152=>306 | 21=>21 | 154=>308 | 51=>309 | 141=>311 | 196=>383 | 193=>380 | 198=>386 | 49=>384 | 194=>381 | 201=>389 | 226=>475 | 46=>77 | 227=>476 | n=>n,fun | 0=>0 | 6=>1 | n=>n⟩
theorem Tryz.ag9:Go.Proofs.Lays.n157 Tryz.prog Tryz.SI:=by constructor<;>first | kernel_rfl | exact λ_=>by kernel_rfl | (constructor<;>first | kernel_rfl | exact λ_=>by kernel_rfl | decide) | decide
def Tryz.Hq:Go.Shelf.Ren:=⟨fun | 199=>165 | 261=>245 | 311=>315 | 312=>316 | n=>n,fun | 21=>21 | 4=>4 | 51=>309 | 141=>311 | 0=>0 | 196=>383 | 193=>380 | 3=>3 | 198=>386 | 49=>384 | 194=>381 | 201=>389 | 226=>475 | 46=>77 | 227=>476 | n=>n,fun | 6=>1 | n=>n⟩
theorem Tryz.aga:Go.Proofs.Lays.n199 Tryz.prog Tryz.Hq:=by constructor<;>first | kernel_rfl | exact λ_=>by kernel_rfl | (constructor<;>first | kernel_rfl | exact λ_=>by kernel_rfl | decide) | decide
open Go.RowKit Go.Lib in
theorem Tryz.strings_Fields_any (s:ByteArray)(w:World)(hs:s.size<4294967281)(a:Lib.TabIs Tryz.prog w "strings.asciiSpace" .u8 Lib.asciiSpaceTab)(b:Lib.WhiteTab 1 w):
  Calls Tryz.prog 83 #[.string s] w λe w'=>∃A,e=.returned (.slice (some ⟨A,0,none⟩) (Lib.fieldsD s.data.toList).length (Lib.fieldsD s.data.toList).length)∧w.heap.size<=A∧
   w'.ownsRow w.heap.size 9 1 (.slice (some ⟨A,0,none⟩) (Lib.fieldsD s.data.toList).length (Lib.fieldsD s.data.toList).length) (Lib.fieldsD s.data.toList).length ((Lib.fieldsD s.data.toList).map λx=>Value.string ⟨x.toArray⟩)∧Below w.heap.size w w':=Any.strings_Fields_any Tryz.ag9 (by kernel_rfl) (by kernel_rfl) (by kernel_rfl) s w hs a b
def Tryz.Hr:Go.Shelf.Ren:=⟨fun | 156=>94 | 165=>180 | 166=>181 | 169=>182 | 240=>263 | 241=>264 | 276=>332 | 277=>333 | n=>n,fun | 31=>46 | 9=>9 | 3=>3 | 4=>4 | 0=>0 | 20=>20 | 72=>235 | 76=>175 | 70=>233 | 37=>230 | 75=>174 | 127=>333 | 164=>403 | 5=>5 | 80=>220 | n=>n,fun | n=>n⟩
theorem Tryz.PE:Go.Proofs.Lays.n156 Tryz.prog Tryz.Hr:=by constructor<;>first | kernel_rfl | exact λ_=>by kernel_rfl | (constructor<;>first | kernel_rfl | exact λ_=>by kernel_rfl | decide) | decide
theorem Tryz.nL:Builder.Extra Tryz.prog Tryz.Hr:=by constructor<;>first | kernel_rfl | exact λ_=>by kernel_rfl | (constructor<;>first | kernel_rfl | exact λ_=>by kernel_rfl | decide) | decide
open Go.RowKit in
theorem Tryz.strings_Join_none (a:Option Addr)(c:Nat)(b:ByteArray)(w:World):
  Calls Tryz.prog 94 #[.slice a 0 c,.string b] w λe w'=>e=.returned (.string ⟨#[]⟩)∧w'=w:=Any.strings_Join_none Tryz.PE Tryz.nL a c b w
def Tryz.SK:Go.Shelf.Ren:=⟨fun | 143=>257 | 219=>328 | 217=>420 | 225=>421 | 224=>422 | 267=>423 | 266=>466 | 314=>467 | n=>n,fun | 9=>9 | 3=>3 | 4=>4 | 5=>5 | 46=>77 | 146=>525 | 51=>309 | n=>n,fun | 1=>4 | n=>n⟩
theorem Tryz.agb:Go.Proofs.Lays.n143 Tryz.prog Tryz.SK:=by constructor<;>first | kernel_rfl | exact λ_=>by kernel_rfl | (constructor<;>first | kernel_rfl | exact λ_=>by kernel_rfl | decide) | decide
open Go.RowKit Go.Lib in
theorem Tryz.strings_Index_one (s:ByteArray)(c:UInt8)(w:World):
  Calls Tryz.prog 257 #[.string s,.string ⟨#[c]⟩] w λe w'=>e=.returned (.int .i64 (Lib.indexByte s.data.toList c))∧w'=w:=Any.strings_Index_one Tryz.agb s c w
def Tryz.SL:Go.Shelf.Ren:=⟨fun | 138=>256 | 195=>325 | 218=>327 | 143=>257 | 219=>328 | 217=>420 | 225=>421 | 224=>422 | 267=>423 | 266=>466 | 314=>467 | n=>n,fun | 9=>9 | 3=>3 | 4=>4 | 5=>5 | 0=>0 | 46=>77 | 146=>525 | 51=>309 | n=>n,fun | 1=>4 | n=>n⟩
theorem Tryz.agc:Go.Proofs.Lays.n138 Tryz.prog Tryz.SL:=by constructor<;>first | kernel_rfl | exact λ_=>by kernel_rfl | (constructor<;>first | kernel_rfl | exact λ_=>by kernel_rfl | decide) | decide
open Go.RowKit Go.Lib in
theorem Tryz.strings_Count_one (s:ByteArray)(c:UInt8)(w:World):
  Calls Tryz.prog 256 #[.string s,.string ⟨#[c]⟩] w λe w'=>e=.returned (.int .i64 (Lib.countByte s.data.toList c))∧w'=w:=Any.strings_Count_one Tryz.agc s c w
end Go.Proofs
namespace Go.Proofs.YtfnlnpllpfhhnaaGreatDoor.TT
open Go Go.AM Go.RowKit
set_option linter.unusedSimpArgs false
set_option linter.unusedVariables false
set_option maxRecDepth 100000
section
variable {P:Program}{G:Mem}{ι:N9}{m:Mem}{w:World}
theorem alK {n:String}{g:Nat}{cs:Array Value}{e:TypeId}{a:Nat×Nat}(b:P.globalNamed n=some g)(h:w.heap[g]?=some (.cells cs e a)):w.var? P n=some cs:=by unfold World.var?;rw [b];simp [h]
theorem agd (b:RM P G ι m w.heap){i:Nat}{k:IntKind}{ns:List Int}(hi:i<P.globals.size)(g:G.get i=some (.cells ns.length 1 (T.ofList [ns.map (d9.int k)]))):
  ∃e fz,w.heap[i]?=some (.cells (ns.map (Value.int k)).toArray e fz):=by
 obtain⟨c,e,fz,l,x,_,r⟩:=b.blk i _ ((b.base i (aP hi b.gle)).trans g);obtain⟨p,q,v⟩:=b.glob i hi;obtain⟨t,u,o,a,y⟩:=b.gsz i _ _ _ hi g;rw [p,a] at l;cases l;obtain⟨f,n,z,A,s⟩:=r 0 (by omega);have d:f=ns.map (d9.int k):=by rw [T.bN] at n;simpa using n.symm
 subst d;suffices h:c=(ns.map (Value.int k)).toArray by rw [h] at a;exact⟨_,_,a⟩
 apply agT;intro j;by_cases hj:j<ns.length;have:=s j hj;rw [q,acL,W9,W9] at this;rw [this];simp [hj,u7];rw [amC (by omega),amC (by simp;omega)]
theorem acg (b:RM P G ι m w.heap){i:Nat}{n:String}{k:IntKind}{ns:List Int}(c:P.globalNamed n=some i)(hi:i<P.globals.size)(a:G.get i=some (.cells ns.length 1 (T.ofList [ns.map (d9.int k)]))):Lib.TabIs P w n k ns:=by obtain⟨e,d,h⟩:=agd b hi a;exact alK c h
theorem cell_of (l:RM P G ι m w.heap){i rs:Nat}{r:List d9}(h:m.get i=some (.cells rs 1 (T.ofList [r]))){j:Nat}{v:d9}(k:j<rs)(o:r[j]?=some v):w.cell? ⟨(ι i).b,(ι i).base+j,none⟩=some (u7 ι v):=by
 obtain⟨c,e,q,g,s,_,n⟩:=l.blk i _ h;obtain⟨d,f,t,u,p⟩:=n 0 (by omega);have a:d=r:=by rw [T.bN] at f;simpa using f.symm
 subst a;have:=p j k;rw [acL,W9] at this;simp [World.cell?,g,this,o]
theorem EI {v:d9}(n:Nat)(a:sD n [v]=[])(b:∀r,pJ r [v]=some [v])(m:Mem):Bh n ⟨v,m⟩=some ⟨v,[]⟩:=by show ob (kJ n [v] m) _=_;rw [wB m a b];rfl
end
section
variable {ι:N9}{w:World}
theorem EJ:Tryz.prog.globals.size=11:=by kernel_rfl
theorem gn0:Tryz.prog.globalNamed "strings.asciiSpace"=some 0:=by kernel_rfl
theorem gn1:Tryz.prog.globalNamed "unicode.White_Space"=some 1:=by kernel_rfl
theorem gn5:Tryz.prog.globalNamed "internal/strconv.uint64pow10"=some 5:=by kernel_rfl
theorem aDS (a:RM Tryz.prog base ι (P7 base []) w.heap):Lib.TabIs Tryz.prog w "strings.asciiSpace" .u8 Lib.asciiSpaceTab:=by have h:=acg (ns:=nsA) (k:=.u8) a gn0 (by rw [EJ];omega) rfl;rw [show Lib.asciiSpaceTab=nsA by decide +kernel];exact h
theorem aDT (a:RM Tryz.prog base ι (P7 base []) w.heap):Lib.TabIs Tryz.prog w "internal/strconv.uint64pow10" .u64 Lib.pow10Tab:=by have h:=acg (ns:=nsP) (k:=.u64) a gn5 (by rw [EJ];omega) rfl;rw [show Lib.pow10Tab=nsP by decide +kernel];exact h
theorem white (c:RM Tryz.prog base ι (P7 base []) w.heap):Lib.WhiteTab 1 w:=by
 have l:(P7 base []).get 1=some (.cells 1 1 (T.ofList [[d9.ptr 11 0]])):=rfl;have a:(P7 base []).get 11=some (.cells 3 1 (T.ofList [[.slice 12 0 7 7,.nilSlice,.int .i64 2]])):=rfl;have d:(P7 base []).get 12=some (.cells 21 1 (T.ofList [nsW.map (d9.int .u16)])):=rfl;have e:=c.spot 11 _ a rfl;have f:=c.spot 12 _ d rfl;obtain⟨k,m,_⟩:=c.glob 1 (by rw [EJ];omega);refine⟨(ι 11).b,(ι 11).base,(ι 12).b,(ι 12).base,?_,?_,?_,?_,λi g=>?_⟩;have:=cell_of c l (j:=0) (by omega) rfl;rw [k,m] at this;simpa [u7,N9.at,e] using this;have:=cell_of c a (j:=0) (by omega) rfl;simpa [u7,N9.at,f] using this;have:=cell_of c a (j:=1) (by omega) rfl;simpa [u7] using this;have:=cell_of c a (j:=2) (by omega) rfl;simpa [u7] using this;have h:∀i,i<21->nsW[i]?=some ((Lib.whiteT.getD i 0:Nat):Int):=by decide
 have:=cell_of c d (j:=i) (v:=.int .u16 ((Lib.whiteT.getD i 0:Nat):Int)) g (by rw [acs,h i g];rfl);simpa [u7] using this
theorem aDU (a:RM Tryz.prog base ι (P7 base []) w.heap):∃ev,w.cell? ⟨2,0,none⟩=some ev∧(ev=.nilIface∨∃te pe,ev=.iface te pe):=by have c:(P7 base []).get 2=some (.cells 1 1 (T.ofList [[d9.iface 486 (.ptr 13 0)]])):=rfl;obtain⟨b,d,_⟩:=a.glob 2 (by rw [EJ];omega);have:=cell_of a c (j:=0) (by omega) rfl;rw [b,d] at this;exact⟨u7 ι (.iface 486 (.ptr 13 0)),by simpa using this,.inr ⟨_,_,rfl⟩⟩
theorem aDV (a:RM Tryz.prog base ι (P7 base []) w.heap):∃ev,w.cell? ⟨3,0,none⟩=some ev∧(ev=.nilIface∨∃te pe,ev=.iface te pe):=by have c:(P7 base []).get 3=some (.cells 1 1 (T.ofList [[d9.iface 486 (.ptr 14 0)]])):=rfl;obtain⟨b,d,_⟩:=a.glob 3 (by rw [EJ];omega);have:=cell_of a c (j:=0) (by omega) rfl;rw [b,d] at this;exact⟨u7 ι (.iface 486 (.ptr 14 0)),by simpa using this,.inr ⟨_,_,rfl⟩⟩
end
theorem ach (n:Int)(h0:-9223372036854775808<=n)(a:n<=9223372036854775807):lF Tryz.prog base 147 [.int .i64 n] [] ⟨.str (Lib.itoa n),[]⟩:=
 vE (EI _ rfl (λ_=>rfl) _) (λ_=>trivial) (λ_ _=>by simp [u7]) λι w b=>by refine agM (Tryz.strconv_Itoa n h0 a w (aDT b)) ?_;rintro e w' ⟨rfl,k,os,rfl⟩;exact⟨by simp [u7],Lib.below_grow _ w (aA _) k os⟩
theorem aci (s:List UInt8)(hs:s.length<1000000):lF Tryz.prog base 93 [.str s] [] (Et s):=by
 unfold Et;cases h:Lib.atoiAll s with
 | ok v=>refine vE (EI _ rfl (λ_=>rfl) _) (λ_=>⟨trivial,trivial,trivial⟩) (λ_ _=>by simp [u7,C8]) λι w b=>?_;refine agM (Any.strconv_Atoi_ok Tryz.KX ⟨s.toArray⟩ (by simp [ByteArray.size];omega) v (by simpa using h) w) ?_;rintro e w' ⟨rfl,hw⟩;refine⟨by simp [u7,C8],?_⟩;rcases hw with rfl | ⟨t,rfl⟩;exact Below.refl _ _;exact Lib.bytesWorld_below _ _ _
 | range=>refine OH (nb:=.dead) (Rk oV.ok _ 330) λι w b=>?_;obtain⟨c,d,a⟩:=aDV b;refine agM (Any.strconv_Atoi_range Tryz.KX ⟨s.toArray⟩ (by simp [ByteArray.size];omega) (by simpa using h) c w d a) ?_;rintro e w' ⟨N,rfl,hN,hc,hb⟩;refine⟨⟨N,0,0,none⟩,?_,hb,hN,?_,trivial,λh=>by cases h⟩;simp [u7,C8,N9.at];rfl;refine⟨trivial,⟨.dead,?_,rfl⟩,trivial⟩;rw [Mem.P5 (m:=P7 base []) oV.ok];exact if_pos rfl
 | _=>refine OH (nb:=.dead) (Rk oV.ok 0 330) λι w b=>?_;obtain⟨c,d,a⟩:=aDU b;refine agM (Any.strconv_Atoi_syntax Tryz.KX ⟨s.toArray⟩ (by simp [ByteArray.size];omega) (by simpa using h) c w d a) ?_;rintro e w' ⟨N,rfl,hN,hc,hb⟩;refine⟨⟨N,0,0,none⟩,?_,hb,hN,?_,trivial,λh=>by cases h⟩;simp [u7,C8,N9.at];rfl;refine⟨trivial,⟨.dead,?_,rfl⟩,trivial⟩;rw [Mem.P5 (m:=P7 base []) oV.ok];exact if_pos rfl
theorem Vy (s:List UInt8)(hs:s.length<1000000):lF Tryz.prog base 83 [.str s] [] (OY s):=by
 refine OH (nb:=.cells 1 ((Lib.fieldsD s).map λw=>[d9.str w])) (aai oV.ok _ _ _) λι w f=>?_;refine agM (Tryz.strings_Fields_any ⟨s.toArray⟩ w (by simp [ByteArray.size];omega) (aDS f) (white f)) ?_;rintro e w' ⟨A,rfl,hA,⟨hl,ho⟩,hb⟩;rcases ho with⟨ho,_⟩ | ⟨g,cap,cur,hv,hg,hh,h1,h2,h3,h4⟩;simp at ho;simp only [Value.slice.injEq,lM,Addr.mk.injEq] at hv;obtain⟨⟨rfl,_,_⟩,_,rfl⟩:=hv;rw [adG] at h3 h4;generalize Lib.fieldsD s=ws at *;have d:ws.length=cur.size:=h3.symm;refine⟨⟨A,0,ws.length,none⟩,?_,hb,hA,⟨eO (.cells 1 (ws.map λw=>[d9.str w])),?_,rfl⟩,?_,λ_=>⟨λc e h b k n=>?_,rfl⟩⟩;simp [u7,N9.at];rw [Mem.P5 (m:=P7 base []) oV.ok];exact if_pos rfl;refine⟨cur,_,_,hh,by simp;omega,⟨by simp,ws.length,by simp,?_⟩,λi a=>?_⟩;have:=T.kK (ws.map λw=>[d9.str w]);simpa using this;have a:i<ws.length:=by simpa using a
 refine⟨[.str ws[i]],by rw [T.bN];simp [a],rfl,⟨trivial,trivial⟩,λj l=>?_⟩;obtain rfl:j=0:=by omega
 have:=congrArg (·[i]?) h4;simp only [acs,adP] at this;rw [if_pos a] at this;simpa [a,u7] using this;rw [hh] at b;cases b;simp
theorem aiV {v:d9}{off n:Nat}(r:(∃c,v=.slice base.nx off n c∧n<=c)∨∃es,v=.sliceU base.nx off n es){rows l:List (List d9)}{ws:List (List UInt8)}{b:List UInt8}(q:n<1000000)
  (p:takeN n (gQ off rows)=some l) (s:wC l=some ws) (d:(iD b ws).length<1000000):lF Tryz.prog base 94 [v,.str b] [.cells 1 rows] ⟨.str (iD b ws),[]⟩:=
 aak oV.ok (λa c b w=>Tryz.strings_Join_none a c b w) (λe o c x b w h=>Any.strings_Join_one Tryz.PE Tryz.nL e o c x b w h)
  (λe o c t b w f g i j k m=>Any.strings_Join_many Tryz.PE Tryz.nL e o c t b w f g i j k m) r q p s d
theorem Xg {f:FuncId}{args:List d9}{m:List NB}{a:EK}(h:adz 257 256 94 base.nx f args m=some a):lF Tryz.prog base f args m a:=by
 unfold adz at h;cases h1:Nat.beq f 257 with
 | true=>
  rw [h1,aH] at h;obtain rfl:=l7 h1;split at h;rename_i s c;cases hb:Nat.blt (len' s) 1000000 with
  | true=>rw [hb] at h;cases h;exact Yb (λs c w=>Tryz.strings_Index_one s c w) s c
  | false=>rw [hb] at h;cases h
  cases h
 | false=>
  rw [h1,bA] at h;cases h2:Nat.beq f 256 with
  | true=>
   rw [h2,aH] at h;obtain rfl:=l7 h2;split at h;rename_i s c;cases hb:Nat.blt (len' s) 1000000 with
   | true=>rw [hb] at h;cases h;exact Yc (λs c w=>Tryz.strings_Count_one s c w) s c
   | false=>rw [hb] at h;cases h
   cases h
  | false=>
   rw [h2,bA] at h;cases h3:Nat.beq f 94 with
   | false=>rw [h3] at h;cases h
   | true=>
    rw [h3,aH] at h;obtain rfl:=l7 h3;have b:∀{n:Nat},Nat.blt n 1000000=true->n<1000000:=λh=>O6.mp h;split at h;rename_i v d o;unfold xE at h;split at h;cases h;rename_i id j n c;dsimp only at h;cases b1:Nat.beq id base.nx with
    | false=>rw [b1] at h;cases h
    | true=>
     cases b2:Nat.ble n c with
     | false=>rw [b1,b2] at h;cases h
     | true=>
      cases b3:Nat.blt n 1000000 with
      | false=>rw [b1,b2,b3] at h;cases h
      | true=>
       rw [b1,b2,b3] at h;obtain⟨l,g,h⟩:=D9 h;obtain⟨k,i,h⟩:=D9 h;cases b4:Nat.blt (len' (iD d k)) 1000000 with
       | false=>rw [b4] at h;cases h
       | true=>rw [b4] at h;cases h;obtain rfl:=l7 b1;exact aiV (.inl ⟨c,rfl,LA b2⟩) (b b3) g i (by have:=b b4;rwa [K7] at this)
    rename_i id j n p;dsimp only at h;cases b1:Nat.beq id base.nx with
    | false=>rw [b1] at h;cases h
    | true=>
     cases b3:Nat.blt n 1000000 with
     | false=>rw [b1,b3] at h;cases h
     | true=>
      rw [b1,b3] at h;obtain⟨l,g,h⟩:=D9 h;obtain⟨k,i,h⟩:=D9 h;cases b4:Nat.blt (len' (iD d k)) 1000000 with
      | false=>rw [b4] at h;cases h
      | true=>rw [b4] at h;cases h;obtain rfl:=l7 b1;exact aiV (.inr ⟨p,rfl⟩) (b b3) g i (by have:=b b4;rwa [K7] at this)
    cases h;rename_i d;cases h;exact vE (adC _ _ _) (λ_=>trivial) (λ_ _=>by simp [u7]) λι w _=>(by refine agM (Tryz.strings_Join_none none 0 ⟨d.toArray⟩ w) ?_;rintro e w' ⟨rfl,rfl⟩;exact⟨by simp [u7],Below.refl _ _⟩);cases h
theorem agf {f:FuncId}{args:List d9}{c:List NB}{a:EK}(h:akw f args c=some a):lF Tryz.prog base f args c a:=by unfold akw at h;split at h;split at h;split at h;rename_i i;obtain⟨rfl,e,g⟩:=i;cases h;exact ach _ e g;cases h;split at h;rename_i d;split at h;rename_i b;subst b;cases h;exact aci _ d;split at h;rename_i b;subst b;cases h;exact Vy _ d;cases h;cases h;cases h;cases h
theorem YF {P:Program}{f:FuncId}{sf:L6}(h:sI P f sf)(b:Bool):sI P f {sf with pure:=b}:=
 ⟨h.ok,h.is⟩
theorem agh:∀f args bs a,KW.sum f args bs=some a->lF Tryz.prog base f args bs a:=by
 intro f args bs a h;have h:wG f args bs=some a:=h;unfold wG at h;split at h;have c:∀s∈[qS],lF Tryz.prog base s.f s.args s.bs s.a:=λs d=>by rcases nA.1 d with rfl;exact qoS
 exact Cj [qS] c _ _ _ _ h;split at h;exact Xg h;split at h;rename_i b;subst b;exact Xg h;exact agf h
theorem ayE:KOk Tryz.prog KW:=by
 refine⟨mixed,λf sf h=>?_,⟨Ng,oV⟩,agh⟩;have h:(fns f).map (λsf=>{sf with pure:=Wt f})=some sf:=h;cases hf:fns f with
 | none=>rw [hf] at h;cases h
 | some s0=>rw [hf] at h;cases h;exact YF (aaC f s0 hf) _
end Go.Proofs.YtfnlnpllpfhhnaaGreatDoor.TT
namespace Go.AM
open Go
def slT (P:Program)(t:TypeId):Option TypeId:=match P.underlying t with
 | some (.slice e)=>some e
 | _=>none
def inT (P:Program)(t:TypeId):Option IntKind:=match P.underlying t with
 | some (.int k)=>some k
 | _=>none
theorem agi {P:Program}{m:Mem}{n:Nat}{t:TypeId}{k:IntKind}{vs:List d9}(h:inT P t=some k)(hs:GV P m (n+1) t vs):∃i,vs=[.int k i]∧(Lit.int k i).wf=true:=by unfold GV at hs;unfold inT at h;split at h;rename_i b a;rw [a] at hs;cases h;exact hs;cases h
theorem YG {P:Program}{m:Mem}{n:Nat}{t e:TypeId}{vs:List d9}(h:slT P t=some e)(hs:GV P m (n+1) t vs):vs=[.nilSlice]∨∃id len cap,vs=[.slice id 0 len cap]∧len<=cap∧cap<=maxLen∧
        ((cap=0∧m.get id=some .dead)∨∃rows,0<cap∧m.get id=some (.cells (P.cellsOf e) cap rows)∧∀i,i<cap->∃row,rows.get i=some row∧row.length=P.cellsOf e∧GV P m n e row):=by
 unfold GV at hs;unfold slT at h;split at h;rename_i b a;rw [a] at hs;cases h;exact hs;cases h
def alL (P:Program)(t:TypeId):Bool:=match P.underlying t with
 | some .string=>true
 | _=>false
theorem agj {P:Program}{m:Mem}{n:Nat}{t:TypeId}{vs:List d9}(h:alL P t=true)(hs:GV P m (n+1) t vs):∃s:List UInt8,vs=[.str s]:=by unfold GV at hs;unfold alL at h;split at h;rename_i b;rw [b] at hs;obtain⟨s,a,_⟩:=hs;exact⟨s,a⟩;cases h
end Go.AM
namespace Go.Proofs.YtfnlnpllpfhhnaaGreatDoor.TT
open Go Go.AM
theorem t3:inT Tryz.prog 3=some .i64:=by kernel_rfl
theorem c3:Tryz.prog.cellsOf 3=1:=by kernel_rfl
theorem t46:slT Tryz.prog 46=some 9:=by kernel_rfl
theorem c9:Tryz.prog.cellsOf 9=1:=by kernel_rfl
theorem t9:alL Tryz.prog 9=true:=by kernel_rfl
set_option maxRecDepth 100000
set_option maxHeartbeats 2000000
theorem Vz {m:Mem}(a:m.Ok){i:Nat}{b:Z6}(h:m.get i=some b):i<m.nx:=Mem.Q6 a h
noncomputable def ayF (b:Z6):Bool:=match b with
 | .cells 1 _ rows=>match rows.get 0 with
  | some [.str _]=>false
  | _=>true
 | _=>true
theorem agk:∀i,i<15->∀b,base.get i=some b->ayF b=true:=by
 intro i c b a;match i,c with
 | 0,_=>cases a;rfl
 | 1,_=>cases a;rfl
 | 2,_=>cases a;rfl
 | 3,_=>cases a;rfl
 | 4,_=>cases a;rfl
 | 5,_=>cases a;rfl
 | 6,_=>cases a;rfl
 | 7,_=>cases a;rfl
 | 8,_=>cases a;rfl
 | 9,_=>cases a;rfl
 | 10,_=>cases a;rfl
 | 11,_=>cases a;rfl
 | 12,_=>cases a;rfl
 | 13,_=>cases a;rfl
 | 14,_=>cases a;rfl
theorem agl {m:Mem}(q:m.Ok)(b:∀i,i<base.nx->m.get i=base.get i){n:Nat}{vs:List d9}(h:GV Tryz.prog m (n+2) 46 vs):∃v ws,vs=[v]∧Dsk m.nx m v ws∧Kn v:=by
 rcases YG t46 h with rfl | ⟨id,len,cap,rfl,hlc,_,hr⟩;exact⟨_,[],rfl,.inl ⟨rfl,.inl (.inl ⟨rfl,rfl⟩)⟩,λi o l e a=>by cases a⟩;rcases hr with⟨rfl,hd⟩ | ⟨rows,hc,hb,hrow⟩;obtain rfl:len=0:=by omega
 exact⟨_,[],rfl,.inl ⟨rfl,.inr ⟨rfl,id,0,.inl ⟨_,rfl⟩,Vz q hd⟩⟩,λi o l e a=>by cases a⟩;have t:∀i,∃s:List UInt8,i<cap->rows.get i=some [.str s]:=λi=>by by_cases j:i<cap;obtain⟨w,f,_,u⟩:=hrow i j;obtain⟨s,rfl⟩:=agj t9 u;exact⟨s,λ_=>f⟩;exact⟨[],λh=>absurd h j⟩
 let g:Nat->List UInt8:=λi=>Classical.choose (t i)
 have r:∀i,i<cap->rows.get i=some [.str (g i)]:=λi=>Classical.choose_spec (t i);rw [c9] at hb;have k:base.nx<=id:=by
  refine aln λd=>?_;have f:(match rows.get 0 with
   | some [.str _]=>false
   | _=>true)=true:=agk id d _ ((b id d).symm.trans hb)
  rw [r 0 hc] at f;cases f
 refine⟨_,((List.range cap).map g).take len,rfl,.inr ⟨.inr ⟨id,0,k,.inl ⟨cap,?_,?_⟩,Vz q hb,(List.range cap).map g,rows,by rw [hb];simp,λi j=>?_,?_,?_⟩,λi o l c a=>?_,λi o l e a=>by cases a⟩,λi o l e a=>by cases a⟩;simp [ae2 hlc];simp;omega;have p:i<cap:=by simpa using j
 simp only [List.getElem_map,List.getElem_range];exact r i p;simp;omega;simp [ae2 hlc];injection a with a;rw [← a];exact Vz q hb
open Go Go.AM Go.RowKit
theorem KY {w:World}{b o:Nat}{v:Value}(h:w.cell? ⟨b,o,none⟩=some v):∃c e fz,w.heap[b]?=some (Obj.cells c e fz)∧c[o]?=some v:=by unfold World.cell? at h;split at h;rename_i c e fz a;exact⟨c,e,fz,a,by simpa using h⟩;cases h
theorem fA {P:Program}{ι:N9}{n:Nm}{w:World}{l:AM.Loc}{row:List d9}{N:Nat}(p:row.length=N)(h0:0<N)(u:l.cap=N)(f:eU n row)
  (h:∀j v,row[j]?=some v->w.cell? ⟨l.b,l.base+j,none⟩=some (u7 ι v)):gW P ι n w.heap l (.cells N 1 (T.ofList [row])):=by
 subst p;obtain⟨c,e,m,g,q⟩:=KY (h (row.length-1) row[row.length-1] (by simp));refine⟨c,e,m,g,?_,⟨by omega,1,aA _,T.kK [_]⟩,λi t=>?_⟩;have:=(wu.1 q).1;omega;obtain rfl:i=0:=by omega
 refine⟨row,rfl,rfl,f,λj k=>?_⟩;obtain⟨r,s,o,a,d⟩:=KY (h j row[j] (by simp [k]));rw [g] at a;cases a;simpa [k] using d
theorem vI (n:Nm)(k:IntKind):∀l:List Int,eU n (l.map (d9.int k))
 | []=>trivial
 | _::l=>⟨trivial,vI n k l⟩
theorem NH {P:Program}{w:World}{n:String}{g:Nat}{cs:Array Value}(b:P.globalNamed n=some g)(h:w.var? P n=some cs):∃e fz,w.heap[g]?=some (Obj.cells cs e fz):=by unfold World.var? at h;rw [b] at h;simp only [U1] at h;split at h;rename_i c e fz a;cases h;exact⟨e,fz,a⟩;cases h
theorem AQ {P:Program}{w:World}{n:String}{g:Nat}{k:IntKind}{ns:List Int}(d:P.globalNamed n=some g)(h:Lib.TabIs P w n k ns)(ι:N9):∀j v,(ns.map (d9.int k))[j]?=some v->w.cell? ⟨g,0+j,none⟩=some (u7 ι v):=by intro j v a;rw [acs,adV] at a;obtain⟨z,b,rfl⟩:=a;have c:=(gB.1 b).1;rw [W9,h.cell d j c];simp [u7,List.getD,b]
theorem gn2:Tryz.prog.globalNamed "strconv.ErrSyntax"=some 2:=by kernel_rfl
theorem gn3:Tryz.prog.globalNamed "strconv.ErrRange"=some 3:=by kernel_rfl
theorem gn8:Tryz.prog.globalNamed "math/bits.deBruijn32tab"=some 8:=by kernel_rfl
theorem gn9:Tryz.prog.globalNamed "math/bits.deBruijn64tab"=some 9:=by kernel_rfl
def Ht (bT oT R oR:Nat)(a2 a3:Addr):N9:=λi=>⟨if i=11 then bT else if i=12 then R else if i=13 then a2.block else if i=14 then a3.block else i,
 if i=11 then oT else if i=12 then oR else if i=13 then a2.off else if i=14 then a3.off else 0,
 if i=0 then 256 else if i=1 then 1 else if i=2 then 1 else if i=3 then 1 else if i=5 then 20 else if i=8 then 32 else if i=9 then 64 else if i=11 then 3 else if i=12 then 21 else 0,
 if i=13 then a2.spot else if i=14 then a3.spot else none⟩
theorem agm {w:World}{x1:Value}{U V:Addr}(Y:Lib.TabIs Tryz.prog w "strings.asciiSpace" .u8 nsA)(Z:Lib.TabIs Tryz.prog w "internal/strconv.uint64pow10" .u64 nsP)
  (C:Lib.TabIs Tryz.prog w "math/bits.deBruijn32tab" .u8 adE) (D:Lib.TabIs Tryz.prog w "math/bits.deBruijn64tab" .u8 adF) (hW:Lib.WhiteTab 1 w) (W:w.var? Tryz.prog "unicode.White_Space"=some #[x1])
  (E:w.var? Tryz.prog "strconv.ErrSyntax"=some #[.iface 486 (.pointer (some U))]) (X:w.var? Tryz.prog "strconv.ErrRange"=some #[.iface 486 (.pointer (some V))]):∃ι,RM Tryz.prog base ι (P7 base []) w.heap:=by
 obtain⟨bT,oT,R,oR,w1,w2,w3,w4,w5⟩:=hW;refine⟨Ht bT oT R oR U V,?_⟩;have z:base.nx=15:=rfl;have m:T.Ok base.t base.nx:=oV.ok;have G:base.get 0=some (.cells nsA.length 1 (T.ofList [nsA.map (d9.int .u8)])):=rfl;have H:base.get 1=some (.cells 1 1 (T.ofList [[d9.ptr 11 0]])):=rfl;have I:base.get 2=some (.cells 1 1 (T.ofList [[d9.iface 486 (.ptr 13 0)]])):=rfl;have J:base.get 3=some (.cells 1 1 (T.ofList [[d9.iface 486 (.ptr 14 0)]])):=rfl;have K:base.get 4=some .dead:=rfl;have L:base.get 5=some (.cells nsP.length 1 (T.ofList [nsP.map (d9.int .u64)])):=rfl;have M:base.get 6=some .dead:=rfl;have O:base.get 7=some .dead:=rfl;have P:base.get 8=some (.cells adE.length 1 (T.ofList [adE.map (d9.int .u8)])):=rfl;have Q:base.get 9=some (.cells adF.length 1 (T.ofList [adF.map (d9.int .u8)])):=rfl;have q:base.get 10=some .dead:=rfl;have A:base.get 11=some (.cells 3 1 (T.ofList [[.slice 12 0 7 7,.nilSlice,.int .i64 2]])):=rfl;have B:base.get 12=some (.cells nsW.length 1 (T.ofList [nsW.map (d9.int .u16)])):=rfl;have r:base.get 13=some .dead:=rfl;have s:base.get 14=some .dead:=rfl;have y:∀i b,base.get i=some b->jT b=false->(P7 base []).has i:=λi b y f=>⟨b,y,f⟩;refine⟨m,λi b a=>?_,λi b l a=>?_,aA _,aA _,by rw [EJ,z];omega,λi l=>rfl,λi l=>?_,λi l=>?_,λi b a hl=>?_,λi rs k a0 l d=>?_⟩;have a:base.get i=some b:=a;have l:i<15:=Mem.Q6 m a;match i,l with
 | 0,_=>rw [G] at a;cases a;exact fA (by simp) (by decide) rfl (vI _ _ _) (AQ gn0 Y _)
 | 1,_=>
  rw [H] at a;cases a;refine fA (by rfl) (by decide) rfl ⟨y 11 _ A rfl,trivial⟩ λj v f=>?_;obtain rfl:j=0:=by have:=(gB.1 f).1;simpa using this
  cases f;simpa [u7,N9.at,Ht] using w1
 | 2,_=>
  rw [I] at a;cases a;refine fA (by rfl) (by decide) rfl ⟨y 13 _ r rfl,trivial⟩ λj v f=>?_;obtain rfl:j=0:=by have:=(gB.1 f).1;simpa using this
  cases f;have:=World.var?_cell gn2 E 0;simpa [u7,N9.at,Ht] using this
 | 3,_=>
  rw [J] at a;cases a;refine fA (by rfl) (by decide) rfl ⟨y 14 _ s rfl,trivial⟩ λj v f=>?_;obtain rfl:j=0:=by have:=(gB.1 f).1;simpa using this
  cases f;have:=World.var?_cell gn3 X 0;simpa [u7,N9.at,Ht] using this
 | 4,_=>rw [K] at a;cases a;trivial
 | 5,_=>rw [L] at a;cases a;exact fA (by simp) (by decide) rfl (vI _ _ _) (AQ gn5 Z _)
 | 6,_=>rw [M] at a;cases a;trivial
 | 7,_=>rw [O] at a;cases a;trivial
 | 8,_=>rw [P] at a;cases a;exact fA (by simp) (by decide) rfl (vI _ _ _) (AQ gn8 C _)
 | 9,_=>rw [Q] at a;cases a;exact fA (by simp) (by decide) rfl (vI _ _ _) (AQ gn9 D _)
 | 10,_=>rw [q] at a;cases a;trivial
 | 11,_=>
  rw [A] at a;cases a;refine fA (by rfl) (by decide) rfl ⟨y 12 _ B rfl,trivial,trivial,trivial⟩ λj v f=>?_;have F:=(gB.1 f).1;match j,F with
  | 0,_=>cases f;simpa [u7,N9.at,Ht] using w2
  | 1,_=>cases f;simpa [u7,N9.at,Ht] using w3
  | 2,_=>cases f;simpa [u7,N9.at,Ht] using w4
 | 12,_=>
  rw [B] at a;cases a;refine fA (by simp) (by decide) rfl (vI _ _ _) λj v f=>?_;have h:∀i,i<21->nsW[i]?=some ((Lib.whiteT.getD i 0:Nat):Int):=by decide
  have F:j<21:=by have:=(gB.1 f).1;simpa [nsW] using this
  rw [acs,h j F] at f;cases f;simpa [u7,N9.at,Ht] using w5 j F
 | 13,_=>rw [r] at a;cases a;trivial
 | 14,_=>rw [s] at a;cases a;trivial
 have a:base.get i=some b:=a;have W:i<15:=Mem.Q6 m a;have E:base.nx<=i:=l;rw [z] at E;omega;rw [EJ] at l;match i,l with
 | 0,_=>exact⟨_,G,rfl⟩
 | 1,_=>exact⟨_,H,rfl⟩
 | 2,_=>exact⟨_,I,rfl⟩
 | 3,_=>exact⟨_,J,rfl⟩
 | 4,_=>exact⟨_,K,rfl⟩
 | 5,_=>exact⟨_,L,rfl⟩
 | 6,_=>exact⟨_,M,rfl⟩
 | 7,_=>exact⟨_,O,rfl⟩
 | 8,_=>exact⟨_,P,rfl⟩
 | 9,_=>exact⟨_,Q,rfl⟩
 | 10,_=>exact⟨_,q,rfl⟩
 rw [EJ] at l;match i,l with
 | 0,_ | 1,_ | 2,_ | 3,_ | 4,_ | 5,_ | 6,_ | 7,_ | 8,_ | 9,_ | 10,_=>exact⟨rfl,rfl,rfl⟩
 have a:base.get i=some b:=a;have l:i<15:=Mem.Q6 m a;match i,l with
 | 0,_ | 1,_ | 2,_ | 3,_ | 4,_ | 5,_ | 6,_ | 7,_ | 8,_ | 9,_ | 10,_ | 11,_ | 12,_=>rfl
 | 13,_=>rw [r] at a;cases a;cases hl
 | 14,_=>rw [s] at a;cases a;cases hl
 rw [EJ] at l;have o:∀{n:String} {k:IntKind} {ns:List Int} {g N:Nat},Tryz.prog.globalNamed n=some g->ns.length=N->Lib.TabIs Tryz.prog w n k ns->∃c e p,w.heap[g]?=some (Obj.cells c e p)∧c.size=1*N:=λz hN S=>by obtain⟨e,p,h⟩:=NH z S;exact⟨_,e,p,h,by simp [hN]⟩
 have u:∀{n:String} {x:Value} {g:Nat},Tryz.prog.globalNamed n=some g->w.var? Tryz.prog n=some #[x]->∃c e p,w.heap[g]?=some (Obj.cells c e p)∧c.size=1*1:=λz S=>by obtain⟨e,p,h⟩:=NH z S;exact⟨_,e,p,h,rfl⟩
 match i,l with
 | 0,_=>rw [G] at d;cases d;exact o gn0 rfl Y
 | 1,_=>rw [H] at d;cases d;exact u gn1 W
 | 2,_=>rw [I] at d;cases d;exact u gn2 E
 | 3,_=>rw [J] at d;cases d;exact u gn3 X
 | 4,_=>rw [K] at d;cases d
 | 5,_=>rw [L] at d;cases d;exact o gn5 rfl Z
 | 6,_=>rw [M] at d;cases d
 | 7,_=>rw [O] at d;cases d
 | 8,_=>rw [P] at d;cases d;exact o gn8 rfl C
 | 9,_=>rw [Q] at d;cases d;exact o gn9 rfl D
 | 10,_=>rw [q] at d;cases d
open Go Go.AM Go.ChangeShapes Go.WideShapes Go.ChangeAt Go.RowKit
theorem laidOut:laidOutB Tryz.prog=true:=by kernel_rfl
theorem SN {H:Type}{enc:TypeId×Value->H}{P:Program}{f:Func}{s:ChangeSpec}{c n d m:Bool}{W W':World}{args:Array Value}{v:Value}{o q:List (DataW H)}{before pa pv:List MemPlace}
  (w:DataW.Whole enc P f.params.toList s.vars c W args.toList o q before)
  (l:∀(b:Nat) (sp:Nat->Bool) (hd:Bool),DataW.TrodAll enc P W' b sp hd f.resultTypes.toList (v.resultList f.resultTypes.size) (s.fn H (o++q)).results [])
  (e:∀sp:Nat->Bool,(∀p∈before,sp p.block=true)->DataW.TrodAll enc P W' 0 sp true f.params.toList args.toList (s.fn H (o++q)).args pa)
  (g:∀sp:Nat->Bool,(∀p∈before,sp p.block=true)->DataW.TrodVars enc P W' sp s.vars (s.fn H (o++q)).vars pv)
  (i:before=pa++pv) (C:W.keptBut W' (·∈before)) (x:∀a,a.block<W.heap.size->W'.frozen? a=W.frozen? a)
  (z:∀(j:Nat) (t:TypeId) (r:Value),f.resultTypes[j]?=some t->(v.resultList f.resultTypes.size)[j]?=some r->Value.okWide P W' .any 0 t r):
  s.post enc P f c n d m W args v W':=by
 have k:∀p∈before,(λb=>decide (b<W.heap.size)) p.block=true:=λp h=>by simpa using w.lt p h
 have y:=w.lt;refine⟨o,q,before,[],pa,pv,w,l _ _ _,e _ k,g _ k,World.keptBut_mono (λp h=>⟨h,?_⟩) C,λ_=>?_⟩;rw [i,O5] at h;exact Or.inr h;obtain⟨_,_,_,_,_,E,D⟩:=w;refine⟨z,_,_,([]++pa)++pv,⟨[]++pa,pv,trodAll_append (e _ (λ_ _=>rfl)) (l _ _ _),g _ (λ_ _=>rfl),rfl,?_,?_⟩,?_⟩;intro b u h;have A:MemPlace.cell b u∈before:=by rw [i];simpa using h
 rw [x _ (y _ A)];exact E b u A;intro B;have:=D B;rw [i] at this;simpa using this;intro p h _;rw [i];simpa using h
variable {H:Type}{enc:TypeId×Value->H}{held:Bool}
theorem aE1:FK Tryz.prog 7 3=true:=by kernel_rfl
theorem ayG:FK Tryz.prog 7 46=true:=by kernel_rfl
theorem alM {ι:N9}{m:Mem}{w:World}(A:RM Tryz.prog base ι m w.heap)(z:m.lim=m.nx){G I:Nat}{cs0 cs1:List Value}{O Q:DataW H×List MemPlace}
  (h0:DataW.trod enc Tryz.prog w 0 (λ_=>true) held G 3 cs0=some O) (t:DataW.trod enc Tryz.prog w 0 (λ_=>true) held I 46 cs1=some Q):
  ∃v0 v1,cs0=[v0]∧cs1=[v1]∧Calls Tryz.prog 5 #[v0,v1] w λe w'=>e=.returned (.bool true)∧w.heap.size<=w'.heap.size∧(∀b,b<w.heap.size->w'.heap[b]?=w.heap[b]?)∧w'.os=w.os∧w'.output=w.output∧w'.tape=w.tape:=by
 obtain⟨j,F,L,L0,o,l,S0⟩:=lift 7 _ _ _ _ h0 aE1 ι m A z;obtain⟨a,n,M,L1,p,D,S1⟩:=lift 7 _ _ _ _ t ayG j F L0.rm L0.lim;have T0:=L1;have S0:=Eb (P:=Tryz.prog) T0.get _ _ _ S0;have h:n.Ok:=L1.rm.ok;obtain⟨d,rfl,R⟩:=agi t3 S0;obtain⟨f,N,rfl,q,s⟩:=agl h L1.rm.base S1;obtain⟨S,g,E⟩:=ayl h (Nat.le_of_eq L1.lim) q s d 0 50001 (aA _);have B:C8 a [.int .i64 d]=cs0:=by rw [T0.u7 l];exact o
 have J:=T0.lt l;have C:C8 a [f]=cs1:=by exact p
 have K:=D;refine⟨u7 a (.int .i64 d),u7 a (f),by rw [← B];simp [C8],by rw [← C];simp [C8],?_⟩;have c:eU (n.nm a) [.int .i64 d,f]:=⟨J.1,K.1,trivial⟩;have k:=((MH ayE 50001 211).func g).2 L1.rm c;have y:(C8 a [.int .i64 d,f]).toArray=#[u7 a (.int .i64 d),u7 a (f)]:=by simp [C8]
 rw [y] at k;refine callsIn_wide.1 (k.mono ?_);rintro e w' (⟨u,rfl,r,hr,ι9,hst,hlt,rfl⟩ | ⟨r,hr,x,ι9,hx,_⟩);obtain rfl:=nA.1 hr;refine⟨by simp [u7],hst.size,λb v=>hst.frame b v ?_,hst.os,hst.out,hst.tape⟩;rintro⟨i,x,hi,hx,_,_⟩;have:=Mem.Q6 h hx;have:=L1.lim;omega;obtain rfl:=nA.1 hr;cases hx
end Go.Proofs.YtfnlnpllpfhhnaaGreatDoor.TT
