/- What is known of the library, and the row of RoomCrashes in the evaluator's words; conditions: the row's own. -/
import Derived.Test.YtfnlnpllpfhhnaaGreatDoorPD7
import Derived.Test.YtfnlnpllpfhhnaaGreatDoorPC11
import Derived.Shelf.Strconv.Itoa3
import Derived.Shelf.Strconv.AtoiAll
import Derived.Shelf.Strings.FieldsAny
import Derived.Test.YtfnlnpllpfhhnaaGreatDoorProg
import Derived.Shelf.Strings.OnBuilder
import Derived.Shelf.Strings.Search3
import Derived.Shelf.Strings.Count
import Derived.Lib.AppendIntMem
import Derived.OpenShut
import Derived.ProofKit
import Derived.LaidMore
import Derived.ChangeSame
import Derived.Carry
import Derived.Below
set_option linter.all false
namespace Go.Proofs
open Go.Shelf
set_option maxRecDepth 100000
def Tryz.NW:Go.Shelf.Ren:=⟨fun | 171=>147 | 243=>244 | 246=>314 | 283=>410 | 284=>411 | 285=>412 | 286=>413 | 129=>344 | 317=>458 | 318=>459 | 319=>460 | 320=>461 | 337=>483 | 338=>484 | n=>n,fun | 3=>3 | 9=>9 | 2=>2 | 4=>4 | 171=>471 | 0=>0 | 53=>396 | 37=>230 | 5=>5 | 173=>473 | 212=>518 | 51=>309 | 20=>20 | 213=>519 | 46=>77 | 232=>546 | 233=>547 | n=>n,fun | 17=>5 | 18=>8 | 19=>9 | n=>n⟩
theorem Tryz.acY:Go.Proofs.LaysM.n171 Tryz.prog Tryz.NW:=by constructor<;>first | kernel_rfl | exact λ_=>by kernel_rfl | (constructor<;>first | kernel_rfl | exact λ_=>by kernel_rfl | decide) | decide
open Go.RowKit Go.Sort Go.Lib in
theorem Tryz.strconv_Itoa (n:Int)(h0:-9223372036854775808<=n)(b:n<=9223372036854775807)(w:World)(a:Lib.TabIs Tryz.prog w "internal/strconv.uint64pow10" .u64 Lib.pow10Tab):
  Calls Tryz.prog 147 #[.int .i64 n] w λe w'=>e=.returned (.string ⟨(Lib.itoa n).toArray⟩)∧∃k os,w'=grow (w.drewN k) os:=Any.strconv_Itoa Tryz.acY n h0 b w a
def Tryz.NY:Go.Shelf.Ren:=⟨fun | 172=>93 | 244=>178 | 245=>179 | 247=>258 | 279=>259 | 280=>260 | 281=>261 | 282=>262 | 287=>329 | 316=>330 | 171=>147 | 205=>331 | 321=>424 | 322=>425 | 243=>244 | 246=>314 | 283=>410 | 284=>411 | 285=>412 | 286=>413 | 129=>344 | 317=>458 | 318=>459 | 319=>460 | 320=>461 | 337=>483 | 338=>484 | n=>n,fun | 9=>9 | 3=>3 | 75=>174 | 76=>175 | 4=>4 | 5=>5 | 167=>327 | 37=>230 | 0=>0 | 85=>328 | 2=>2 | 168=>330 | 53=>396 | 175=>397 | 46=>77 | 210=>401 | 127=>333 | 145=>488 | 143=>486 | 21=>21 | 171=>471 | 173=>473 | 212=>518 | 51=>309 | 20=>20 | 213=>519 | 232=>546 | 233=>547 | 80=>220 | n=>n,fun | 15=>2 | 16=>3 | 17=>5 | 18=>8 | 19=>9 | n=>n⟩
theorem Tryz.JI:Go.Proofs.LaysC.n172 Tryz.prog Tryz.NY:=by constructor<;>first | kernel_rfl | exact λ_=>by kernel_rfl | (constructor<;>first | kernel_rfl | exact λ_=>by kernel_rfl | (constructor<;>first | kernel_rfl | exact λ_=>by kernel_rfl))
def Tryz.Rf:Go.Shelf.Ren:=⟨fun | 157=>83 | 229=>164 | 199=>165 | 261=>245 | 311=>315 | 312=>316 | n=>n,fun | 9=>9 | 31=>46 | 3=>3 | 5=>5 | 4=>4 | 119=>217 | 0=>0 | 40=>219 | 152=>306 | 21=>21 | 154=>308 | 51=>309 | 141=>311 | 196=>383 | 193=>380 | 198=>386 | 49=>384 | 194=>381 | 201=>389 | 226=>475 | 46=>77 | 227=>476 | n=>n,fun | 0=>0 | 6=>1 | n=>n⟩
theorem Tryz.agv:Go.Proofs.Lays.n157 Tryz.prog Tryz.Rf:=by constructor<;>first | kernel_rfl | exact λ_=>by kernel_rfl | (constructor<;>first | kernel_rfl | exact λ_=>by kernel_rfl | decide) | decide
def Tryz.Ga:Go.Shelf.Ren:=⟨fun | 199=>165 | 261=>245 | 311=>315 | 312=>316 | n=>n,fun | 21=>21 | 4=>4 | 51=>309 | 141=>311 | 0=>0 | 196=>383 | 193=>380 | 3=>3 | 198=>386 | 49=>384 | 194=>381 | 201=>389 | 226=>475 | 46=>77 | 227=>476 | n=>n,fun | 6=>1 | n=>n⟩
theorem Tryz.agw:Go.Proofs.Lays.n199 Tryz.prog Tryz.Ga:=by constructor<;>first | kernel_rfl | exact λ_=>by kernel_rfl | (constructor<;>first | kernel_rfl | exact λ_=>by kernel_rfl | decide) | decide
open Go.RowKit Go.Lib in
theorem Tryz.strings_Fields_any (s:ByteArray)(w:World)(hs:s.size<4294967281)(a:Lib.TabIs Tryz.prog w "strings.asciiSpace" .u8 Lib.asciiSpaceTab)(b:Lib.WhiteTab 1 w):
  Calls Tryz.prog 83 #[.string s] w λe w'=>∃A,e=.returned (.slice (some ⟨A,0,none⟩) (Lib.fieldsD s.data.toList).length (Lib.fieldsD s.data.toList).length)∧w.heap.size<=A∧
   w'.ownsRow w.heap.size 9 1 (.slice (some ⟨A,0,none⟩) (Lib.fieldsD s.data.toList).length (Lib.fieldsD s.data.toList).length) (Lib.fieldsD s.data.toList).length ((Lib.fieldsD s.data.toList).map λx=>Value.string ⟨x.toArray⟩)∧Below w.heap.size w w':=Any.strings_Fields_any Tryz.agv (by kernel_rfl) (by kernel_rfl) (by kernel_rfl) s w hs a b
def Tryz.Gb:Go.Shelf.Ren:=⟨fun | 156=>94 | 165=>180 | 166=>181 | 169=>182 | 240=>263 | 241=>264 | 276=>332 | 277=>333 | n=>n,fun | 31=>46 | 9=>9 | 3=>3 | 4=>4 | 0=>0 | 20=>20 | 72=>235 | 76=>175 | 70=>233 | 37=>230 | 75=>174 | 127=>333 | 164=>403 | 5=>5 | 80=>220 | n=>n,fun | n=>n⟩
theorem Tryz.NZ:Go.Proofs.Lays.n156 Tryz.prog Tryz.Gb:=by constructor<;>first | kernel_rfl | exact λ_=>by kernel_rfl | (constructor<;>first | kernel_rfl | exact λ_=>by kernel_rfl | decide) | decide
theorem Tryz.lS:Builder.Extra Tryz.prog Tryz.Gb:=by constructor<;>first | kernel_rfl | exact λ_=>by kernel_rfl | (constructor<;>first | kernel_rfl | exact λ_=>by kernel_rfl | decide) | decide
open Go.RowKit in
theorem Tryz.strings_Join_none (a:Option Addr)(c:Nat)(b:ByteArray)(w:World):
  Calls Tryz.prog 94 #[.slice a 0 c,.string b] w λe w'=>e=.returned (.string ⟨#[]⟩)∧w'=w:=Any.strings_Join_none Tryz.NZ Tryz.lS a c b w
def Tryz.Rh:Go.Shelf.Ren:=⟨fun | 143=>257 | 219=>328 | 217=>420 | 225=>421 | 224=>422 | 267=>423 | 266=>466 | 314=>467 | n=>n,fun | 9=>9 | 3=>3 | 4=>4 | 5=>5 | 46=>77 | 146=>525 | 51=>309 | n=>n,fun | 1=>4 | n=>n⟩
theorem Tryz.agx:Go.Proofs.Lays.n143 Tryz.prog Tryz.Rh:=by constructor<;>first | kernel_rfl | exact λ_=>by kernel_rfl | (constructor<;>first | kernel_rfl | exact λ_=>by kernel_rfl | decide) | decide
open Go.RowKit Go.Lib in
theorem Tryz.strings_Index_one (s:ByteArray)(c:UInt8)(w:World):
  Calls Tryz.prog 257 #[.string s,.string ⟨#[c]⟩] w λe w'=>e=.returned (.int .i64 (Lib.indexByte s.data.toList c))∧w'=w:=Any.strings_Index_one Tryz.agx s c w
def Tryz.Ri:Go.Shelf.Ren:=⟨fun | 138=>256 | 195=>325 | 218=>327 | 143=>257 | 219=>328 | 217=>420 | 225=>421 | 224=>422 | 267=>423 | 266=>466 | 314=>467 | n=>n,fun | 9=>9 | 3=>3 | 4=>4 | 5=>5 | 0=>0 | 46=>77 | 146=>525 | 51=>309 | n=>n,fun | 1=>4 | n=>n⟩
theorem Tryz.agy:Go.Proofs.Lays.n138 Tryz.prog Tryz.Ri:=by constructor<;>first | kernel_rfl | exact λ_=>by kernel_rfl | (constructor<;>first | kernel_rfl | exact λ_=>by kernel_rfl | decide) | decide
open Go.RowKit Go.Lib in
theorem Tryz.strings_Count_one (s:ByteArray)(c:UInt8)(w:World):
  Calls Tryz.prog 256 #[.string s,.string ⟨#[c]⟩] w λe w'=>e=.returned (.int .i64 (Lib.countByte s.data.toList c))∧w'=w:=Any.strings_Count_one Tryz.agy s c w
end Go.Proofs
namespace Go.Proofs.YtfnlnpllpfhhnaaGreatDoor.TT
open Go Go.AM Go.RowKit
set_option linter.unusedSimpArgs false
set_option linter.unusedVariables false
set_option maxRecDepth 100000
section
variable {P:Program}{G:Mem}{ι:K7}{m:Mem}{w:World}
theorem alV {n:String}{g:Nat}{cs:Array Value}{e:TypeId}{a:Nat×Nat}(b:P.globalNamed n=some g)(h:w.heap[g]?=some (.cells cs e a)):w.var? P n=some cs:=by unfold World.var?;rw [b];simp [h]
theorem agz (b:RM P G ι m w.heap){i:Nat}{k:IntKind}{ns:List Int}(hi:i<P.globals.size)(g:G.get i=some (.cells ns.length 1 (T.ofList [ns.map (d9.int k)]))):
  ∃e fz,w.heap[i]?=some (.cells (ns.map (Value.int k)).toArray e fz):=by
 obtain⟨c,e,fz,l,x,_,r⟩:=b.blk i _ ((b.base i (nA hi b.gle)).trans g);obtain⟨p,q,v⟩:=b.glob i hi;obtain⟨t,u,o,a,y⟩:=b.gsz i _ _ _ hi g;rw [p,a] at l;cases l;obtain⟨f,n,z,A,s⟩:=r 0 (by omega);have d:f=ns.map (d9.int k):=by rw [T.aV] at n;simpa using n.symm
 subst d;suffices h:c=(ns.map (Value.int k)).toArray by rw [h] at a;exact⟨_,_,a⟩
 apply akc;intro j;by_cases hj:j<ns.length;have:=s j hj;rw [q,adD,S9,S9] at this;rw [this];simp [hj,o8];rw [amT (by omega),amT (by simp;omega)]
theorem acZ (b:RM P G ι m w.heap){i:Nat}{n:String}{k:IntKind}{ns:List Int}(c:P.globalNamed n=some i)(hi:i<P.globals.size)(a:G.get i=some (.cells ns.length 1 (T.ofList [ns.map (d9.int k)]))):Lib.TabIs P w n k ns:=by obtain⟨e,d,h⟩:=agz b hi a;exact alV c h
theorem cell_of (l:RM P G ι m w.heap){i rs:Nat}{r:List d9}(h:m.get i=some (.cells rs 1 (T.ofList [r]))){j:Nat}{v:d9}(k:j<rs)(o:r[j]?=some v):w.cell? ⟨(ι i).b,(ι i).base+j,none⟩=some (o8 ι v):=by
 obtain⟨c,e,q,g,s,_,n⟩:=l.blk i _ h;obtain⟨d,f,t,u,p⟩:=n 0 (by omega);have a:d=r:=by rw [T.aV] at f;simpa using f.symm
 subst a;have:=p j k;rw [adD,S9] at this;simp [World.cell?,g,this,o]
theorem Dw {v:d9}(n:Nat)(a:qE n [v]=[])(b:∀r,nK r [v]=some [v])(m:Mem):zX n ⟨v,m⟩=some ⟨v,[]⟩:=by show ob (jw n [v] m) _=_;rw [uY m a b];rfl
end
section
variable {ι:K7}{w:World}
theorem Dx:Tryz.prog.globals.size=11:=by kernel_rfl
theorem gn0:Tryz.prog.globalNamed "strings.asciiSpace"=some 0:=by kernel_rfl
theorem gn1:Tryz.prog.globalNamed "unicode.White_Space"=some 1:=by kernel_rfl
theorem gn5:Tryz.prog.globalNamed "internal/strconv.uint64pow10"=some 5:=by kernel_rfl
theorem aEC (a:RM Tryz.prog base ι (K9 base []) w.heap):Lib.TabIs Tryz.prog w "strings.asciiSpace" .u8 Lib.asciiSpaceTab:=by have h:=acZ (ns:=nsA) (k:=.u8) a gn0 (by rw [Dx];omega) rfl;rw [show Lib.asciiSpaceTab=nsA by decide +kernel];exact h
theorem aED (a:RM Tryz.prog base ι (K9 base []) w.heap):Lib.TabIs Tryz.prog w "internal/strconv.uint64pow10" .u64 Lib.pow10Tab:=by have h:=acZ (ns:=nsP) (k:=.u64) a gn5 (by rw [Dx];omega) rfl;rw [show Lib.pow10Tab=nsP by decide +kernel];exact h
theorem white (c:RM Tryz.prog base ι (K9 base []) w.heap):Lib.WhiteTab 1 w:=by
 have l:(K9 base []).get 1=some (.cells 1 1 (T.ofList [[d9.ptr 11 0]])):=rfl;have a:(K9 base []).get 11=some (.cells 3 1 (T.ofList [[.slice 12 0 7 7,nS,iV 2]])):=rfl;have d:(K9 base []).get 12=some (.cells 21 1 (T.ofList [nsW.map (d9.int .u16)])):=rfl;have e:=c.spot 11 _ a rfl;have f:=c.spot 12 _ d rfl;obtain⟨k,m,_⟩:=c.glob 1 (by rw [Dx];omega);refine⟨(ι 11).b,(ι 11).base,(ι 12).b,(ι 12).base,?_,?_,?_,?_,λi g=>?_⟩;have:=cell_of c l (j:=0) (by omega) rfl;rw [k,m] at this;simpa [o8,K7.at,e] using this;have:=cell_of c a (j:=0) (by omega) rfl;simpa [o8,K7.at,f] using this;have:=cell_of c a (j:=1) (by omega) rfl;simpa [o8] using this;have:=cell_of c a (j:=2) (by omega) rfl;simpa [o8] using this;have h:∀i,i<21->nsW[i]?=some ((Lib.whiteT.getD i 0:Nat):Int):=by decide
 have:=cell_of c d (j:=i) (v:=.int .u16 ((Lib.whiteT.getD i 0:Nat):Int)) g (by rw [adf,h i g];rfl);simpa [o8] using this
theorem aEE (a:RM Tryz.prog base ι (K9 base []) w.heap):∃ev,w.cell? ⟨2,0,none⟩=some ev∧(ev=.nilIface∨∃te pe,ev=.iface te pe):=by have c:(K9 base []).get 2=some (.cells 1 1 (T.ofList [[d9.iface 486 (.ptr 13 0)]])):=rfl;obtain⟨b,d,_⟩:=a.glob 2 (by rw [Dx];omega);have:=cell_of a c (j:=0) (by omega) rfl;rw [b,d] at this;exact⟨o8 ι (.iface 486 (.ptr 13 0)),by simpa using this,.inr ⟨_,_,rfl⟩⟩
theorem aEF (a:RM Tryz.prog base ι (K9 base []) w.heap):∃ev,w.cell? ⟨3,0,none⟩=some ev∧(ev=.nilIface∨∃te pe,ev=.iface te pe):=by have c:(K9 base []).get 3=some (.cells 1 1 (T.ofList [[d9.iface 486 (.ptr 14 0)]])):=rfl;obtain⟨b,d,_⟩:=a.glob 3 (by rw [Dx];omega);have:=cell_of a c (j:=0) (by omega) rfl;rw [b,d] at this;exact⟨o8 ι (.iface 486 (.ptr 14 0)),by simpa using this,.inr ⟨_,_,rfl⟩⟩
end
theorem ad1 (n:Int)(h0:-9223372036854775808<=n)(a:n<=9223372036854775807):jM Tryz.prog base 147 [iV n] [] ⟨.str (Lib.itoa n),[]⟩:=
 tZ (Dw _ rfl (λ_=>rfl) _) (λ_=>trivial) (λ_ _=>by simp [o8]) λι w b=>by refine ajr (Tryz.strconv_Itoa n h0 a w (aED b)) ?_;rintro e w' ⟨rfl,k,os,rfl⟩;exact⟨by simp [o8],Lib.below_grow _ w (aA _) k os⟩
theorem ad2 (s:List UInt8)(hs:s.length<1000000):jM Tryz.prog base 93 [.str s] [] (Dl s):=by
 unfold Dl;cases h:Lib.atoiAll s with
 | ok v=>refine tZ (Dw _ rfl (λ_=>rfl) _) (λ_=>⟨trivial,trivial,trivial⟩) (λ_ _=>by simp [o8,A8]) λι w b=>?_;refine ajr (Any.strconv_Atoi_ok Tryz.JI ⟨s.toArray⟩ (by simp [ByteArray.size];omega) v (by simpa using h) w) ?_;rintro e w' ⟨rfl,hw⟩;refine⟨by simp [o8,A8],?_⟩;rcases hw with rfl | ⟨t,rfl⟩;exact Below.refl _ _;exact Lib.bytesWorld_below _ _ _
 | range=>refine Nk (nb:=.dead) (Qp ny.ok _ 330) λι w b=>?_;obtain⟨c,d,a⟩:=aEF b;refine ajr (Any.strconv_Atoi_range Tryz.JI ⟨s.toArray⟩ (by simp [ByteArray.size];omega) (by simpa using h) c w d a) ?_;rintro e w' ⟨N,rfl,hN,hc,hb⟩;refine⟨⟨N,0,0,none⟩,?_,hb,hN,?_,trivial,λh=>by cases h⟩;simp [o8,A8,K7.at];rfl;refine⟨trivial,⟨.dead,?_,rfl⟩,trivial⟩;rw [Mem.Q5 (m:=K9 base []) ny.ok];exact if_pos rfl
 | _=>refine Nk (nb:=.dead) (Qp ny.ok 0 330) λι w b=>?_;obtain⟨c,d,a⟩:=aEE b;refine ajr (Any.strconv_Atoi_syntax Tryz.JI ⟨s.toArray⟩ (by simp [ByteArray.size];omega) (by simpa using h) c w d a) ?_;rintro e w' ⟨N,rfl,hN,hc,hb⟩;refine⟨⟨N,0,0,none⟩,?_,hb,hN,?_,trivial,λh=>by cases h⟩;simp [o8,A8,K7.at];rfl;refine⟨trivial,⟨.dead,?_,rfl⟩,trivial⟩;rw [Mem.Q5 (m:=K9 base []) ny.ok];exact if_pos rfl
theorem Ux (s:List UInt8)(hs:s.length<1000000):jM Tryz.prog base 83 [.str s] [] (NC s):=by
 refine Nk (nb:=.cells 1 ((Lib.fieldsD s).map λw=>[d9.str w])) (Zd ny.ok _ _ _) λι w f=>?_;refine ajr (Tryz.strings_Fields_any ⟨s.toArray⟩ w (by simp [ByteArray.size];omega) (aEC f) (white f)) ?_;rintro e w' ⟨A,rfl,hA,⟨hl,ho⟩,hb⟩;rcases ho with⟨ho,_⟩ | ⟨g,cap,cur,hv,hg,hh,h1,h2,h3,h4⟩;simp at ho;simp only [Value.slice.injEq,l7,Addr.mk.injEq] at hv;obtain⟨⟨rfl,_,_⟩,_,rfl⟩:=hv;rw [aeN] at h3 h4;generalize Lib.fieldsD s=ws at *;have d:ws.length=cur.size:=h3.symm;refine⟨⟨A,0,ws.length,none⟩,?_,hb,hA,⟨dH (.cells 1 (ws.map λw=>[d9.str w])),?_,rfl⟩,?_,λ_=>⟨λc e h b k n=>?_,rfl⟩⟩;simp [o8,K7.at];rw [Mem.Q5 (m:=K9 base []) ny.ok];exact if_pos rfl;refine⟨cur,_,_,hh,by simp;omega,⟨by simp,ws.length,by simp,?_⟩,λi a=>?_⟩;have:=T.jy (ws.map λw=>[d9.str w]);simpa using this;have a:i<ws.length:=by simpa using a
 refine⟨[.str ws[i]],by rw [T.aV];simp [a],rfl,⟨trivial,trivial⟩,λj l=>?_⟩;obtain rfl:j=0:=by omega
 have:=congrArg (·[i]?) h4;simp only [adf,adT] at this;rw [if_pos a] at this;simpa [a,o8] using this;rw [hh] at b;cases b;simp
theorem ajv {v:d9}{off n:Nat}(r:(∃c,v=.slice base.nx off n c∧n<=c)∨∃es,v=.sliceU base.nx off n es){rows l:List (List d9)}{ws:List (List UInt8)}{b:List UInt8}(q:n<1000000)
  (p:takeN n (gZ off rows)=some l) (s:uZ l=some ws) (d:(fZ b ws).length<1000000):jM Tryz.prog base 94 [v,.str b] [.cells 1 rows] ⟨.str (fZ b ws),[]⟩:=
 Zf ny.ok (λa c b w=>Tryz.strings_Join_none a c b w) (λe o c x b w h=>Any.strings_Join_one Tryz.NZ Tryz.lS e o c x b w h)
  (λe o c t b w f g i j k m=>Any.strings_Join_many Tryz.NZ Tryz.lS e o c t b w f g i j k m) r q p s d
theorem VJ {f:FuncId}{args:List d9}{m:List NB}{a:DI}(h:aeG 257 256 94 base.nx f args m=some a):jM Tryz.prog base f args m a:=by
 unfold aeG at h;cases h1:Nat.beq f 257 with
 | true=>
  rw [h1,Z6] at h;obtain rfl:=rW h1;split at h;rename_i s c;cases hb:Nat.blt (len' s) 1000000 with
  | true=>rw [hb] at h;cases h;exact WQ (λs c w=>Tryz.strings_Index_one s c w) s c
  | false=>rw [hb] at h;cases h
  cases h
 | false=>
  rw [h1,aJ] at h;cases h2:Nat.beq f 256 with
  | true=>
   rw [h2,Z6] at h;obtain rfl:=rW h2;split at h;rename_i s c;cases hb:Nat.blt (len' s) 1000000 with
   | true=>rw [hb] at h;cases h;exact WR (λs c w=>Tryz.strings_Count_one s c w) s c
   | false=>rw [hb] at h;cases h
   cases h
  | false=>
   rw [h2,aJ] at h;cases h3:Nat.beq f 94 with
   | false=>rw [h3] at h;cases h
   | true=>
    rw [h3,Z6] at h;obtain rfl:=rW h3;have b:∀{n:Nat},Nat.blt n 1000000=true->n<1000000:=λh=>O6.mp h;split at h;rename_i v d o;unfold ze at h;split at h;cases h;rename_i id j n c;dsimp only at h;cases b1:Nat.beq id base.nx with
    | false=>rw [b1] at h;cases h
    | true=>
     cases b2:Nat.ble n c with
     | false=>rw [b1,b2] at h;cases h
     | true=>
      cases b3:Nat.blt n 1000000 with
      | false=>rw [b1,b2,b3] at h;cases h
      | true=>
       rw [b1,b2,b3] at h;obtain⟨l,g,h⟩:=D7 h;obtain⟨k,i,h⟩:=D7 h;cases b4:Nat.blt (len' (fZ d k)) 1000000 with
       | false=>rw [b4] at h;cases h
       | true=>rw [b4] at h;cases h;obtain rfl:=rW b1;exact ajv (.inl ⟨c,rfl,M8 b2⟩) (b b3) g i (by have:=b b4;rwa [K4] at this)
    rename_i id j n p;dsimp only at h;cases b1:Nat.beq id base.nx with
    | false=>rw [b1] at h;cases h
    | true=>
     cases b3:Nat.blt n 1000000 with
     | false=>rw [b1,b3] at h;cases h
     | true=>
      rw [b1,b3] at h;obtain⟨l,g,h⟩:=D7 h;obtain⟨k,i,h⟩:=D7 h;cases b4:Nat.blt (len' (fZ d k)) 1000000 with
      | false=>rw [b4] at h;cases h
      | true=>rw [b4] at h;cases h;obtain rfl:=rW b1;exact ajv (.inr ⟨p,rfl⟩) (b b3) g i (by have:=b b4;rwa [K4] at this)
    cases h;rename_i d;cases h;exact tZ (aeJ _ _ _) (λ_=>trivial) (λ_ _=>by simp [o8]) λι w _=>(by refine ajr (Tryz.strings_Join_none none 0 ⟨d.toArray⟩ w) ?_;rintro e w' ⟨rfl,rfl⟩;exact⟨by simp [o8],Below.refl _ _⟩);cases h
theorem agA {f:FuncId}{args:List d9}{c:List NB}{a:DI}(h:akV f args c=some a):jM Tryz.prog base f args c a:=by unfold akV at h;split at h;split at h;split at h;rename_i i;obtain⟨rfl,e,g⟩:=i;cases h;exact ad1 _ e g;cases h;split at h;rename_i d;split at h;rename_i b;subst b;cases h;exact ad2 _ d;split at h;rename_i b;subst b;cases h;exact Ux _ d;cases h;cases h;cases h;cases h
theorem Xv {P:Program}{f:FuncId}{sf:K3}(h:qG P f sf)(b:Bool):qG P f {sf with pure:=b}:=
 ⟨h.ok,h.is⟩
theorem agB:∀f args bs a,KW.sum f args bs=some a->jM Tryz.prog base f args bs a:=by
 intro f args bs a h;have h:vv f args bs=some a:=h;unfold vv at h;split at h;have c:∀s∈[qS],jM Tryz.prog base s.f s.args s.bs s.a:=λs d=>by rcases ql.1 d with rfl;exact qoS
 exact AZ [qS] c _ _ _ _ h;split at h;exact VJ h;split at h;rename_i b;subst b;exact VJ h;exact agA h
theorem ayt:KOk Tryz.prog KW:=by
 refine⟨mixed,λf sf h=>?_,⟨LC,ny⟩,agB⟩;have h:(fns f).map (λsf=>{sf with pure:=Vi f})=some sf:=h;cases hf:fns f with
 | none=>rw [hf] at h;cases h
 | some s0=>rw [hf] at h;cases h;exact Xv (ZL f s0 hf) _
end Go.Proofs.YtfnlnpllpfhhnaaGreatDoor.TT
namespace Go.AM
open Go
def XP (P:Program)(t:TypeId):Option (List TypeId):=match P.underlying t with
 | some (.struct fs)=>some (fs.toList.map (·.type))
 | _=>none
def slT (P:Program)(t:TypeId):Option TypeId:=match P.underlying t with
 | some (.slice e)=>some e
 | _=>none
def inT (P:Program)(t:TypeId):Option IntKind:=match P.underlying t with
 | some (.int k)=>some k
 | _=>none
def VK (S:TypeId->List d9->Prop):List TypeId->List d9->Prop
 | [],vs=>vs=[]
 | t::ts,vs=>∃a b,vs=a++b∧S t a∧VK S ts b
theorem Rj {S:TypeId->List d9->Prop}:∀fs vs,Lf S fs vs->VK S (fs.map (·.type)) vs
 | [],_,h=>h
 | _::fs,_,⟨a,b,h1,h2,h3⟩=>⟨a,b,h1,h2,Rj fs b h3⟩
theorem JJ {P:Program}{m:Mem}{n:Nat}{t:TypeId}{a:List TypeId}{vs:List d9}(h:XP P t=some a)(hs:BF P m (n+1) t vs):VK (BF P m n) a vs:=by unfold BF at hs;unfold XP at h;split at h;rename_i c b;rw [b] at hs;cases h;exact Rj _ _ hs;cases h
theorem Dy {P:Program}{m:Mem}{n:Nat}{t:TypeId}{k:IntKind}{vs:List d9}(h:inT P t=some k)(hs:BF P m (n+1) t vs):∃i,vs=[.int k i]∧(Lit.int k i).wf=true:=by unfold BF at hs;unfold inT at h;split at h;rename_i b a;rw [a] at hs;cases h;exact hs;cases h
theorem Mf {P:Program}{m:Mem}{n:Nat}{t e:TypeId}{vs:List d9}(h:slT P t=some e)(hs:BF P m (n+1) t vs):vs=[.nilSlice]∨∃id len cap,vs=[.slice id 0 len cap]∧len<=cap∧cap<=maxLen∧
        ((cap=0∧m.get id=some .dead)∨∃rows,0<cap∧m.get id=some (.cells (P.cellsOf e) cap rows)∧∀i,i<cap->∃row,rows.get i=some row∧row.length=P.cellsOf e∧BF P m n e row):=by
 unfold BF at hs;unfold slT at h;split at h;rename_i b a;rw [a] at hs;cases h;exact hs;cases h
end Go.AM
namespace Go.Proofs.YtfnlnpllpfhhnaaGreatDoor.TT
open Go Go.AM
theorem t3:inT Tryz.prog 3=some .i64:=by kernel_rfl
theorem t32:slT Tryz.prog 32=some 3:=by kernel_rfl
theorem t64:slT Tryz.prog 64=some 40:=by kernel_rfl
theorem c3:Tryz.prog.cellsOf 3=1:=by kernel_rfl
theorem c40:Tryz.prog.cellsOf 40=32:=by kernel_rfl
theorem t40:XP Tryz.prog 40=some [3,3,3,3,23,27,29,31,34,36,38]:=by kernel_rfl
theorem t23:XP Tryz.prog 23=some [3,3]:=by kernel_rfl
theorem t25:XP Tryz.prog 25=some [3,3]:=by kernel_rfl
theorem t27:XP Tryz.prog 27=some [3,3,3,23,25,3]:=by kernel_rfl
theorem t29:XP Tryz.prog 29=some [3,3]:=by kernel_rfl
theorem t31:XP Tryz.prog 31=some [3,23,3]:=by kernel_rfl
theorem t34:XP Tryz.prog 34=some [3,3,32,32,3,3,23]:=by kernel_rfl
theorem t36:XP Tryz.prog 36=some [3,32]:=by kernel_rfl
theorem t38:XP Tryz.prog 38=some [3,3]:=by kernel_rfl
theorem c9:Tryz.prog.cellsOf 9=1:=by kernel_rfl
set_option maxRecDepth 100000
set_option maxHeartbeats 2000000
theorem Oa {m:Mem}(a:m.Ok){i:Nat}{b:U7}(h:m.get i=some b):i<m.nx:=Mem.N9 a h
abbrev Rk (m:Mem)(n:Nat):=VK (BF Tryz.prog m n)
theorem ad3 {i:Int}(h:(Lit.int .i64 i).wf=true):Z0 i:=by
 simp only [Lit.wf,D5,decide_eq_true_eq] at h;have a:IntKind.min .i64=-9223372036854775808:=by decide +kernel
 have b:IntKind.max .i64=9223372036854775807:=by decide +kernel
 rw [a,b] at h;exact⟨h.1,by omega⟩
theorem bK {m:Mem}{n:Nat}{c:List TypeId}{vs:List d9}(h:Rk m (n+1) (3::c) vs):∃i w,vs=iV i::w∧Z0 i∧Rk m (n+1) c w:=by obtain⟨a,b,rfl,d,e⟩:=h;obtain⟨i,rfl,f⟩:=Dy t3 d;exact⟨i,b,rfl,ad3 f,e⟩
theorem xZ {m:Mem}{n:Nat}{t:TypeId}{us c:List TypeId}{vs:List d9}(f:XP Tryz.prog t=some us)(h:Rk m (n+1) (t::c) vs):∃a w,vs=a++w∧Rk m n us a∧Rk m (n+1) c w:=by obtain⟨a,b,rfl,d,e⟩:=h;exact⟨a,b,rfl,JJ f d,e⟩
theorem ayu {m:Mem}(b:m.Ok){n:Nat}{vs:List d9}(h:BF Tryz.prog m (n+2) 32 vs):∃v xs,vs=[v]∧Z8 m v xs:=by
 rcases Mf t32 h with rfl | ⟨id,len,cap,rfl,hlc,_,hr⟩;exact⟨_,[],rfl,.inl ⟨rfl,rfl⟩⟩;rcases hr with⟨rfl,hd⟩ | ⟨rows,hc,hb,hrow⟩;obtain rfl:len=0:=by omega
 exact⟨_,[],rfl,.inr ⟨(id,0),.inl ⟨_,rfl⟩,Oa b hd,.inl rfl⟩⟩;let g:Nat->Int:=λi=>match rows.get i with
  | some [.int _ x]=>x
  | _=>0
 refine⟨_,(List.range len).map g,rfl,.inr ⟨(id,0),.inl ⟨cap,by simp⟩,Oa b hb,.inr ⟨cap,rows,by rw [hb,c3],by simpa using hlc,λi d=>?_⟩⟩⟩;rw [S9];have e:i<len:=by simpa using d
 obtain⟨f,a,_,c⟩:=hrow i (by omega);obtain⟨x,rfl,_⟩:=Dy t3 c;rw [a];simp only [asb,azZ];show some [d9.int .i64 x]=some [iV (g i)];simp only [g,a]
theorem ad4 {m:Mem}(f:m.Ok){n:Nat}{c:List TypeId}{vs:List d9}(h:Rk m (n+2) (32::c) vs):∃v xs w,vs=v::w∧Z8 m v xs∧Rk m (n+2) c w:=by obtain⟨a,b,rfl,d,e⟩:=h;obtain⟨v,xs,rfl,g⟩:=ayu f d;exact⟨v,xs,b,rfl,g,e⟩
theorem VL {m:Mem}(z:m.Ok){n:Nat}{vs:List d9}(h0:BF Tryz.prog m (n+6) 40 vs):∃r:FR,vs=r.f.cells∧V3 m r:=by
 have h:Rk m (n+5) [3,3,3,3,23,27,29,31,34,36,38] vs:=JJ t40 h0;obtain⟨room,c7,rfl,x,q0⟩:=bK h;obtain⟨no,c8,rfl,w,q1⟩:=bK q0;obtain⟨known,c9,rfl,l,q2⟩:=bK q1;obtain⟨kind,ca,rfl,t,q3⟩:=bK q2;obtain⟨bw,cb,rfl,ab,q4⟩:=xZ t23 q3;obtain⟨flo,cc,rfl,ap,q5⟩:=bK ab;obtain⟨fhi,cd,rfl,ao,q6⟩:=bK q5;obtain rfl:=q6;obtain⟨bx,ce,rfl,ac,q8⟩:=xZ t27 q4;obtain⟨gid,cf,rfl,aq,q9⟩:=bK ac;obtain⟨made,ay,rfl,u,C⟩:=bK q9;obtain⟨nom,az,rfl,av,D⟩:=bK C;obtain⟨ad,b0,rfl,a,E⟩:=xZ t23 D;obtain⟨tlo,b1,rfl,ax,F⟩:=bK a;obtain⟨thi,b2,rfl,aw,G⟩:=bK F;obtain rfl:=G;obtain⟨ae,b3,rfl,b,H⟩:=xZ t25 E;obtain⟨gn,b4,rfl,s,I⟩:=bK b;obtain⟨gd,b5,rfl,q,J⟩:=bK I;obtain rfl:=J;obtain⟨wear,b6,rfl,y,K⟩:=bK H;obtain rfl:=K;obtain⟨af,b7,rfl,c,M⟩:=xZ t29 q8;obtain⟨ug,b8,rfl,c6,N⟩:=bK c;obtain⟨ud,b9,rfl,c5,O⟩:=bK N;obtain rfl:=O;obtain⟨ag,ba,rfl,d,P⟩:=xZ t31 M;obtain⟨lg,bb,rfl,bz,Q⟩:=bK d;obtain⟨ah,bc,rfl,e,R⟩:=xZ t23 Q;obtain⟨ll,bd,rfl,c1,S⟩:=bK e;obtain⟨lh,be,rfl,c0,T⟩:=bK S;obtain rfl:=T;obtain⟨lw,bf,rfl,c2,U⟩:=bK R;obtain rfl:=U;obtain⟨ai,bg,rfl,g,V⟩:=xZ t34 P;obtain⟨cid,bh,rfl,am,W⟩:=bK g;obtain⟨cday,bi,rfl,o,X⟩:=bK W;obtain⟨A,xa,bj,rfl,sA,Y⟩:=ad4 z X;obtain⟨B,xb,bk,rfl,sB,Z⟩:=ad4 z Y;obtain⟨diff,bl,rfl,p,a0⟩:=bK Z;obtain⟨err,bm,rfl,an,a1⟩:=bK a0;obtain⟨aj,bn,rfl,i,a2⟩:=xZ t23 a1;obtain⟨hlo,bo,rfl,au,a3⟩:=bK i;obtain⟨hhi,bp,rfl,ar,a4⟩:=bK a3;obtain rfl:=a4;obtain rfl:=a2;obtain⟨ak,bq,rfl,j,a5⟩:=xZ t36 V;obtain⟨mday,br,rfl,v,a6⟩:=bK j;obtain⟨L,xl,bs,rfl,sL,a7⟩:=ad4 z a6;obtain rfl:=a7;obtain⟨al,bt,rfl,k,a8⟩:=xZ t38 a5;obtain⟨tr,bu,rfl,c4,a9⟩:=bK k;obtain⟨tn,bv,rfl,c3,aa⟩:=bK a9;obtain rfl:=aa;obtain rfl:=a8
 exact⟨⟨{room:=room,no:=no,known:=known,kind:=kind,flo:=flo,fhi:=fhi,gid:=gid,made:=made,nom:=nom,tlo:=tlo,thi:=thi,gn:=gn,gd:=gd,wear:=wear,ug:=ug,ud:=ud,lg:=lg,ll:=ll,lh:=lh,lw:=lw,cid:=cid,cday:=cday,A:=A,B:=B,diff:=diff,err:=err,hlo:=hlo,hhi:=hhi,mday:=mday,L:=L,tr:=tr,tn:=tn},xa,xb,xl⟩,rfl,⟨sA,sB,sL,s,q,w⟩⟩
theorem ad5 {m:Mem}(b:m.Ok){n:Nat}{vs:List d9}(h:BF Tryz.prog m (n+7) 64 vs):∃v fs,vs=[v]∧fJ m v fs∧∀i (h:i<fs.length),V3 m fs[i]:=by
 rcases Mf t64 h with rfl | ⟨id,len,cap,rfl,hlc,_,hr⟩;exact⟨_,[],rfl,.inl ⟨rfl,rfl⟩,λi h=>by simp at h⟩;rcases hr with⟨rfl,hd⟩ | ⟨rows,hc,hb,hrow⟩;obtain rfl:len=0:=by omega
 exact⟨_,[],rfl,.inr ⟨id,.inl ⟨0,rfl⟩,Oa b hd,.inl rfl⟩,λi h=>by simp at h⟩;have l:∀i,∃r:FR,i<cap->rows.get i=some r.f.cells∧V3 m r:=λi=>by by_cases a:i<cap;obtain⟨e,k,_,c⟩:=hrow i a;obtain⟨r,rfl,o⟩:=VL b c;exact⟨r,λ_=>⟨k,o⟩⟩;obtain⟨e,k,_,c⟩:=hrow 0 hc;obtain⟨r,_,_⟩:=VL b c;exact⟨r,λh=>absurd h a⟩
 let g:Nat->FR:=λi=>Classical.choose (l i)
 have j:∀i,i<cap->rows.get i=some (g i).f.cells∧V3 m (g i):=λi=>Classical.choose_spec (l i);refine⟨_,(List.range len).map g,rfl,.inr ⟨id,.inl ⟨cap,by simp⟩,Oa b hb,.inr ⟨cap,rows,by rw [hb,c40],by simpa using hlc,λi a=>?_⟩⟩,λi a=>?_⟩;have d:i<len:=by simpa using a
 simp only [asb,azZ];exact (j i (by omega)).1;have d:i<len:=by simpa using a
 simp only [asb,azZ];exact (j i (by omega)).2
open Go Go.AM Go.RowKit
theorem JK {w:World}{b o:Nat}{v:Value}(h:w.cell? ⟨b,o,none⟩=some v):∃c e fz,w.heap[b]?=some (Obj.cells c e fz)∧c[o]?=some v:=by unfold World.cell? at h;split at h;rename_i c e fz a;exact⟨c,e,fz,a,by simpa using h⟩;cases h
theorem dQ {P:Program}{ι:K7}{n:Nm}{w:World}{l:AM.Loc}{row:List d9}{N:Nat}(p:row.length=N)(h0:0<N)(u:l.cap=N)(f:dI n row)
  (h:∀j v,row[j]?=some v->w.cell? ⟨l.b,l.base+j,none⟩=some (o8 ι v)):fG P ι n w.heap l (.cells N 1 (T.ofList [row])):=by
 subst p;obtain⟨c,e,m,g,q⟩:=JK (h (row.length-1) row[row.length-1] (by simp));refine⟨c,e,m,g,?_,⟨by omega,1,aA _,T.jy [_]⟩,λi t=>?_⟩;have:=(L6.1 q).1;omega;obtain rfl:i=0:=by omega
 refine⟨row,rfl,rfl,f,λj k=>?_⟩;obtain⟨r,s,o,a,d⟩:=JK (h j row[j] (by simp [k]));rw [g] at a;cases a;simpa [k] using d
theorem uq (n:Nm)(k:IntKind):∀l:List Int,dI n (l.map (d9.int k))
 | []=>trivial
 | _::l=>⟨trivial,uq n k l⟩
theorem Mg {P:Program}{w:World}{n:String}{g:Nat}{cs:Array Value}(b:P.globalNamed n=some g)(h:w.var? P n=some cs):∃e fz,w.heap[g]?=some (Obj.cells cs e fz):=by unfold World.var? at h;rw [b] at h;simp only [W9] at h;split at h;rename_i c e fz a;cases h;exact⟨e,fz,a⟩;cases h
theorem zL {P:Program}{w:World}{n:String}{g:Nat}{k:IntKind}{ns:List Int}(d:P.globalNamed n=some g)(h:Lib.TabIs P w n k ns)(ι:K7):∀j v,(ns.map (d9.int k))[j]?=some v->w.cell? ⟨g,0+j,none⟩=some (o8 ι v):=by intro j v a;rw [adf,ahr] at a;obtain⟨z,b,rfl⟩:=a;have c:=(eP.1 b).1;rw [S9,h.cell d j c];simp [o8,List.getD,b]
theorem gn2:Tryz.prog.globalNamed "strconv.ErrSyntax"=some 2:=by kernel_rfl
theorem gn3:Tryz.prog.globalNamed "strconv.ErrRange"=some 3:=by kernel_rfl
theorem gn8:Tryz.prog.globalNamed "math/bits.deBruijn32tab"=some 8:=by kernel_rfl
theorem gn9:Tryz.prog.globalNamed "math/bits.deBruijn64tab"=some 9:=by kernel_rfl
def Gc (bT oT R oR:Nat)(a2 a3:Addr):K7:=λi=>⟨if i=11 then bT else if i=12 then R else if i=13 then a2.block else if i=14 then a3.block else i,
 if i=11 then oT else if i=12 then oR else if i=13 then a2.off else if i=14 then a3.off else 0,
 if i=0 then 256 else if i=1 then 1 else if i=2 then 1 else if i=3 then 1 else if i=5 then 20 else if i=8 then 32 else if i=9 then 64 else if i=11 then 3 else if i=12 then 21 else 0,
 if i=13 then a2.spot else if i=14 then a3.spot else none⟩
theorem agC {w:World}{x1:Value}{U V:Addr}(Y:Lib.TabIs Tryz.prog w "strings.asciiSpace" .u8 nsA)(Z:Lib.TabIs Tryz.prog w "internal/strconv.uint64pow10" .u64 nsP)
  (C:Lib.TabIs Tryz.prog w "math/bits.deBruijn32tab" .u8 aeL) (D:Lib.TabIs Tryz.prog w "math/bits.deBruijn64tab" .u8 aeM) (hW:Lib.WhiteTab 1 w) (W:w.var? Tryz.prog "unicode.White_Space"=some #[x1])
  (E:w.var? Tryz.prog "strconv.ErrSyntax"=some #[.iface 486 (.pointer (some U))]) (X:w.var? Tryz.prog "strconv.ErrRange"=some #[.iface 486 (.pointer (some V))]):∃ι,RM Tryz.prog base ι (K9 base []) w.heap:=by
 obtain⟨bT,oT,R,oR,w1,w2,w3,w4,w5⟩:=hW;refine⟨Gc bT oT R oR U V,?_⟩;have z:base.nx=15:=rfl;have m:T.Ok base.t base.nx:=ny.ok;have G:base.get 0=some (.cells nsA.length 1 (T.ofList [nsA.map (d9.int .u8)])):=rfl;have H:base.get 1=some (.cells 1 1 (T.ofList [[d9.ptr 11 0]])):=rfl;have I:base.get 2=some (.cells 1 1 (T.ofList [[d9.iface 486 (.ptr 13 0)]])):=rfl;have J:base.get 3=some (.cells 1 1 (T.ofList [[d9.iface 486 (.ptr 14 0)]])):=rfl;have K:base.get 4=some .dead:=rfl;have L:base.get 5=some (.cells nsP.length 1 (T.ofList [nsP.map (d9.int .u64)])):=rfl;have M:base.get 6=some .dead:=rfl;have O:base.get 7=some .dead:=rfl;have P:base.get 8=some (.cells aeL.length 1 (T.ofList [aeL.map (d9.int .u8)])):=rfl;have Q:base.get 9=some (.cells aeM.length 1 (T.ofList [aeM.map (d9.int .u8)])):=rfl;have q:base.get 10=some .dead:=rfl;have A:base.get 11=some (.cells 3 1 (T.ofList [[.slice 12 0 7 7,nS,iV 2]])):=rfl;have B:base.get 12=some (.cells nsW.length 1 (T.ofList [nsW.map (d9.int .u16)])):=rfl;have r:base.get 13=some .dead:=rfl;have s:base.get 14=some .dead:=rfl;have y:∀i b,base.get i=some b->jd b=false->(K9 base []).has i:=λi b y f=>⟨b,y,f⟩;refine⟨m,λi b a=>?_,λi b l a=>?_,aA _,aA _,by rw [Dx,z];omega,λi l=>rfl,λi l=>?_,λi l=>?_,λi b a hl=>?_,λi rs k a0 l d=>?_⟩;have a:base.get i=some b:=a;have l:i<15:=Mem.N9 m a;match i,l with
 | 0,_=>rw [G] at a;cases a;exact dQ (by simp) (by decide) rfl (uq _ _ _) (zL gn0 Y _)
 | 1,_=>
  rw [H] at a;cases a;refine dQ (by rfl) (by decide) rfl ⟨y 11 _ A rfl,trivial⟩ λj v f=>?_;obtain rfl:j=0:=by have:=(eP.1 f).1;simpa using this
  cases f;simpa [o8,K7.at,Gc] using w1
 | 2,_=>
  rw [I] at a;cases a;refine dQ (by rfl) (by decide) rfl ⟨y 13 _ r rfl,trivial⟩ λj v f=>?_;obtain rfl:j=0:=by have:=(eP.1 f).1;simpa using this
  cases f;have:=World.var?_cell gn2 E 0;simpa [o8,K7.at,Gc] using this
 | 3,_=>
  rw [J] at a;cases a;refine dQ (by rfl) (by decide) rfl ⟨y 14 _ s rfl,trivial⟩ λj v f=>?_;obtain rfl:j=0:=by have:=(eP.1 f).1;simpa using this
  cases f;have:=World.var?_cell gn3 X 0;simpa [o8,K7.at,Gc] using this
 | 4,_=>rw [K] at a;cases a;trivial
 | 5,_=>rw [L] at a;cases a;exact dQ (by simp) (by decide) rfl (uq _ _ _) (zL gn5 Z _)
 | 6,_=>rw [M] at a;cases a;trivial
 | 7,_=>rw [O] at a;cases a;trivial
 | 8,_=>rw [P] at a;cases a;exact dQ (by simp) (by decide) rfl (uq _ _ _) (zL gn8 C _)
 | 9,_=>rw [Q] at a;cases a;exact dQ (by simp) (by decide) rfl (uq _ _ _) (zL gn9 D _)
 | 10,_=>rw [q] at a;cases a;trivial
 | 11,_=>
  rw [A] at a;cases a;refine dQ (by rfl) (by decide) rfl ⟨y 12 _ B rfl,trivial,trivial,trivial⟩ λj v f=>?_;have F:=(eP.1 f).1;match j,F with
  | 0,_=>cases f;simpa [o8,K7.at,Gc] using w2
  | 1,_=>cases f;simpa [o8,K7.at,Gc] using w3
  | 2,_=>cases f;simpa [o8,K7.at,Gc] using w4
 | 12,_=>
  rw [B] at a;cases a;refine dQ (by simp) (by decide) rfl (uq _ _ _) λj v f=>?_;have h:∀i,i<21->nsW[i]?=some ((Lib.whiteT.getD i 0:Nat):Int):=by decide
  have F:j<21:=by have:=(eP.1 f).1;simpa [nsW] using this
  rw [adf,h j F] at f;cases f;simpa [o8,K7.at,Gc] using w5 j F
 | 13,_=>rw [r] at a;cases a;trivial
 | 14,_=>rw [s] at a;cases a;trivial
 have a:base.get i=some b:=a;have W:i<15:=Mem.N9 m a;have E:base.nx<=i:=l;rw [z] at E;omega;rw [Dx] at l;match i,l with
 | 0,_=>exact⟨_,G,rfl⟩
 | 1,_=>exact⟨_,H,rfl⟩
 | 2,_=>exact⟨_,I,rfl⟩
 | 3,_=>exact⟨_,J,rfl⟩
 | 4,_=>exact⟨_,K,rfl⟩
 | 5,_=>exact⟨_,L,rfl⟩
 | 6,_=>exact⟨_,M,rfl⟩
 | 7,_=>exact⟨_,O,rfl⟩
 | 8,_=>exact⟨_,P,rfl⟩
 | 9,_=>exact⟨_,Q,rfl⟩
 | 10,_=>exact⟨_,q,rfl⟩
 rw [Dx] at l;match i,l with
 | 0,_ | 1,_ | 2,_ | 3,_ | 4,_ | 5,_ | 6,_ | 7,_ | 8,_ | 9,_ | 10,_=>exact⟨rfl,rfl,rfl⟩
 have a:base.get i=some b:=a;have l:i<15:=Mem.N9 m a;match i,l with
 | 0,_ | 1,_ | 2,_ | 3,_ | 4,_ | 5,_ | 6,_ | 7,_ | 8,_ | 9,_ | 10,_ | 11,_ | 12,_=>rfl
 | 13,_=>rw [r] at a;cases a;cases hl
 | 14,_=>rw [s] at a;cases a;cases hl
 rw [Dx] at l;have o:∀{n:String} {k:IntKind} {ns:List Int} {g N:Nat},Tryz.prog.globalNamed n=some g->ns.length=N->Lib.TabIs Tryz.prog w n k ns->∃c e p,w.heap[g]?=some (Obj.cells c e p)∧c.size=1*N:=λz hN S=>by obtain⟨e,p,h⟩:=Mg z S;exact⟨_,e,p,h,by simp [hN]⟩
 have u:∀{n:String} {x:Value} {g:Nat},Tryz.prog.globalNamed n=some g->w.var? Tryz.prog n=some #[x]->∃c e p,w.heap[g]?=some (Obj.cells c e p)∧c.size=1*1:=λz S=>by obtain⟨e,p,h⟩:=Mg z S;exact⟨_,e,p,h,rfl⟩
 match i,l with
 | 0,_=>rw [G] at d;cases d;exact o gn0 rfl Y
 | 1,_=>rw [H] at d;cases d;exact u gn1 W
 | 2,_=>rw [I] at d;cases d;exact u gn2 E
 | 3,_=>rw [J] at d;cases d;exact u gn3 X
 | 4,_=>rw [K] at d;cases d
 | 5,_=>rw [L] at d;cases d;exact o gn5 rfl Z
 | 6,_=>rw [M] at d;cases d
 | 7,_=>rw [O] at d;cases d
 | 8,_=>rw [P] at d;cases d;exact o gn8 rfl C
 | 9,_=>rw [Q] at d;cases d;exact o gn9 rfl D
 | 10,_=>rw [q] at d;cases d
open Go Go.AM Go.ChangeShapes Go.WideShapes Go.ChangeAt Go.RowKit
theorem laidOut:laidOutB Tryz.prog=true:=by kernel_rfl
theorem Rm {H:Type}{enc:TypeId×Value->H}{P:Program}{f:Func}{s:ChangeSpec}{c n d m:Bool}{W W':World}{args:Array Value}{v:Value}{o q:List (DataW H)}{before pa pv:List MemPlace}
  (w:DataW.Whole enc P f.params.toList s.vars c W args.toList o q before)
  (l:∀(b:Nat) (sp:Nat->Bool) (hd:Bool),DataW.TrodAll enc P W' b sp hd f.resultTypes.toList (v.resultList f.resultTypes.size) (s.fn H (o++q)).results [])
  (e:∀sp:Nat->Bool,(∀p∈before,sp p.block=true)->DataW.TrodAll enc P W' 0 sp true f.params.toList args.toList (s.fn H (o++q)).args pa)
  (g:∀sp:Nat->Bool,(∀p∈before,sp p.block=true)->DataW.TrodVars enc P W' sp s.vars (s.fn H (o++q)).vars pv)
  (i:before=pa++pv) (C:W.keptBut W' (·∈before)) (x:∀a,a.block<W.heap.size->W'.frozen? a=W.frozen? a)
  (z:∀(j:Nat) (t:TypeId) (r:Value),f.resultTypes[j]?=some t->(v.resultList f.resultTypes.size)[j]?=some r->Value.okWide P W' .any 0 t r):
  s.post enc P f c n d m W args v W':=by
 have k:∀p∈before,(λb=>decide (b<W.heap.size)) p.block=true:=λp h=>by simpa using w.lt p h
 have y:=w.lt;refine⟨o,q,before,[],pa,pv,w,l _ _ _,e _ k,g _ k,World.keptBut_mono (λp h=>⟨h,?_⟩) C,λ_=>?_⟩;rw [i,O4] at h;exact Or.inr h;obtain⟨_,_,_,_,_,E,D⟩:=w;refine⟨z,_,_,([]++pa)++pv,⟨[]++pa,pv,trodAll_append (e _ (λ_ _=>rfl)) (l _ _ _),g _ (λ_ _=>rfl),rfl,?_,?_⟩,?_⟩;intro b u h;have A:MemPlace.cell b u∈before:=by rw [i];simpa using h
 rw [x _ (y _ A)];exact E b u A;intro B;have:=D B;rw [i] at this;simpa using this;intro p h _;rw [i];simpa using h
variable {H:Type}{enc:TypeId×Value->H}{held:Bool}
theorem alW:Ew Tryz.prog 7 3=true:=by kernel_rfl
theorem ayv:Ew Tryz.prog 7 64=true:=by kernel_rfl
theorem alX {ι:K7}{m:Mem}{w:World}(T:RM Tryz.prog base ι m w.heap)(S:m.lim=m.nx){n0 n1 n2 n3:Nat}{cs0 cs1 cs2 cs3:List Value}{x0 x1 x2 x3:DataW H×List MemPlace}
  (h0:DataW.trod enc Tryz.prog w 0 (λ_=>true) held n0 3 cs0=some x0) (L:DataW.trod enc Tryz.prog w 0 (λ_=>true) held n1 64 cs1=some x1) (M:DataW.trod enc Tryz.prog w 0 (λ_=>true) held n2 3 cs2=some x2) (N:DataW.trod enc Tryz.prog w 0 (λ_=>true) held n3 3 cs3=some x3):
  ∃v0 v1 v2 v3,cs0=[v0]∧cs1=[v1]∧cs2=[v2]∧cs3=[v3]∧Calls Tryz.prog 6 #[v0,v1,v2,v3] w λe w'=>e=.returned (.bool true)∧w.heap.size<=w'.heap.size∧(∀b,b<w.heap.size->w'.heap[b]?=w.heap[b]?)∧w'.os=w.os∧w'.output=w.output∧w'.tape=w.tape:=by
 obtain⟨t,Z,a0,L0,F,A,S0⟩:=lift 7 _ _ _ _ h0 alW ι m T S;obtain⟨v,m1,a1,L1,G,B,S1⟩:=lift 7 _ _ _ _ L ayv t Z L0.rm L0.lim;obtain⟨y,m2,a2,L2,I,C,S2⟩:=lift 7 _ _ _ _ M alW v m1 L1.rm L1.lim;obtain⟨a,s,a3,L3,J,Y,S3⟩:=lift 7 _ _ _ _ N alW y m2 L2.rm L2.lim;have T2:=L3;have T1:=L2.trans T2;have T0:=L1.trans T1;have S0:=tY (P:=Tryz.prog) T0.get _ _ _ S0;have S1:=tY (P:=Tryz.prog) T1.get _ _ _ S1;have S2:=tY (P:=Tryz.prog) T2.get _ _ _ S2;have q:s.Ok:=L3.rm.ok;obtain⟨d,rfl,b0⟩:=Dy t3 S0;obtain⟨l,o,rfl,K,p⟩:=ad5 q (n:=0) S1;obtain⟨f,rfl,D⟩:=Dy t3 S2;obtain⟨h,rfl,b3⟩:=Dy t3 S3;have p:∀r∈o,V3 s r:=λr k=>by obtain⟨j,R,rfl⟩:=ajk k;exact p j R
 obtain⟨m9,g,E⟩:=aya q (Nat.le_of_eq L3.lim) (zu L3.rm.glim L3.rm.limn) K p d f h (ad3 D).2 0 50001 (aA _);have U:A8 a [iV d]=cs0:=by rw [T0.o8 A];exact F
 have q0:=T0.lt A;have V:A8 a [l]=cs1:=by rw [T1.o8 B];exact G
 have q1:=T1.lt B;have W:A8 a [iV f]=cs2:=by rw [T2.o8 C];exact I
 have q2:=T2.lt C;have X:A8 a [iV h]=cs3:=by exact J
 have q3:=Y;refine⟨o8 a (iV d),o8 a (l),o8 a (iV f),o8 a (iV h),by rw [← U];simp [A8],by rw [← V];simp [A8],by rw [← W];simp [A8],by rw [← X];simp [A8],?_⟩;have c:dI (s.nm a) [iV d,l,iV f,iV h]:=⟨q0.1,q1.1,q2.1,q3.1,trivial⟩;have z:=((Lb ayt 50001 210).func g).2 L3.rm c;have Q:(A8 a [iV d,l,iV f,iV h]).toArray=#[o8 a (iV d),o8 a (l),o8 a (iV f),o8 a (iV h)]:=by simp [A8]
 rw [Q] at z;refine callsIn_wide.1 (z.mono ?_);rintro e w' (⟨u,rfl,r,k,ι9,hst,hlt,rfl⟩ | ⟨r,k,x,ι9,hx,_⟩);obtain rfl:=ql.1 k;refine⟨by simp [o8],hst.size,λb O=>hst.frame b O ?_,hst.os,hst.out,hst.tape⟩;rintro⟨i,x,hi,hx,_,_⟩;have:=Mem.N9 q hx;have:=L3.lim;omega;obtain rfl:=ql.1 k;cases hx
end Go.Proofs.YtfnlnpllpfhhnaaGreatDoor.TT
