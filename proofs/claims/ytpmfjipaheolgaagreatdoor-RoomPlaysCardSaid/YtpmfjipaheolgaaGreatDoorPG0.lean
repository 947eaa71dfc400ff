/- What is known of the library, and the row of RoomPlays in the evaluator's words; conditions: the row's own. -/
import Derived.Test.YtpmfjipaheolgaaGreatDoorPD7
import Derived.Test.YtpmfjipaheolgaaGreatDoorPC11
import Derived.Shelf.Strconv.Itoa3
import Derived.Shelf.Strconv.AtoiAll
import Derived.Shelf.Strings.FieldsAny
import Derived.Shelf.Strings.OnBuilder
import Derived.Shelf.Strings.Search3
import Derived.Shelf.Strings.Count
import Derived.Test.YtpmfjipaheolgaaGreatDoorProg
import Derived.Lib.AppendIntMem
import Derived.OpenShut
import Derived.ProofKit
import Derived.LaidMore
import Derived.ChangeSame
import Derived.Carry
import Derived.Below
set_option linter.all false
namespace Go.Proofs
open Go.Shelf
set_option maxRecDepth 100000
def Tryz.rn:Go.Shelf.Ren:=⟨fun|156=>133|165=>202|166=>203|169=>204|240=>338|241=>339|276=>414|277=>415|171=>261|243=>370|246=>449|283=>486|284=>487|285=>488|286=>489|129=>290|317=>506|318=>507|319=>508|320=>509|337=>514|338=>515|172=>131|244=>198|245=>199|247=>332|279=>333|280=>334|281=>335|282=>336|287=>409|316=>410|205=>411|321=>468|322=>469|143=>331|219=>408|217=>464|225=>465|224=>466|267=>467|266=>492|314=>493|138=>330|195=>405|218=>407|157=>337|229=>412|199=>413|261=>470|311=>494|312=>495|n=>n,fun|31=>93|72=>294|76=>207|70=>291|37=>292|75=>206|127=>387|164=>452|80=>296|171=>527|53=>351|173=>529|212=>558|51=>349|213=>559|46=>148|232=>566|233=>567|167=>378|85=>379|168=>381|175=>443|210=>447|145=>506|143=>504|146=>535|119=>449|40=>451|152=>507|154=>509|141=>511|196=>540|193=>537|198=>543|49=>541|194=>538|201=>546|226=>560|227=>561|n=>n,fun|17=>7|18=>8|19=>9|15=>0|16=>1|1=>3|0=>2|6=>4|n=>n⟩
theorem Tryz.Qt:Go.Proofs.Lays.n156 Tryz.prog Tryz.rn:=by constructor<;>first|kernel_rfl|exact λ_=>by kernel_rfl|(constructor<;>first|kernel_rfl|exact λ_=>by kernel_rfl|decide)|decide
theorem Tryz.nU:Builder.Extra Tryz.prog Tryz.rn:=by constructor<;>first|kernel_rfl|exact λ_=>by kernel_rfl|(constructor<;>first|kernel_rfl|exact λ_=>by kernel_rfl|decide)|decide
open Go.RowKit in
theorem Tryz.strings_Join_none(a:Option Addr)(c:Nat)(b:ByteArray)(w:World):
  Calls Tryz.prog 133 #[.slice a 0 c,.string b] w λe w'=>e=.returned (.string ⟨#[]⟩)∧w'=w:=Any.strings_Join_none Tryz.Qt Tryz.nU a c b w
theorem Tryz.ad5:Go.Proofs.LaysM.n171 Tryz.prog Tryz.rn:=by constructor<;>first|kernel_rfl|exact λ_=>by kernel_rfl|(constructor<;>first|kernel_rfl|exact λ_=>by kernel_rfl|decide)|decide
open Go.RowKit Go.Sort Go.Lib in
theorem Tryz.strconv_Itoa (n:Int)(h0:-9223372036854775808<=n)(b:n<=9223372036854775807)(w:World)(a:Lib.TabIs Tryz.prog w "internal/strconv.uint64pow10" .u64 Lib.pow10Tab):
  Calls Tryz.prog 261 #[.int .i64 n] w λe w'=>e=.returned (.string ⟨(Lib.itoa n).toArray⟩)∧∃k os,w'=grow (w.drewN k) os:=Any.strconv_Itoa Tryz.ad5 n h0 b w a
theorem Tryz.Ll:Go.Proofs.LaysC.n172 Tryz.prog Tryz.rn:=by constructor<;>first|kernel_rfl|exact λ_=>by kernel_rfl|(constructor<;>first|kernel_rfl|exact λ_=>by kernel_rfl|(constructor<;>first|kernel_rfl|exact λ_=>by kernel_rfl))
theorem Tryz.agm:Go.Proofs.Lays.n143 Tryz.prog Tryz.rn:=by constructor<;>first|kernel_rfl|exact λ_=>by kernel_rfl|(constructor<;>first|kernel_rfl|exact λ_=>by kernel_rfl|decide)|decide
open Go.RowKit Go.Lib in
theorem Tryz.strings_Index_one(s:ByteArray)(c:UInt8)(w:World):
  Calls Tryz.prog 331 #[.string s,.string ⟨#[c]⟩] w λe w'=>e=.returned (.int .i64 (Lib.indexByte s.data.toList c))∧w'=w:=Any.strings_Index_one Tryz.agm s c w
theorem Tryz.agn:Go.Proofs.Lays.n138 Tryz.prog Tryz.rn:=by constructor<;>first|kernel_rfl|exact λ_=>by kernel_rfl|(constructor<;>first|kernel_rfl|exact λ_=>by kernel_rfl|decide)|decide
open Go.RowKit Go.Lib in
theorem Tryz.strings_Count_one(s:ByteArray)(c:UInt8)(w:World):
  Calls Tryz.prog 330 #[.string s,.string ⟨#[c]⟩] w λe w'=>e=.returned (.int .i64 (Lib.countByte s.data.toList c))∧w'=w:=Any.strings_Count_one Tryz.agn s c w
theorem Tryz.agp:Go.Proofs.Lays.n157 Tryz.prog Tryz.rn:=by constructor<;>first|kernel_rfl|exact λ_=>by kernel_rfl|(constructor<;>first|kernel_rfl|exact λ_=>by kernel_rfl|decide)|decide
theorem Tryz.agq:Go.Proofs.Lays.n199 Tryz.prog Tryz.rn:=by constructor<;>first|kernel_rfl|exact λ_=>by kernel_rfl|(constructor<;>first|kernel_rfl|exact λ_=>by kernel_rfl|decide)|decide
open Go.RowKit Go.Lib in
theorem Tryz.strings_Fields_any (s:ByteArray)(w:World)(hs:s.size<4294967281)(a:Lib.TabIs Tryz.prog w "strings.asciiSpace" .u8 Lib.asciiSpaceTab)(b:Lib.WhiteTab 4 w):
  Calls Tryz.prog 337 #[.string s] w λe w'=>∃A,e=.returned (.slice (some ⟨A,0,none⟩) (Lib.fieldsD s.data.toList).length (Lib.fieldsD s.data.toList).length)∧w.heap.size<=A∧
   w'.ownsRow w.heap.size 9 1 (.slice (some ⟨A,0,none⟩) (Lib.fieldsD s.data.toList).length (Lib.fieldsD s.data.toList).length) (Lib.fieldsD s.data.toList).length ((Lib.fieldsD s.data.toList).map λx=>Value.string ⟨x.toArray⟩)∧Below w.heap.size w w':=Any.strings_Fields_any Tryz.agp (by kernel_rfl) (by kernel_rfl) (by kernel_rfl) s w hs a b
end Go.Proofs
namespace Go.Proofs.YtpmfjipaheolgaaGreatDoor.TT
open Go Go.AM Go.RowKit
set_option linter.unusedSimpArgs false
set_option linter.unusedVariables false
set_option maxRecDepth 100000
open Nat (beq ble blt)
section
variable {P:cH}{G:cD}{ι:Q0}{m:cD}{w:cG}
theorem ajj{n:String}{g:Nat}{cs:Array Value}{e:cI}{a:Nat×Nat}(hn:P.globalNamed n=some g)(h:w.heap[g]?=some (.cells cs e a)):w.var? P n=some cs:=by unfold World.var?;rw[hn];simp[h]
theorem agr(b:RM P G ι m w.heap){i:Nat}{k:cJ}{ns:cQ}(hi:i<P.globals.size)(g:G.get i=some (.cells ns.length 1 (T.ofList [ns.map (j5.int k)]))):
  ∃e fz,w.heap[i]?=some (.cells (ns.map (Value.int k)).toArray e fz):=by
 obtain⟨c,e,fz,l,x,_,r⟩:=b.blk i _ ((b.base i (aP hi b.gle)).trans g);obtain⟨q,p,v⟩:=b.glob i hi;obtain⟨t,u,o,a,y⟩:=b.gsz i _ _ _ hi g;rw[q,a]at l;cases l;obtain⟨f,n,z,A,s⟩:=r 0 (by omega);have d:f=ns.map (j5.int k):=by rw[T.bV]at n;simpa using n.symm
 subst d;suffices h:c=(ns.map (Value.int k)).toArray by rw[h]at a;exact⟨_,_,a⟩
 apply as4;intro j;by_cases hj:j<ns.length;have:=s j hj;rw[p,ah3,P7,P7]at this;rw[this];simp[hj,u7];rw[avK (by omega),avK (by simp;omega)]
theorem ad6(b:RM P G ι m w.heap){i:Nat}{n:String}{k:cJ}{ns:cQ}(hn:P.globalNamed n=some i)(hi:i<P.globals.size)(a:G.get i=some (.cells ns.length 1 (T.ofList [ns.map (j5.int k)]))):Lib.TabIs P w n k ns:=by obtain⟨e,c,h⟩:=agr b hi a;exact ajj hn h
theorem cell_of(l:RM P G ι m w.heap){i rs:Nat}{r:cM}(h:m.get i=some (.cells rs 1 (T.ofList [r]))){j:Nat}{v:j5}(k:j<rs)(o:r[j]?=some v):w.cell? ⟨(ι i).b,(ι i).base+j,none⟩=some (u7 ι v):=by
 obtain⟨c,e,q,g,s,_,n⟩:=l.blk i _ h;obtain⟨d,f,t,u,p⟩:=n 0 (by omega);have a:d=r:=by rw[T.bV]at f;simpa using f.symm
 subst a;have:=p j k;rw[ah3,P7]at this;simp[World.cell?,g,this,o]
theorem EI{v:j5}(n:Nat)(a:sK n [v]=[])(b:∀r,pR r [v]=some [v])(m:cD):Bh n ⟨v,m⟩=some ⟨v,[]⟩:=by show ob (kK n [v] m) _=_;rw[wP m a b];rfl
end
section
variable {ι:Q0}{w:cG}
theorem EJ:Tryz.prog.globals.size=11:=by kernel_rfl
theorem gn2:Tryz.prog.globalNamed "strings.asciiSpace"=some 2:=by kernel_rfl
theorem gn4:Tryz.prog.globalNamed "unicode.White_Space"=some 4:=by kernel_rfl
theorem gn7:Tryz.prog.globalNamed "internal/strconv.uint64pow10"=some 7:=by kernel_rfl
theorem avM (a:RM Tryz.prog base ι (Q7 base []) w.heap):Lib.TabIs Tryz.prog w "strings.asciiSpace" .u8 Lib.asciiSpaceTab:=by have h:=ad6 (ns:=nsA) (k:=.u8) a gn2 (by rw [EJ];omega) rfl;rw [show Lib.asciiSpaceTab=nsA by decide +kernel];exact h
theorem avN (a:RM Tryz.prog base ι (Q7 base []) w.heap):Lib.TabIs Tryz.prog w "internal/strconv.uint64pow10" .u64 Lib.pow10Tab:=by have h:=ad6 (ns:=nsP) (k:=.u64) a gn7 (by rw [EJ];omega) rfl;rw [show Lib.pow10Tab=nsP by decide +kernel];exact h
theorem white(c:RM Tryz.prog base ι (Q7 base []) w.heap):Lib.WhiteTab 4 w:=by
 have l:(Q7 base []).get 4=some (.cells 1 1 (T.ofList [[j5.ptr 11 0]])):=rfl;have a:(Q7 base []).get 11=some (.cells 3 1 (T.ofList [[.slice 12 0 7 7,.nilSlice,.int .i64 2]])):=rfl;have d:(Q7 base []).get 12=some (.cells 21 1 (T.ofList [nsW.map (j5.int .u16)])):=rfl;have e:=c.spot 11 _ a rfl;have f:=c.spot 12 _ d rfl;obtain⟨k,m,_⟩:=c.glob 4 (by rw[EJ];omega);refine⟨(ι 11).b,(ι 11).base,(ι 12).b,(ι 12).base,?_,?_,?_,?_,λi g=>?_⟩;have:=cell_of c l (j:=0) (by omega) rfl;rw[k,m]at this;simpa[u7,Q0.at,e]using this;have:=cell_of c a (j:=0) (by omega) rfl;simpa[u7,Q0.at,f]using this;have:=cell_of c a (j:=1) (by omega) rfl;simpa[u7]using this;have:=cell_of c a (j:=2) (by omega) rfl;simpa[u7]using this;have h:∀i,i<21->nsW[i]?=some ((Lib.whiteT.getD i 0:Nat):Int):=by decide
 have:=cell_of c d (j:=i) (v:=.int .u16 ((Lib.whiteT.getD i 0:Nat):Int)) g (by rw[abP,h i g];rfl);simpa[u7]using this
theorem avO(a:RM Tryz.prog base ι (Q7 base []) w.heap):∃ev,w.cell? ⟨0,0,none⟩=some ev∧(ev=.nilIface∨∃te pe,ev=.iface te pe):=by have c:(Q7 base []).get 0=some (.cells 1 1 (T.ofList [[j5.iface 504 (.ptr 13 0)]])):=rfl;obtain⟨b,d,_⟩:=a.glob 0 (by rw[EJ];omega);have:=cell_of a c (j:=0) (by omega) rfl;rw[b,d]at this;exact⟨u7 ι (.iface 504 (.ptr 13 0)),by simpa using this,.inr ⟨_,_,rfl⟩⟩
theorem avP(a:RM Tryz.prog base ι (Q7 base []) w.heap):∃ev,w.cell? ⟨1,0,none⟩=some ev∧(ev=.nilIface∨∃te pe,ev=.iface te pe):=by have c:(Q7 base []).get 1=some (.cells 1 1 (T.ofList [[j5.iface 504 (.ptr 14 0)]])):=rfl;obtain⟨b,d,_⟩:=a.glob 1 (by rw[EJ];omega);have:=cell_of a c (j:=0) (by omega) rfl;rw[b,d]at this;exact⟨u7 ι (.iface 504 (.ptr 14 0)),by simpa using this,.inr ⟨_,_,rfl⟩⟩
end
theorem ad7(n:Int)(h0:-9223372036854775808<=n)(a:n<=9223372036854775807):lI Tryz.prog base 261 [.int .i64 n] [] ⟨.str (Lib.itoa n),[]⟩:=
 vN (EI _ rfl (λ_=>rfl) _) (λ_=>trivial) (λ_ _=>by simp[u7]) λι w b=>by refine asg (Tryz.strconv_Itoa n h0 a w (avN b)) ?_;rintro e w' ⟨rfl,k,os,rfl⟩;exact⟨by simp[u7],Lib.below_grow _ w (aA _) k os⟩
theorem ad8(s:List cL)(hs:s.length<1000000):lI Tryz.prog base 131 [.str s] [] (Ep s):=by
 unfold Ep;cases h:Lib.atoiAll s with
 |ok v=>refine vN (EI _ rfl (λ_=>rfl) _) (λ_=>⟨trivial,trivial,trivial⟩) (λ_ _=>by simp[u7,A9]) λι w b=>?_;refine asg (Any.strconv_Atoi_ok Tryz.Ll ⟨s.toArray⟩ (by simp[ByteArray.size];omega) v (by simpa using h) w) ?_;rintro e w' ⟨rfl,hw⟩;refine⟨by simp[u7,A9],?_⟩;rcases hw with rfl|⟨t,rfl⟩;exact Below.refl _ _;exact Lib.bytesWorld_below _ _ _
 |range=>refine Pk (nb:=.dead) (Sg pE.ok _ 381) λι w b=>?_;obtain⟨c,d,a⟩:=avP b;refine asg (Any.strconv_Atoi_range Tryz.Ll ⟨s.toArray⟩ (by simp[ByteArray.size];omega) (by simpa using h) c w d a) ?_;rintro e w' ⟨N,rfl,hN,hc,hb⟩;refine⟨⟨N,0,0,none⟩,?_,hb,hN,?_,trivial,λh=>by cases h⟩;simp[u7,A9,Q0.at];rfl;refine⟨trivial,⟨.dead,?_,rfl⟩,trivial⟩;rw[cD.Q5 (m:=Q7 base []) pE.ok];exact cg rfl
 |_=>refine Pk (nb:=.dead) (Sg pE.ok 0 381) λι w b=>?_;obtain⟨c,d,a⟩:=avO b;refine asg (Any.strconv_Atoi_syntax Tryz.Ll ⟨s.toArray⟩ (by simp[ByteArray.size];omega) (by simpa using h) c w d a) ?_;rintro e w' ⟨N,rfl,hN,hc,hb⟩;refine⟨⟨N,0,0,none⟩,?_,hb,hN,?_,trivial,λh=>by cases h⟩;simp[u7,A9,Q0.at];rfl;refine⟨trivial,⟨.dead,?_,rfl⟩,trivial⟩;rw[cD.Q5 (m:=Q7 base []) pE.ok];exact cg rfl
theorem WH(s:List cL)(hs:s.length<1000000):lI Tryz.prog base 337 [.str s] [] (PE s):=by
 refine Pk (nb:=.cells 1 ((Lib.fieldsD s).map λw=>[j5.str w])) (aaX pE.ok _ _ _) λι w f=>?_;refine asg (Tryz.strings_Fields_any ⟨s.toArray⟩ w (by simp[ByteArray.size];omega) (avM f) (white f)) ?_;rintro e w' ⟨A,rfl,hA,⟨hl,ho⟩,hb⟩;rcases ho with⟨ho,_⟩|⟨g,cap,cur,hv,hg,hh,h1,h2,h3,h4⟩;simp at ho;simp only[Value.slice.injEq,iE,Addr.mk.injEq]at hv;obtain⟨⟨rfl,_,_⟩,_,rfl⟩:=hv;rw[ahk]at h3 h4;generalize Lib.fieldsD s=ws at *;have d:ws.length=cur.size:=h3.symm;refine⟨⟨A,0,ws.length,none⟩,?_,hb,hA,⟨fB (.cells 1 (ws.map λw=>[j5.str w])),?_,rfl⟩,?_,λ_=>⟨λc e h b k n=>?_,rfl⟩⟩;simp[u7,Q0.at];rw[cD.Q5 (m:=Q7 base []) pE.ok];exact cg rfl;refine⟨cur,_,_,hh,by simp;omega,⟨by simp,ws.length,by simp,?_⟩,λi a=>?_⟩;have:=T.kL (ws.map λw=>[j5.str w]);simpa using this;have a:i<ws.length:=by simpa using a
 refine⟨[.str ws[i]],by rw[T.bV];simp[a],rfl,⟨trivial,trivial⟩,λj l=>?_⟩;obtain rfl:j=0:=by omega
 have:=ci (·[i]?) h4;simp only[abP,ahO]at this;rw[cg a]at this;simpa[a,u7]using this;rw[hh]at b;cases b;simp
theorem ah9{v:j5}{off n:Nat}(q:(∃c,v=.slice base.nx off n c∧n<=c)∨∃es,v=.sliceU base.nx off n es){cF l:List cM}{ws:List (List cL)}{b:List cL}(hn:n<1000000)
  (p:takeN n (iA off cF)=some l) (r:wQ l=some ws) (d:(iP b ws).length<1000000):lI Tryz.prog base 133 [v,.str b] [.cells 1 cF] ⟨.str (iP b ws),[]⟩:=
 aaZ pE.ok (λa c b w=>Tryz.strings_Join_none a c b w) (λe o c x b w h=>Any.strings_Join_one Tryz.Qt Tryz.nU e o c x b w h)
  (λe o c s b w f g i j k m=>Any.strings_Join_many Tryz.Qt Tryz.nU e o c s b w f g i j k m) q hn p r d
theorem Ya{f:FuncId}{args:cM}{m:List NB}{a:EK}(h:ae5 331 330 133 base.nx f args m=some a):lI Tryz.prog base f args m a:=by
 unfold ae5 at h;cases h1:beq f 331 with
 |true=>
  rw[h1,aC]at h;obtain rfl:=nA h1;split at h;rename_i s c;cases hb:blt (len' s) 1000000 with
  |true=>rw[hb]at h;cases h;exact YZ (λs c w=>Tryz.strings_Index_one s c w) s c
  |false=>rw[hb]at h;cases h
  cases h
 |false=>
  rw[h1,bA]at h;cases h2:beq f 330 with
  |true=>
   rw[h2,aC]at h;obtain rfl:=nA h2;split at h;rename_i s c;cases hb:blt (len' s) 1000000 with
   |true=>rw[hb]at h;cases h;exact Za (λs c w=>Tryz.strings_Count_one s c w) s c
   |false=>rw[hb]at h;cases h
   cases h
  |false=>
   rw[h2,bA]at h;cases h3:beq f 133 with
   |false=>rw[h3]at h;cases h
   |true=>
    rw[h3,aC]at h;obtain rfl:=nA h3;have b:∀{n:Nat},blt n 1000000=true->n<1000000:=λh=>O8.mp h;split at h;rename_i v d o;unfold xC at h;split at h;cases h;rename_i id j n c;dsimp only at h;cases b1:beq id base.nx with
    |false=>rw[b1]at h;cases h
    |true=>
     cases b2:ble n c with
     |false=>rw[b1,b2]at h;cases h
     |true=>
      cases b3:blt n 1000000 with
      |false=>rw[b1,b2,b3]at h;cases h
      |true=>
       rw[b1,b2,b3]at h;obtain⟨l,g,h⟩:=D7 h;obtain⟨k,i,h⟩:=D7 h;cases b4:blt (len' (iP d k)) 1000000 with
       |false=>rw[b4]at h;cases h
       |true=>rw[b4]at h;cases h;obtain rfl:=nA b1;exact ah9 (.inl ⟨c,rfl,D5 b2⟩) (b b3) g i (by have:=b b4;rwa [K7]at this)
    rename_i id j n p;dsimp only at h;cases b1:beq id base.nx with
    |false=>rw[b1]at h;cases h
    |true=>
     cases b3:blt n 1000000 with
     |false=>rw[b1,b3]at h;cases h
     |true=>
      rw[b1,b3]at h;obtain⟨l,g,h⟩:=D7 h;obtain⟨k,i,h⟩:=D7 h;cases b4:blt (len' (iP d k)) 1000000 with
      |false=>rw[b4]at h;cases h
      |true=>rw[b4]at h;cases h;obtain rfl:=nA b1;exact ah9 (.inr ⟨p,rfl⟩) (b b3) g i (by have:=b b4;rwa [K7]at this)
    cases h;rename_i d;cases h;exact vN (ae8 _ _ _) (λ_=>trivial) (λ_ _=>by simp[u7]) λι w _=>(by refine asg (Tryz.strings_Join_none none 0 ⟨d.toArray⟩ w) ?_;rintro e w' ⟨rfl,rfl⟩;exact⟨by simp[u7],Below.refl _ _⟩);cases h
theorem ags{f:FuncId}{args:cM}{c:List NB}{a:EK}(h:ai7 f args c=some a):lI Tryz.prog base f args c a:=by unfold ai7 at h;split at h;split at h;split at h;rename_i i;obtain⟨rfl,e,g⟩:=i;cases h;exact ad7 _ e g;cases h;split at h;rename_i d;split at h;rename_i b;subst b;cases h;exact ad8 _ d;split at h;rename_i b;subst b;cases h;exact WH _ d;cases h;cases h;cases h;cases h
theorem ZO{P:cH}{f:FuncId}{sf:L6}(h:sO P f sf)(b:Bool):sO P f {sf with pure:=b}:=
 ⟨h.ok,h.is⟩
theorem agt:∀f args bs a,KW.sum f args bs=some a->lI Tryz.prog base f args bs a:=by
 intro f args bs a h;have h:wV f args bs=some a:=h;unfold wV at h;split at h;have c:∀s∈[qS],lI Tryz.prog base s.f s.args s.bs s.a:=λs d=>by rcases lM.1 d with rfl;exact qoS
 exact Ck [qS] c _ _ _ _ h;split at h;exact Ya h;split at h;rename_i b;subst b;exact Ya h;exact ags h
theorem arN:KOk Tryz.prog KW:=by
 refine⟨mixed,λf sf h=>?_,⟨Ny,pE⟩,agt⟩;have h:(fns f).map (λsf=>{sf with pure:=SA f})=some sf:=h;cases hf:fns f with
 |none=>rw[hf]at h;cases h
 |some s0=>rw[hf]at h;cases h;exact ZO (abm f s0 hf) _
end Go.Proofs.YtpmfjipaheolgaaGreatDoor.TT
namespace Go.AM
open Go
open Nat (beq ble blt)
def ZP(P:cH)(t:cI):Option (List cI):=match P.underlying t with
 |some (.struct fs)=>some (fs.toList.map (·.type))
 |_=>none
def slT(P:cH)(t:cI):Option cI:=match P.underlying t with
 |some (.slice e)=>some e
 |_=>none
def inT(P:cH)(t:cI):Option cJ:=match P.underlying t with
 |some (.int k)=>some k
 |_=>none
def Yb(S:cI->cM->Prop):List cI->cM->Prop
 |[],vs=>vs=[]
 |t::ts,vs=>∃a b,vs=a++b∧S t a∧Yb S ts b
theorem TL{S:cI->cM->Prop}:∀fs vs,Ng S fs vs->Yb S (fs.map (·.type)) vs
 |[],_,h=>h
 |_::fs,_,⟨a,b,h1,h2,h3⟩=>⟨a,b,h1,h2,TL fs b h3⟩
theorem CZ{P:cH}{m:cD}{n:Nat}{t:cI}{a:List cI}{vs:cM}(h:ZP P t=some a)(hs:Bf P m (n+1) t vs):Yb (Bf P m n) a vs:=by unfold Bf at hs;unfold ZP at h;split at h;rename_i c b;rw[b]at hs;cases h;exact TL _ _ hs;cases h
theorem Yc{P:cH}{m:cD}{n:Nat}{t:cI}{k:cJ}{vs:cM}(h:inT P t=some k)(hs:Bf P m (n+1) t vs):∃i,vs=[.int k i]∧(Lit.int k i).wf=true:=by unfold Bf at hs;unfold inT at h;split at h;rename_i b a;rw[a]at hs;cases h;exact hs;cases h
theorem Gp{P:cH}{m:cD}{n:Nat}{t e:cI}{vs:cM}(h:slT P t=some e)(hs:Bf P m (n+1) t vs):vs=[.nilSlice]∨∃id len cap,vs=[.slice id 0 len cap]∧len<=cap∧cap<=maxLen∧
        ((cap=0∧m.get id=some .dead)∨∃cF,0<cap∧m.get id=some (.cells (P.cellsOf e) cap cF)∧∀i,i<cap->∃row,cF.get i=some row∧row.length=P.cellsOf e∧Bf P m n e row):=by
 unfold Bf at hs;unfold slT at h;split at h;rename_i b a;rw[a]at hs;cases h;exact hs;cases h
end Go.AM
namespace Go.Proofs.YtpmfjipaheolgaaGreatDoor.TT
open Go Go.AM
open Nat (beq ble blt)
theorem t3:inT Tryz.prog 3=some .i64:=by kernel_rfl
theorem t56:slT Tryz.prog 56=some 3:=by kernel_rfl
theorem t22:slT Tryz.prog 22=some 62:=by kernel_rfl
theorem c3:Tryz.prog.cellsOf 3=1:=by kernel_rfl
theorem c62:Tryz.prog.cellsOf 62=32:=by kernel_rfl
theorem t62:ZP Tryz.prog 62=some [3,3,3,3,30,51,53,55,58,60,47]:=by kernel_rfl
theorem t30:ZP Tryz.prog 30=some [3,3]:=by kernel_rfl
theorem t49:ZP Tryz.prog 49=some [3,3]:=by kernel_rfl
theorem t51:ZP Tryz.prog 51=some [3,3,3,30,49,3]:=by kernel_rfl
theorem t53:ZP Tryz.prog 53=some [3,3]:=by kernel_rfl
theorem t55:ZP Tryz.prog 55=some [3,30,3]:=by kernel_rfl
theorem t58:ZP Tryz.prog 58=some [3,3,56,56,3,3,30]:=by kernel_rfl
theorem t60:ZP Tryz.prog 60=some [3,56]:=by kernel_rfl
theorem t47:ZP Tryz.prog 47=some [3,3]:=by kernel_rfl
theorem c9:Tryz.prog.cellsOf 9=1:=by kernel_rfl
theorem t66:slT Tryz.prog 66=some 75:=by kernel_rfl
theorem t75:ZP Tryz.prog 75=some [3,3,62,22,56,3,3]:=by kernel_rfl
theorem c75:Tryz.prog.cellsOf 75=38:=by kernel_rfl
set_option maxRecDepth 100000
set_option maxHeartbeats 2000000
theorem Gq{m:cD}(a:m.Ok){i:Nat}{b:Y9}(h:m.get i=some b):i<m.nx:=cD.Q9 a h
abbrev Lm(m:cD)(n:Nat):=Yb (Bf Tryz.prog m n)
theorem ajk{i:Int}(h:(Lit.int .i64 i).wf=true):ah i:=by
 simp only[Lit.wf,oo,ck]at h;have a:IntKind.min .i64=-9223372036854775808:=by decide +kernel
 have b:IntKind.max .i64=9223372036854775807:=by decide +kernel
 rw[a,b]at h;exact⟨h.1,by omega⟩
theorem bW{m:cD}{n:Nat}{c:List cI}{vs:cM}(h:Lm m (n+1) (3::c) vs):∃i w,vs=.int .i64 i::w∧ah i∧Lm m (n+1) c w:=by obtain⟨a,b,rfl,d,e⟩:=h;obtain⟨i,rfl,f⟩:=Yc t3 d;exact⟨i,b,rfl,ajk f,e⟩
theorem Ag{m:cD}{n:Nat}{t:cI}{us c:List cI}{vs:cM}(f:ZP Tryz.prog t=some us)(h:Lm m (n+1) (t::c) vs):∃a w,vs=a++w∧Lm m n us a∧Lm m (n+1) c w:=by obtain⟨a,b,rfl,d,e⟩:=h;exact⟨a,b,rfl,CZ f d,e⟩
theorem arP{m:cD}(b:m.Ok){n:Nat}{vs:cM}(h:Bf Tryz.prog m (n+2) 56 vs):∃v xs,vs=[v]∧U5 m v xs:=by
 rcases Gp t56 h with rfl|⟨id,len,cap,rfl,hlc,_,hr⟩;exact⟨_,[],rfl,.inl ⟨rfl,rfl⟩⟩;rcases hr with⟨rfl,hd⟩|⟨cF,hc,hb,hrow⟩;obtain rfl:len=0:=by omega
 exact⟨_,[],rfl,.inr ⟨(id,0),.inl ⟨_,rfl⟩,Gq b hd,.inl rfl⟩⟩;let g:Nat->Int:=λi=>match cF.get i with
  |some [.int _ x]=>x
  |_=>0
 refine⟨_,(List.range len).map g,rfl,.inr ⟨(id,0),.inl ⟨cap,by simp⟩,Gq b hb,.inr ⟨cap,cF,by rw[hb,c3],by simpa using hlc,λi d=>?_⟩⟩⟩;rw[P7];have e:i<len:=by simpa using d
 obtain⟨f,a,_,c⟩:=hrow i (by omega);obtain⟨x,rfl,_⟩:=Yc t3 c;rw[a];simp only[akl,avA];show some [j5.int .i64 x]=some [.int .i64 (g i)];simp only[g,a]
theorem Yd{m:cD}(f:m.Ok){n:Nat}{c:List cI}{vs:cM}(h:Lm m (n+2) (56::c) vs):∃v xs w,vs=v::w∧U5 m v xs∧Lm m (n+2) c w:=by obtain⟨a,b,rfl,d,e⟩:=h;obtain⟨v,xs,rfl,g⟩:=arP f d;exact⟨v,xs,b,rfl,g,e⟩
theorem Qu{m:cD}(z:m.Ok){n:Nat}{vs:cM}(h0:Bf Tryz.prog m (n+6) 62 vs):∃r:FR,vs=r.f.cells∧J9 m r:=by
 have h:Lm m (n+5) [3,3,3,3,30,51,53,55,58,60,47] vs:=CZ t62 h0;obtain⟨room,c7,rfl,x,q0⟩:=bW h;obtain⟨no,c8,rfl,w,q1⟩:=bW q0;obtain⟨known,c9,rfl,l,q2⟩:=bW q1;obtain⟨kind,ca,rfl,t,q3⟩:=bW q2;obtain⟨bw,cb,rfl,ab,q4⟩:=Ag t30 q3;obtain⟨flo,cc,rfl,ap,q5⟩:=bW ab;obtain⟨fhi,cd,rfl,ao,q6⟩:=bW q5;obtain rfl:=q6;obtain⟨bx,ce,rfl,ac,q8⟩:=Ag t51 q4;obtain⟨gid,cf,rfl,aq,q9⟩:=bW ac;obtain⟨made,ay,rfl,u,C⟩:=bW q9;obtain⟨nom,az,rfl,av,D⟩:=bW C;obtain⟨ad,b0,rfl,a,E⟩:=Ag t30 D;obtain⟨tlo,b1,rfl,ax,F⟩:=bW a;obtain⟨thi,b2,rfl,aw,G⟩:=bW F;obtain rfl:=G;obtain⟨ae,b3,rfl,b,H⟩:=Ag t49 E;obtain⟨gn,b4,rfl,s,I⟩:=bW b;obtain⟨gd,b5,rfl,q,J⟩:=bW I;obtain rfl:=J;obtain⟨wear,b6,rfl,y,K⟩:=bW H;obtain rfl:=K;obtain⟨af,b7,rfl,c,M⟩:=Ag t53 q8;obtain⟨ug,b8,rfl,c6,N⟩:=bW c;obtain⟨ud,b9,rfl,c5,O⟩:=bW N;obtain rfl:=O;obtain⟨ag,ba,rfl,d,P⟩:=Ag t55 M;obtain⟨lg,bb,rfl,bz,Q⟩:=bW d;obtain⟨ah,bc,rfl,e,R⟩:=Ag t30 Q;obtain⟨ll,bd,rfl,c1,S⟩:=bW e;obtain⟨lh,be,rfl,c0,T⟩:=bW S;obtain rfl:=T;obtain⟨lw,bf,rfl,c2,U⟩:=bW R;obtain rfl:=U;obtain⟨ai,bg,rfl,g,V⟩:=Ag t58 P;obtain⟨cid,bh,rfl,am,W⟩:=bW g;obtain⟨cday,bi,rfl,o,X⟩:=bW W;obtain⟨A,xa,bj,rfl,sA,Y⟩:=Yd z X;obtain⟨B,xb,bk,rfl,sB,Z⟩:=Yd z Y;obtain⟨diff,bl,rfl,p,a0⟩:=bW Z;obtain⟨err,bm,rfl,an,a1⟩:=bW a0;obtain⟨aj,bn,rfl,i,a2⟩:=Ag t30 a1;obtain⟨hlo,bo,rfl,au,a3⟩:=bW i;obtain⟨hhi,bp,rfl,ar,a4⟩:=bW a3;obtain rfl:=a4;obtain rfl:=a2;obtain⟨ak,bq,rfl,j,a5⟩:=Ag t60 V;obtain⟨mday,br,rfl,v,a6⟩:=bW j;obtain⟨L,xl,bs,rfl,sL,a7⟩:=Yd z a6;obtain rfl:=a7;obtain⟨al,bt,rfl,k,a8⟩:=Ag t47 a5;obtain⟨tr,bu,rfl,c4,a9⟩:=bW k;obtain⟨tn,bv,rfl,c3,aa⟩:=bW a9;obtain rfl:=aa;obtain rfl:=a8
 exact⟨⟨{room:=room,no:=no,known:=known,kind:=kind,flo:=flo,fhi:=fhi,gid:=gid,made:=made,nom:=nom,tlo:=tlo,thi:=thi,gn:=gn,gd:=gd,wear:=wear,ug:=ug,ud:=ud,lg:=lg,ll:=ll,lh:=lh,lw:=lw,cid:=cid,cday:=cday,A:=A,B:=B,diff:=diff,err:=err,hlo:=hlo,hhi:=hhi,mday:=mday,L:=L,tr:=tr,tn:=tn},xa,xb,xl⟩,rfl,⟨sA,sB,sL,s,q,w⟩⟩
theorem ad9{m:cD}(b:m.Ok){n:Nat}{vs:cM}(h:Bf Tryz.prog m (n+7) 22 vs):∃v fs,vs=[v]∧au m v fs∧∀i (h:i<fs.length),J9 m fs[i]:=by
 rcases Gp t22 h with rfl|⟨id,len,cap,rfl,hlc,_,hr⟩;exact⟨_,[],rfl,.inl ⟨rfl,rfl⟩,λi h=>by simp at h⟩;rcases hr with⟨rfl,hd⟩|⟨cF,hc,hb,hrow⟩;obtain rfl:len=0:=by omega
 exact⟨_,[],rfl,.inr ⟨id,.inl ⟨0,rfl⟩,Gq b hd,.inl rfl⟩,λi h=>by simp at h⟩;have l:∀i,∃r:FR,i<cap->cF.get i=some r.f.cells∧J9 m r:=λi=>by by_cases a:i<cap;obtain⟨e,k,_,c⟩:=hrow i a;obtain⟨r,rfl,o⟩:=Qu b c;exact⟨r,λ_=>⟨k,o⟩⟩;obtain⟨e,k,_,c⟩:=hrow 0 hc;obtain⟨r,_,_⟩:=Qu b c;exact⟨r,λh=>cj h a⟩
 let g:Nat->FR:=λi=>Classical.choose (l i)
 have j:∀i,i<cap->cF.get i=some (g i).f.cells∧J9 m (g i):=λi=>Classical.choose_spec (l i);refine⟨_,(List.range len).map g,rfl,.inr ⟨id,.inl ⟨cap,by simp⟩,Gq b hb,.inr ⟨cap,cF,by rw[hb,c62],by simpa using hlc,λi a=>?_⟩⟩,λi a=>?_⟩;have d:i<len:=by simpa using a
 simp only[akl,avA];exact(j i (by omega)).1;have d:i<len:=by simpa using a
 simp only[akl,avA];exact(j i (by omega)).2
theorem ada{m:cD}{n:Nat}{t:cI}{c:List cI}{vs:cM}(h:Lm m n (t::c) vs):∃a w,vs=a++w∧Bf Tryz.prog m n t a∧Lm m n c w:=by obtain⟨a,b,e,d,f⟩:=h;exact⟨a,b,e,d,f⟩
theorem adb{m:cD}(f:m.Ok){n:Nat}{vs:cM}(h0:Bf Tryz.prog m (n+8) 75 vs):∃a:Act,vs=a.cells∧Gn m a:=by have w:Lm m (n+7) [3,3,62,22,56,3,3] vs:=CZ t75 h0;obtain⟨c,H,rfl,-,y⟩:=bW w;obtain⟨g,I,rfl,-,z⟩:=bW y;obtain⟨F,J,rfl,h,A⟩:=ada z;obtain⟨r,rfl,q⟩:=Qu f (n:=n+1) h;obtain⟨G,K,rfl,i,B⟩:=ada A;obtain⟨v,l,rfl,p,e⟩:=ad9 f (n:=n) i;obtain⟨t,s,L,rfl,k,C⟩:=Yd f B;obtain⟨b,M,rfl,-,D⟩:=bW C;obtain⟨d,N,rfl,-,E⟩:=bW D;obtain rfl:=E;refine⟨⟨c,g,r,v,l,t,s,b,d⟩,by simp[Act.cells],⟨q,p,λx u=>?_,k⟩⟩;obtain⟨j,o,rfl⟩:=agB u;exact e j o
theorem agu{m:cD}(c:m.Ok){n:Nat}{vs:cM}(h:Bf Tryz.prog m (n+9) 66 vs):∃(v:j5) (acts:List Act),vs=[v]∧mV m 38 v (acts.map Act.cells)∧∀a∈acts,Gn m a:=by
 rcases Gp t66 h with rfl|⟨id,len,cap,rfl,hlc,_,e⟩;exact⟨_,[],rfl,.inl ⟨rfl,rfl⟩,λi h=>by cases h⟩;rcases e with⟨rfl,hd⟩|⟨cF,hc,hb,hrow⟩;obtain rfl:len=0:=by omega
 exact⟨_,[],rfl,.inr ⟨id,0,.inl ⟨0,by simp,by simp⟩,Gq c hd,.inl rfl⟩,λi h=>by cases h⟩;have l:∀i,∃a:Act,i<cap->cF.get i=some a.cells∧Gn m a:=λi=>by by_cases b:i<cap;obtain⟨f,k,_,d⟩:=hrow i b;obtain⟨r,rfl,o⟩:=adb c d;exact⟨r,λ_=>⟨k,o⟩⟩;obtain⟨f,k,_,d⟩:=hrow 0 hc;obtain⟨r,_,_⟩:=adb c d;exact⟨r,λh=>cj h b⟩
 let g:Nat->Act:=λi=>Classical.choose (l i)
 have j:∀i,i<cap->cF.get i=some (g i).cells∧Gn m (g i):=λi=>Classical.choose_spec (l i);rw[c75]at hb;refine⟨_,(List.range len).map g,rfl,.inr ⟨id,0,.inl ⟨cap,by simp,by simpa using hlc⟩,Gq c hb,.inr ⟨cap,cF,hb,by simpa using hlc,λr e=>?_,λi b=>?_⟩⟩,λa p=>?_⟩;obtain⟨a,_,rfl⟩:=adg.1 e;exact Act.len a;have q:i<len:=by simpa using b
 simp only[akl,avA,P7];exact(j i (by omega)).1;obtain⟨i,b,rfl⟩:=adg.1 p;exact(j i (by have:=akg.1 b;omega)).2
open Go Go.AM Go.RowKit
theorem Lr{w:cG}{b o:Nat}{v:Value}(h:w.cell? ⟨b,o,none⟩=some v):∃c e fz,w.heap[b]?=some (Obj.cells c e fz)∧c[o]?=some v:=by unfold World.cell? at h;split at h;rename_i c e fz a;exact⟨c,e,fz,a,by simpa using h⟩;cases h
theorem fK{P:cH}{ι:Q0}{n:Nm}{w:cG}{l:AM.Loc}{row:cM}{N:Nat}(p:row.length=N)(h0:0<N)(u:l.cap=N)(f:fD n row)
  (h:∀j v,row[j]?=some v->w.cell? ⟨l.b,l.base+j,none⟩=some (u7 ι v)):iF P ι n w.heap l (.cells N 1 (T.ofList [row])):=by
 subst p;obtain⟨c,e,m,g,q⟩:=Lr (h (row.length-1) row[row.length-1] (by simp));refine⟨c,e,m,g,?_,⟨by omega,1,aA _,T.kL [_]⟩,λi t=>?_⟩;have:=(vo.1 q).1;omega;obtain rfl:i=0:=by omega
 refine⟨row,rfl,rfl,f,λj k=>?_⟩;obtain⟨r,s,o,a,d⟩:=Lr (h j row[j] (by simp[k]));rw[g]at a;cases a;simpa[k]using d
theorem vS(n:Nm)(k:cJ):∀l:cQ,fD n (l.map (j5.int k))
 |[]=>trivial
 |_::l=>⟨trivial,vS n k l⟩
theorem Od{P:cH}{w:cG}{n:String}{g:Nat}{cs:Array Value}(hn:P.globalNamed n=some g)(h:w.var? P n=some cs):∃e fz,w.heap[g]?=some (Obj.cells cs e fz):=by unfold World.var? at h;rw[hn]at h;simp only[agU]at h;split at h;rename_i c e fz a;cases h;exact⟨e,fz,a⟩;cases h
theorem AZ{P:cH}{w:cG}{n:String}{g:Nat}{k:cJ}{ns:cQ}(hn:P.globalNamed n=some g)(h:Lib.TabIs P w n k ns)(ι:Q0):∀j v,(ns.map (j5.int k))[j]?=some v->w.cell? ⟨g,0+j,none⟩=some (u7 ι v):=by intro j v a;rw[abP,akj]at a;obtain⟨z,b,rfl⟩:=a;have c:=(gB.1 b).1;rw[P7,h.cell hn j c];simp[u7,List.getD,b]
theorem gn0:Tryz.prog.globalNamed "strconv.ErrSyntax"=some 0:=by kernel_rfl
theorem gn1:Tryz.prog.globalNamed "strconv.ErrRange"=some 1:=by kernel_rfl
theorem gn8:Tryz.prog.globalNamed "math/bits.deBruijn32tab"=some 8:=by kernel_rfl
theorem gn9:Tryz.prog.globalNamed "math/bits.deBruijn64tab"=some 9:=by kernel_rfl
def Hu(bT oT R oR:Nat)(a2 a3:Addr):Q0:=λi=>⟨if i=11 then bT else if i=12 then R else if i=13 then a2.block else if i=14 then a3.block else i,
 if i=11 then oT else if i=12 then oR else if i=13 then a2.off else if i=14 then a3.off else 0,
 if i=2 then 256 else if i=4 then 1 else if i=0 then 1 else if i=1 then 1 else if i=7 then 20 else if i=8 then 32 else if i=9 then 64 else if i=11 then 3 else if i=12 then 21 else 0,
 if i=13 then a2.spot else if i=14 then a3.spot else none⟩
theorem agv {w:cG}{x1:Value}{U V:Addr}(Y:Lib.TabIs Tryz.prog w "strings.asciiSpace" .u8 nsA)(Z:Lib.TabIs Tryz.prog w "internal/strconv.uint64pow10" .u64 nsP)
  (C:Lib.TabIs Tryz.prog w "math/bits.deBruijn32tab" .u8 aeb) (D:Lib.TabIs Tryz.prog w "math/bits.deBruijn64tab" .u8 aec) (hW:Lib.WhiteTab 4 w) (W:w.var? Tryz.prog "unicode.White_Space"=some #[x1])
  (E:w.var? Tryz.prog "strconv.ErrSyntax"=some #[.iface 504 (.pointer (some U))]) (X:w.var? Tryz.prog "strconv.ErrRange"=some #[.iface 504 (.pointer (some V))]):∃ι,RM Tryz.prog base ι (Q7 base []) w.heap:=by
 obtain⟨bT,oT,R,oR,w1,w2,w3,w4,w5⟩:=hW;refine⟨Hu bT oT R oR U V,?_⟩;have z:base.nx=15:=rfl;have m:T.Ok base.t base.nx:=pE.ok;have I:base.get 2=some (.cells nsA.length 1 (T.ofList [nsA.map (j5.int .u8)])):=rfl;have K:base.get 4=some (.cells 1 1 (T.ofList [[j5.ptr 11 0]])):=rfl;have G:base.get 0=some (.cells 1 1 (T.ofList [[j5.iface 504 (.ptr 13 0)]])):=rfl;have H:base.get 1=some (.cells 1 1 (T.ofList [[j5.iface 504 (.ptr 14 0)]])):=rfl;have J:base.get 3=some .dead:=rfl;have O:base.get 7=some (.cells nsP.length 1 (T.ofList [nsP.map (j5.int .u64)])):=rfl;have L:base.get 5=some .dead:=rfl;have M:base.get 6=some .dead:=rfl;have P:base.get 8=some (.cells aeb.length 1 (T.ofList [aeb.map (j5.int .u8)])):=rfl;have Q:base.get 9=some (.cells aec.length 1 (T.ofList [aec.map (j5.int .u8)])):=rfl;have q:base.get 10=some .dead:=rfl;have A:base.get 11=some (.cells 3 1 (T.ofList [[.slice 12 0 7 7,.nilSlice,.int .i64 2]])):=rfl;have B:base.get 12=some (.cells nsW.length 1 (T.ofList [nsW.map (j5.int .u16)])):=rfl;have r:base.get 13=some .dead:=rfl;have s:base.get 14=some .dead:=rfl;have y:∀i b,base.get i=some b->jU b=false->(Q7 base []).has i:=λi b y f=>⟨b,y,f⟩;refine⟨m,λi b a=>?_,λi b l a=>?_,aA _,aA _,by rw[EJ,z];omega,λi l=>rfl,λi l=>?_,λi l=>?_,λi b a hl=>?_,λi rs k a0 l d=>?_⟩;have a:base.get i=some b:=a;have l:i<15:=cD.Q9 m a;match i,l with
 |2,_=>rw[I]at a;cases a;exact fK (by simp) (by decide) rfl (vS _ _ _) (AZ gn2 Y _)
 |4,_=>
  rw[K]at a;cases a;refine fK (by rfl) (by decide) rfl ⟨y 11 _ A rfl,trivial⟩ λj v f=>?_;obtain rfl:j=0:=by have:=(gB.1 f).1;simpa using this
  cases f;simpa[u7,Q0.at,Hu]using w1
 |0,_=>
  rw[G]at a;cases a;refine fK (by rfl) (by decide) rfl ⟨y 13 _ r rfl,trivial⟩ λj v f=>?_;obtain rfl:j=0:=by have:=(gB.1 f).1;simpa using this
  cases f;have:=World.var?_cell gn0 E 0;simpa[u7,Q0.at,Hu]using this
 |1,_=>
  rw[H]at a;cases a;refine fK (by rfl) (by decide) rfl ⟨y 14 _ s rfl,trivial⟩ λj v f=>?_;obtain rfl:j=0:=by have:=(gB.1 f).1;simpa using this
  cases f;have:=World.var?_cell gn1 X 0;simpa[u7,Q0.at,Hu]using this
 |3,_=>rw[J]at a;cases a;trivial
 |7,_=>rw[O]at a;cases a;exact fK (by simp) (by decide) rfl (vS _ _ _) (AZ gn7 Z _)
 |5,_=>rw[L]at a;cases a;trivial
 |6,_=>rw[M]at a;cases a;trivial
 |8,_=>rw[P]at a;cases a;exact fK (by simp) (by decide) rfl (vS _ _ _) (AZ gn8 C _)
 |9,_=>rw[Q]at a;cases a;exact fK (by simp) (by decide) rfl (vS _ _ _) (AZ gn9 D _)
 |10,_=>rw[q]at a;cases a;trivial
 |11,_=>
  rw[A]at a;cases a;refine fK (by rfl) (by decide) rfl ⟨y 12 _ B rfl,trivial,trivial,trivial⟩ λj v f=>?_;have F:=(gB.1 f).1;match j,F with
  |0,_=>cases f;simpa[u7,Q0.at,Hu]using w2
  |1,_=>cases f;simpa[u7,Q0.at,Hu]using w3
  |2,_=>cases f;simpa[u7,Q0.at,Hu]using w4
 |12,_=>
  rw[B]at a;cases a;refine fK (by simp) (by decide) rfl (vS _ _ _) λj v f=>?_;have h:∀i,i<21->nsW[i]?=some ((Lib.whiteT.getD i 0:Nat):Int):=by decide
  have F:j<21:=by have:=(gB.1 f).1;simpa[nsW]using this
  rw[abP,h j F]at f;cases f;simpa[u7,Q0.at,Hu]using w5 j F
 |13,_=>rw[r]at a;cases a;trivial
 |14,_=>rw[s]at a;cases a;trivial
 have a:base.get i=some b:=a;have W:i<15:=cD.Q9 m a;have E:base.nx<=i:=l;rw[z]at E;omega;rw[EJ]at l;match i,l with
 |2,_=>exact⟨_,I,rfl⟩
 |4,_=>exact⟨_,K,rfl⟩
 |0,_=>exact⟨_,G,rfl⟩
 |1,_=>exact⟨_,H,rfl⟩
 |3,_=>exact⟨_,J,rfl⟩
 |7,_=>exact⟨_,O,rfl⟩
 |5,_=>exact⟨_,L,rfl⟩
 |6,_=>exact⟨_,M,rfl⟩
 |8,_=>exact⟨_,P,rfl⟩
 |9,_=>exact⟨_,Q,rfl⟩
 |10,_=>exact⟨_,q,rfl⟩
 rw[EJ]at l;match i,l with
 |2,_|4,_|0,_|1,_|3,_|7,_|5,_|6,_|8,_|9,_|10,_=>exact⟨rfl,rfl,rfl⟩
 have a:base.get i=some b:=a;have l:i<15:=cD.Q9 m a;match i,l with
 |2,_|4,_|0,_|1,_|3,_|7,_|5,_|6,_|8,_|9,_|10,_|11,_|12,_=>rfl
 |13,_=>rw[r]at a;cases a;cases hl
 |14,_=>rw[s]at a;cases a;cases hl
 rw[EJ]at l;have o:∀{n:String} {k:cJ} {ns:cQ} {g N:Nat},Tryz.prog.globalNamed n=some g->ns.length=N->Lib.TabIs Tryz.prog w n k ns->∃c e p,w.heap[g]?=some (Obj.cells c e p)∧c.size=1*N:=λz hN S=>by obtain⟨e,p,h⟩:=Od z S;exact⟨_,e,p,h,by simp[hN]⟩
 have u:∀{n:String} {x:Value} {g:Nat},Tryz.prog.globalNamed n=some g->w.var? Tryz.prog n=some #[x]->∃c e p,w.heap[g]?=some (Obj.cells c e p)∧c.size=1*1:=λz S=>by obtain⟨e,p,h⟩:=Od z S;exact⟨_,e,p,h,rfl⟩
 match i,l with
 |2,_=>rw[I]at d;cases d;exact o gn2 rfl Y
 |4,_=>rw[K]at d;cases d;exact u gn4 W
 |0,_=>rw[G]at d;cases d;exact u gn0 E
 |1,_=>rw[H]at d;cases d;exact u gn1 X
 |3,_=>rw[J]at d;cases d
 |7,_=>rw[O]at d;cases d;exact o gn7 rfl Z
 |5,_=>rw[L]at d;cases d
 |6,_=>rw[M]at d;cases d
 |8,_=>rw[P]at d;cases d;exact o gn8 rfl C
 |9,_=>rw[Q]at d;cases d;exact o gn9 rfl D
 |10,_=>rw[q]at d;cases d
open Go Go.AM Go.ChangeShapes Go.WideShapes Go.ChangeAt Go.RowKit
theorem laidOut:laidOutB Tryz.prog=true:=by kernel_rfl
theorem TM{H:Type}{enc:cI×Value->H}{P:cH}{f:Func}{s:ChangeSpec}{c n d m:Bool}{W W':cG}{args:Array Value}{v:Value}{o q:List (DataW H)}{before pa pv:List MemPlace}
  (w:DataW.Whole enc P f.params.toList s.vars c W args.toList o q before)
  (l:∀(b:Nat) (sp:Nat->Bool) (hd:Bool),DataW.TrodAll enc P W' b sp hd f.resultTypes.toList (v.resultList f.resultTypes.size) (s.fn H (o++q)).results [])
  (e:∀sp:Nat->Bool,(∀p∈before,sp p.block=true)->DataW.TrodAll enc P W' 0 sp true f.params.toList args.toList (s.fn H (o++q)).args pa)
  (g:∀sp:Nat->Bool,(∀p∈before,sp p.block=true)->DataW.TrodVars enc P W' sp s.vars (s.fn H (o++q)).vars pv)
  (i:before=pa++pv) (C:W.keptBut W' (·∈before)) (x:∀a,a.block<W.heap.size->W'.frozen? a=W.frozen? a)
  (z:∀(j:Nat) (t:cI) (r:Value),f.resultTypes[j]?=some t->(v.resultList f.resultTypes.size)[j]?=some r->Value.okWide P W' .any 0 t r):
  s.post enc P f c n d m W args v W':=by
 have k:∀p∈before,(λb=>decide (b<W.heap.size)) p.block=true:=λp h=>by simpa using w.lt p h
 have y:=w.lt;refine⟨o,q,before,[],pa,pv,w,l _ _ _,e _ k,g _ k,World.keptBut_mono (λp h=>⟨h,?_⟩) C,λ_=>?_⟩;rw[i,LA]at h;exact Or.inr h;obtain⟨_,_,_,_,_,E,D⟩:=w;refine⟨z,_,_,([]++pa)++pv,⟨[]++pa,pv,trodAll_append (e _ (λ_ _=>rfl)) (l _ _ _),g _ (λ_ _=>rfl),rfl,?_,?_⟩,?_⟩;intro b u h;have A:MemPlace.cell b u∈before:=by rw[i];simpa using h
 rw[x _ (y _ A)];exact E b u A;intro B;have:=D B;rw[i]at this;simpa using this;intro p h _;rw[i];simpa using h
variable {H:Type}{enc:cI×Value->H}{held:Bool}
theorem arQ:JW Tryz.prog 9 66=true:=by kernel_rfl
theorem ajl{ι:Q0}{m:cD}{w:cG}(v:RM Tryz.prog base ι m w.heap)(t:m.lim=m.nx){A:Nat}{cs0:List Value}{D:DataW H×List MemPlace}
  (h0:DataW.trod enc Tryz.prog w 0 (λ_=>true) held A 66 cs0=some D):
  ∃v0,cs0=[v0]∧Calls Tryz.prog 4 #[v0] w λe w'=>e=.returned (.bool true)∧w.heap.size<=w'.heap.size∧(∀b,b<w.heap.size->w'.heap[b]?=w.heap[b]?)∧w'.os=w.os∧w'.output=w.output∧w'.tape=w.tape:=by
 obtain⟨a,k,C,L0,l,z,S0⟩:=lift 9 _ _ _ _ h0 arQ ι m v t;have f:k.Ok:=L0.rm.ok;obtain⟨d,h,rfl,o,p⟩:=agu f (n:=0) S0;obtain⟨F,g,E⟩:=ars f (Nat.le_of_eq L0.lim) (dn L0.rm.glim L0.rm.limn) o p 0 200000 (aA _);have y:A9 a [d]=cs0:=by exact l
 have B:=z;refine⟨u7 a (d),by rw[← y];simp[A9],?_⟩;have c:fD (k.nm a) [d]:=⟨B.1,trivial⟩;have j:=((Na arN 200000 212).func g).2 L0.rm c;have s:(A9 a [d]).toArray=#[u7 a (d)]:=by simp[A9]
 rw[s]at j;refine callsIn_wide.1 (j.mono ?_);rintro e w' (⟨u,rfl,r,hr,ι9,hst,hlt,rfl⟩|⟨r,hr,x,ι9,hx,_⟩);obtain rfl:=lM.1 hr;refine⟨by simp[u7],hst.size,λb q=>hst.frame b q ?_,hst.os,hst.out,hst.tape⟩;rintro⟨i,x,hi,hx,_,_⟩;have:=cD.Q9 f hx;have:=L0.lim;omega;obtain rfl:=lM.1 hr;cases hx
end Go.Proofs.YtpmfjipaheolgaaGreatDoor.TT
