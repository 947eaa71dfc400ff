/- What the run of the door leaves, variable by variable; no condition. -/
import Derived.Test.YtpmfjipaheolgaaGreatDoorRows
import Derived.LaidByTextLater
import Derived.SevenTiedAt
import Derived.LaidOnce
import Derived.LaidMore
import Derived.Stop.Joined
import Derived.Test.YtpmfjipaheolgaaGreatDoorChecked
set_option linter.all false
namespace Go.Proofs.YtpmfjipaheolgaaGreatDoor.TT
open Go
set_option maxRecDepth 100000
noncomputable def Af {X:Type}(P:Program)(n:Nat)(os:Os)(tape:Tape)(k:World->Option X):Option X:=
 match runN P n (Machine.entering P (World.unlaid P os) tape (varsId P) ⟨#[],#[],[]⟩)with
 |.ended (.done _) w=>k w
 |_=>none
theorem jB{P:Program}{w:World}{c:Nat}{n:String}{d:DataW Unit}{r:List (String×DataW Unit)}{ps f:List MemPlace}(h:DataW.laidRun P w c [n]=some ([(n,d)],ps))(m:DataW.laidRun P w c (r.map (·.1))=some (r,f)):
  DataW.laidRun P w c (n::r.map (·.1))=some ((n,d)::r,ps++f):=by
 unfold DataW.laidRun at h ⊢;split at h;rename_i g p;split at h;rename_i t o q l;split at h;rename_i a b k e;unfold DataW.laidRun at e;cases e;simp only[Option.some.injEq,List.cons.injEq,Prod.ext_iff,List.append_nil,and_true,true_and]at h;obtain⟨i,j⟩:=h;rw[k,m];simp only[i,← j,List.append_assoc];cases h;cases h;cases h
theorem ZM{P:Program}{a:List (String×DataW Unit)}{b:List LaidKind}{tests:Bool}(n c M:Nat)(f:List MemPlace)
  (o:P.worded (varsWordLater tests)=true) (h:P.worded (varsWordLater !tests)=false) (e:P.worded rootWordLater=true) (l:a.map (λx=>P.kindOfLater x.1)=b.map some)
  (k:(P.funcNamed "gosem.cut.vars").isSome=true)
  (hn:varsNamedLaterB P (varsId P) a=true) (hp:(a.all λx=>x.2.handleName?.isNone)=true)
  (d:∀os tape,∃v w,runN P n (Machine.entering P (World.unlaid P os) tape (varsId P) ⟨#[],#[],[]⟩)=.ended (.done v) w∧DataW.laidRun P w.memory c (a.map (·.1))=some (a,f)∧laidRowsB P w.memory f=true)
  (g:nodupBits M f 0=true):P.laidByTextLater a b tests:=by
 unfold varsNamedLaterB at hn;cases hc:(P.funcs[varsId P]?).bind (·.body)with
 |none=>simp[hc]at hn
 |some code=>
  cases hs:code.laysInOrder []with
  |none=>simp[hc,hs]at hn
  |some stored=>simp only[hc,hs,Bool.and_eq_true]at hn;refine⟨⟨o,h,e,l⟩,varsId P,code,stored,varsId_spec k,hc,⟨hs,hn.1.1,hn.1.2⟩,hn.2,λos tape _=>?_⟩;obtain⟨v,w,m,i,j⟩:=d os tape;refine⟨n,v,w,m,?_⟩;rw[MakeChecks.laidMetH_plain _ _ _ hp];exact laidMet_of_run (ps:=f) c i (decide_eq_true (nodupBits_sound g).1) j
theorem Lj{X:Type}{P:Program}{n:Nat}{os:Os}{a:Tape}{k:World->Option X}{x:X}(h:Af P n os a k=some x):∃v w,runN P n (Machine.entering P (World.unlaid P os) a (varsId P) ⟨#[],#[],[]⟩)=.ended (.done v) w∧k w=some x:=by unfold Af at h;split at h;exact⟨_,_,‹_›,h⟩;cases h
theorem mU{X:Type}{o:Option X}{b:X->Bool}{y:X}(h:(o.bind λx=>bif b x then some x else none)=some y):o=some y∧b y=true:=by
 cases o with
 |none=>cases h
 |some x=>
  have h:(bif b x then some x else none)=some y:=h;cases hb:b x with
  |false=>rw[hb]at h;cases h
  |true=>rw[hb]at h;cases h;exact⟨rfl,hb⟩
theorem sI{X:Type}{P:Program}{n:Nat}{os:Os}{a:Tape}{k:World->Option X}{x:X}{v:Value}{w:World}(h:Af P n os a k=some x)(d:runN P n (Machine.entering P (World.unlaid P os) a (varsId P) ⟨#[],#[],[]⟩)=.ended (.done v) w):k w=some x:=by obtain⟨_,_,b,c⟩:=Lj h;rw[d]at b;cases b;exact c
def pl0:List MemPlace:=MemPlace.row ⟨8,0,none⟩ 32
theorem rd0:∀os tape,Af Tryz.prog 96 os tape (λw=>(DataW.laidRun Tryz.prog w.memory 8 ["math/bits.deBruijn32tab"]).bind λx=>bif laidRowsB Tryz.prog w.memory x.2 then some x else none)=some ([("math/bits.deBruijn32tab",Rows.laid_math_bits_deBruijn32tab)],pl0):=λ_ _=>by kernel_rfl
def pl1:List MemPlace:=MemPlace.row ⟨9,0,none⟩ 64
theorem rd1:∀os tape,Af Tryz.prog 96 os tape (λw=>(DataW.laidRun Tryz.prog w.memory 8 ["math/bits.deBruijn64tab"]).bind λx=>bif laidRowsB Tryz.prog w.memory x.2 then some x else none)=some ([("math/bits.deBruijn64tab",Rows.laid_math_bits_deBruijn64tab)],pl1):=λ_ _=>by kernel_rfl
def pl2:List MemPlace:=MemPlace.row ⟨7,0,none⟩ 20
theorem rd2:∀os tape,Af Tryz.prog 96 os tape (λw=>(DataW.laidRun Tryz.prog w.memory 8 ["internal/strconv.uint64pow10"]).bind λx=>bif laidRowsB Tryz.prog w.memory x.2 then some x else none)=some ([("internal/strconv.uint64pow10",Rows.laid_internal_strconv_uint64pow10)],pl2):=λ_ _=>by kernel_rfl
def pl3:List MemPlace:=MemPlace.row ⟨6,0,none⟩ 32
theorem rd3:∀os tape,Af Tryz.prog 96 os tape (λw=>(DataW.laidRun Tryz.prog w.memory 8 ["unicode/utf8.acceptRanges"]).bind λx=>bif laidRowsB Tryz.prog w.memory x.2 then some x else none)=some ([("unicode/utf8.acceptRanges",Rows.laid_unicode_utf8_acceptRanges)],pl3):=λ_ _=>by kernel_rfl
def pl4:List MemPlace:=[.cell 1 0,.cell 16 0]
theorem rd4:∀os tape,Af Tryz.prog 96 os tape (λw=>(DataW.laidRun Tryz.prog w.memory 8 ["strconv.ErrRange"]).bind λx=>bif laidRowsB Tryz.prog w.memory x.2 then some x else none)=some ([("strconv.ErrRange",Rows.laid_strconv_ErrRange)],pl4):=λ_ _=>by kernel_rfl
def pl5:List MemPlace:=[.cell 0 0,.cell 17 0]
theorem rd5:∀os tape,Af Tryz.prog 96 os tape (λw=>(DataW.laidRun Tryz.prog w.memory 8 ["strconv.ErrSyntax"]).bind λx=>bif laidRowsB Tryz.prog w.memory x.2 then some x else none)=some ([("strconv.ErrSyntax",Rows.laid_strconv_ErrSyntax)],pl5):=λ_ _=>by kernel_rfl
def pl6:List MemPlace:=MemPlace.row ⟨4,0,none⟩ 1++(MemPlace.row ⟨19,0,none⟩ 3++MemPlace.row ⟨18,0,none⟩ 21)
theorem rd6:∀os tape,Af Tryz.prog 96 os tape (λw=>(DataW.laidRun Tryz.prog w.memory 8 ["unicode.White_Space"]).bind λx=>bif laidRowsB Tryz.prog w.memory x.2 then some x else none)=some ([("unicode.White_Space",Rows.laid_unicode_White_Space)],pl6):=λ_ _=>by kernel_rfl
def pl7:List MemPlace:=MemPlace.row ⟨2,0,none⟩ 256
theorem rd7:∀os tape,Af Tryz.prog 96 os tape (λw=>(DataW.laidRun Tryz.prog w.memory 8 ["strings.asciiSpace"]).bind λx=>bif laidRowsB Tryz.prog w.memory x.2 then some x else none)=some ([("strings.asciiSpace",Rows.laid_strings_asciiSpace)],pl7):=λ_ _=>by kernel_rfl
end Go.Proofs.YtpmfjipaheolgaaGreatDoor.TT
