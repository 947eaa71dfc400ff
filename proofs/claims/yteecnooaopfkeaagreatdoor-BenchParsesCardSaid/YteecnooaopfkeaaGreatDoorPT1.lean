/- What the run of the door leaves, variable by variable; no condition. -/
import Derived.Test.YteecnooaopfkeaaGreatDoorRows
import Derived.LaidByTextLater
import Derived.SevenTiedAt
import Derived.LaidOnce
import Derived.LaidMore
import Derived.Stop.Joined
import Derived.Test.YteecnooaopfkeaaGreatDoorChecked
set_option linter.all false
namespace Go.Proofs.YteecnooaopfkeaaGreatDoor.TT
open Go
set_option maxRecDepth 100000
noncomputable def vI {X:Type}(P:Program)(n:Nat)(os:Os)(tape:Tape)(k:World->Option X):Option X:=
 match runN P n (Machine.entering P (World.unlaid P os) tape (varsId P) ⟨#[],#[],[]⟩) with
 | .ended (.done _) w=>k w
 | _=>none
theorem fC {P:Program}{w:World}{fuel:Nat}{n:String}{d:DataW Unit}{r:List (String×DataW Unit)}{ps qs:List MemPlace}(h:DataW.laidRun P w fuel [n]=some ([(n,d)],ps))(hr:DataW.laidRun P w fuel (r.map (·.1))=some (r,qs)):
  DataW.laidRun P w fuel (n::r.map (·.1))=some ((n,d)::r,ps++qs):=by
 unfold DataW.laidRun at h ⊢;split at h;rename_i g hg;split at h;rename_i t cs ht hcs;split at h;rename_i a b ha hb;unfold DataW.laidRun at hb;cases hb;simp only [Option.some.injEq,List.cons.injEq,Prod.ext_iff,List.append_nil,and_true,true_and] at h;obtain⟨h1,h2⟩:=h;rw [ha,hr];simp only [h1,← h2,List.append_assoc];cases h;cases h;cases h
theorem TD {P:Program}{laid:List (String×DataW Unit)}{kinds:List LaidKind}{tests:Bool}(n fuel M:Nat)(pl:List MemPlace)
  (hw:P.worded (varsWordLater tests)=true) (hw':P.worded (varsWordLater !tests)=false) (hroot:P.worded rootWordLater=true) (hk:laid.map (λx=>P.kindOfLater x.1)=kinds.map some)
  (hg:(P.funcNamed "gosem.cut.vars").isSome=true)
  (hn:varsNamedLaterB P (varsId P) laid=true) (hp:(laid.all λx=>x.2.handleName?.isNone)=true)
  (hread:∀os tape,∃v w,runN P n (Machine.entering P (World.unlaid P os) tape (varsId P) ⟨#[],#[],[]⟩)=.ended (.done v) w∧DataW.laidRun P w.memory fuel (laid.map (·.1))=some (laid,pl)∧laidRowsB P w.memory pl=true)
  (hnd:nodupBits M pl 0=true):P.laidByTextLater laid kinds tests:=by
 unfold varsNamedLaterB at hn;cases hc:(P.funcs[varsId P]?).bind (·.body) with
 | none=>simp [hc] at hn
 | some code=>
  cases hs:code.laysInOrder [] with
  | none=>simp [hc,hs] at hn
  | some stored=>simp only [hc,hs,Bool.and_eq_true] at hn;refine⟨⟨hw,hw',hroot,hk⟩,varsId P,code,stored,varsId_spec hg,hc,⟨hs,hn.1.1,hn.1.2⟩,hn.2,λos tape _=>?_⟩;obtain⟨v,w,hr,h1,h2⟩:=hread os tape;refine⟨n,v,w,hr,?_⟩;rw [MakeChecks.laidMetH_plain _ _ _ hp];exact laidMet_of_run (ps:=pl) fuel h1 (decide_eq_true (nodupBits_sound hnd).1) h2
theorem Fy {X:Type}{P:Program}{n:Nat}{os:Os}{tape:Tape}{k:World->Option X}{x:X}(h:vI P n os tape k=some x):∃v w,runN P n (Machine.entering P (World.unlaid P os) tape (varsId P) ⟨#[],#[],[]⟩)=.ended (.done v) w∧k w=some x:=by unfold vI at h;split at h;exact⟨_,_,‹_›,h⟩;cases h
theorem jD {X:Type}{o:Option X}{b:X->Bool}{y:X}(h:(o.bind λx=>bif b x then some x else none)=some y):o=some y∧b y=true:=by
 cases o with
 | none=>cases h
 | some x=>
  have h:(bif b x then some x else none)=some y:=h;cases hb:b x with
  | false=>rw [hb] at h;cases h
  | true=>rw [hb] at h;cases h;exact⟨rfl,hb⟩
theorem oN {X:Type}{P:Program}{n:Nat}{os:Os}{tape:Tape}{k:World->Option X}{x:X}{v:Value}{w:World}(h:vI P n os tape k=some x)(hr:runN P n (Machine.entering P (World.unlaid P os) tape (varsId P) ⟨#[],#[],[]⟩)=.ended (.done v) w):k w=some x:=by obtain⟨_,_,h1,h2⟩:=Fy h;rw [hr] at h1;cases h1;exact h2
def pl0:List MemPlace:=[.cell 0 0,.cell 17 0]
theorem rd0:∀os tape,vI Tryz.prog 96 os tape (λw=>(DataW.laidRun Tryz.prog w.memory 8 ["strconv.ErrSyntax"]).bind λx=>bif laidRowsB Tryz.prog w.memory x.2 then some x else none)=some ([("strconv.ErrSyntax",Rows.laid_strconv_ErrSyntax)],pl0):=λ_ _=>by kernel_rfl
def pl1:List MemPlace:=[.cell 1 0,.cell 16 0]
theorem rd1:∀os tape,vI Tryz.prog 96 os tape (λw=>(DataW.laidRun Tryz.prog w.memory 8 ["strconv.ErrRange"]).bind λx=>bif laidRowsB Tryz.prog w.memory x.2 then some x else none)=some ([("strconv.ErrRange",Rows.laid_strconv_ErrRange)],pl1):=λ_ _=>by kernel_rfl
def pl2:List MemPlace:=MemPlace.row ⟨3,0,none⟩ 20
theorem rd2:∀os tape,vI Tryz.prog 96 os tape (λw=>(DataW.laidRun Tryz.prog w.memory 8 ["internal/strconv.uint64pow10"]).bind λx=>bif laidRowsB Tryz.prog w.memory x.2 then some x else none)=some ([("internal/strconv.uint64pow10",Rows.laid_internal_strconv_uint64pow10)],pl2):=λ_ _=>by kernel_rfl
def pl3:List MemPlace:=MemPlace.row ⟨6,0,none⟩ 32
theorem rd3:∀os tape,vI Tryz.prog 96 os tape (λw=>(DataW.laidRun Tryz.prog w.memory 8 ["math/bits.deBruijn32tab"]).bind λx=>bif laidRowsB Tryz.prog w.memory x.2 then some x else none)=some ([("math/bits.deBruijn32tab",Rows.laid_math_bits_deBruijn32tab)],pl3):=λ_ _=>by kernel_rfl
def pl4:List MemPlace:=MemPlace.row ⟨7,0,none⟩ 64
theorem rd4:∀os tape,vI Tryz.prog 96 os tape (λw=>(DataW.laidRun Tryz.prog w.memory 8 ["math/bits.deBruijn64tab"]).bind λx=>bif laidRowsB Tryz.prog w.memory x.2 then some x else none)=some ([("math/bits.deBruijn64tab",Rows.laid_math_bits_deBruijn64tab)],pl4):=λ_ _=>by kernel_rfl
def pl6:List MemPlace:=MemPlace.row ⟨9,0,none⟩ 32
theorem rd6:∀os tape,vI Tryz.prog 96 os tape (λw=>(DataW.laidRun Tryz.prog w.memory 8 ["unicode/utf8.acceptRanges"]).bind λx=>bif laidRowsB Tryz.prog w.memory x.2 then some x else none)=some ([("unicode/utf8.acceptRanges",Rows.laid_unicode_utf8_acceptRanges)],pl6):=λ_ _=>by kernel_rfl
def pl7:List MemPlace:=MemPlace.row ⟨4,0,none⟩ 256
theorem rd7:∀os tape,vI Tryz.prog 96 os tape (λw=>(DataW.laidRun Tryz.prog w.memory 8 ["strings.asciiSpace"]).bind λx=>bif laidRowsB Tryz.prog w.memory x.2 then some x else none)=some ([("strings.asciiSpace",Rows.laid_strings_asciiSpace)],pl7):=λ_ _=>by kernel_rfl
def pl8:List MemPlace:=MemPlace.row ⟨5,0,none⟩ 1++(MemPlace.row ⟨19,0,none⟩ 3++MemPlace.row ⟨18,0,none⟩ 21)
theorem rd8:∀os tape,vI Tryz.prog 96 os tape (λw=>(DataW.laidRun Tryz.prog w.memory 8 ["unicode.White_Space"]).bind λx=>bif laidRowsB Tryz.prog w.memory x.2 then some x else none)=some ([("unicode.White_Space",Rows.laid_unicode_White_Space)],pl8):=λ_ _=>by kernel_rfl
end Go.Proofs.YteecnooaopfkeaaGreatDoor.TT
