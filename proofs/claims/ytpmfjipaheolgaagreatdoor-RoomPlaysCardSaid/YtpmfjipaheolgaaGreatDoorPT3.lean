/- The tie of the row of RoomPlays; no condition. -/
import Derived.Test.YtpmfjipaheolgaaGreatDoorPT2
import Derived.Test.YtpmfjipaheolgaaGreatDoorPE1
import Derived.Test.YtpmfjipaheolgaaGreatDoorCards
set_option linter.all false
namespace Go.Proofs.YtpmfjipaheolgaaGreatDoor.TT
open Go
set_option maxRecDepth 100000
theorem EH:Rows.roomPlaysRow.laidByTextAt .later Tryz.pinned [.data,.data,.data,.sentinel,.sentinel,.pinned,.data,.data,.listed] true:=
 OpenClaim.laidByTextAt_pinned rfl rfl avL rfl rfl rfl rfl (λy a _e=>by
  simp only[Rows.roomPlaysRow,List.zip_cons_cons,List.zip_nil_right,List.mem_cons,List.mem_nil_iff,or_false]at a;rcases a with rfl|rfl|rfl|rfl|rfl|rfl|rfl|rfl|rfl;cases _e;cases _e;cases _e;cases _e;cases _e;exact⟨ZN,by kernel_rfl⟩;cases _e;cases _e;cases _e) arI
theorem arJ:Tryz.prog.mainIs=some (true, "eb15e8c058175b29450ce3603d9665ca066cc0fb7c4a561fad1fef09f36ee5e2".toList):=by kernel_rfl
theorem ajh:true=Tryz.prog.looks []:=by kernel_rfl
theorem arK:Rows.roomPlaysRow.wfByText (OpenSpec.ofChange Rows.roomPlaysSpec)=true:=by kernel_rfl
theorem aji:(Tryz.f4.params.toList.all λu=>!Tryz.prog.wantsStandIn u)=true:=by kernel_rfl
theorem arL:false=Rows.roomPlaysRow.goesBy Tryz.prog:=(TJ avF _).symm
theorem arM(h:Rows.RoomPlaysSaid):Rows.RoomPlaysCardSaid:=
 Claim7.holds_tied_plain_at (p:=Tryz.pinned) .later [] [.data,.data,.data,.sentinel,.sentinel,.pinned,.data,.data,.listed] true (true, "eb15e8c058175b29450ce3603d9665ca066cc0fb7c4a561fad1fef09f36ee5e2") true
  h (λ_ h=>by cases h) arK (λ_ h=>by cases h) EH rfl ⟨rfl,rfl⟩ arJ rfl
  (λf b c a=>by
   obtain rfl:f=4:=Option.some.inj ((show Tryz.prog.funcNamed "wringing/wringinglaw08.RoomPlays"=some 4 from ad1).symm.trans c) |>.symm;obtain rfl:b=Tryz.f4:=(Option.some.inj (Tryz.func4.symm.trans a)).symm;exact⟨ajh,λj t e=>by
    have d:Tryz.prog.wantsStandIn t=false:=(by simpa using List.all_eq_true.1 aji t (Array.mem_toList_iff.2 (Array.mem_of_getElem? e)));exact d⟩)
  arL
end Go.Proofs.YtpmfjipaheolgaaGreatDoor.TT
