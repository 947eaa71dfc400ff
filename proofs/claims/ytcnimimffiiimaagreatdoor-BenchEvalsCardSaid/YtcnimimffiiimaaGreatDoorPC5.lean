/- Calls of the fixed example, each computed by the kernel; no condition. -/
import Derived.Test.YtcnimimffiiimaaGreatDoorPC4
set_option linter.all false
namespace Go.Proofs.YtcnimimffiiimaaGreatDoor.TT
open Go Go.AM
set_option maxRecDepth 1000000
theorem aoD:aK q30:=run aci (l:=[q25,q26]) ⟨ahW,ahX,trivial⟩ (by decide +kernel)
theorem aoE:aK q29:=run aci (l:=[q25,q26]) ⟨ahW,ahX,trivial⟩ (by decide +kernel)
theorem aoF:aK q18:=run aoc (l:=[]) trivial (by decide +kernel)
end Go.Proofs.YtcnimimffiiimaaGreatDoor.TT
