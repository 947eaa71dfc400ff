/- Calls of the fixed example, each computed by the kernel; no condition. -/
import Derived.Test.YteecnooaopfkeaaGreatDoorPC0
set_option linter.all false
namespace Go.Proofs.YteecnooaopfkeaaGreatDoor.TT
open Go Go.AM
set_option maxRecDepth 1000000
theorem amw:bF q43:=run VN (l:=[]) trivial (by decide +kernel)
theorem amx:bF q44:=run aaA (l:=[q43]) ⟨amw,trivial⟩ (by decide +kernel)
theorem amy:bF q50:=run aaA (l:=[]) trivial (by decide +kernel)
theorem amz:bF q55:=run aaz (l:=[]) trivial (by decide +kernel)
theorem YH:bF q58:=run VN (l:=[]) trivial (by decide +kernel)
theorem agc:bF q62:=run aaB (l:=[q58]) ⟨YH,trivial⟩ (by decide +kernel)
theorem agd:bF q63:=run aaC (l:=[]) trivial (by decide +kernel)
theorem agf:bF q64:=run aaD (l:=[]) trivial (by decide +kernel)
theorem acd:bF q69:=run VN (l:=[]) trivial (by decide +kernel)
theorem agh:bF q72:=run aaB (l:=[q69]) ⟨acd,trivial⟩ (by decide +kernel)
theorem agi:bF q73:=run aaC (l:=[]) trivial (by decide +kernel)
theorem agj:bF q74:=run aaD (l:=[]) trivial (by decide +kernel)
theorem agk:bF q75:=run QK (l:=[]) trivial (by decide +kernel)
theorem amA:bF q76:=run QK (l:=[]) trivial (by decide +kernel)
theorem amB:bF q77:=run QK (l:=[]) trivial (by decide +kernel)
theorem agl:bF q78:=run QK (l:=[]) trivial (by decide +kernel)
theorem amC:bF q80:=run ag7 (l:=[q58,q62,q63,q64,q69,q72,q73,q74,q75,q76,q77,q78]) ⟨YH,agc,agd,agf,acd,agh,agi,agj,agk,amA,amB,agl,trivial⟩ (by decide +kernel)
theorem amD:bF q87:=run ag8 (l:=[q58,q69,q72,q73,q74,q78,q75]) ⟨YH,acd,agh,agi,agj,agl,agk,trivial⟩ (by decide +kernel)
theorem amE:bF q92:=run aaz (l:=[]) trivial (by decide +kernel)
end Go.Proofs.YteecnooaopfkeaaGreatDoor.TT
