/- Calls of the fixed example, each computed by the kernel; no condition. -/
import Derived.Test.YteecnooaopfkeaaGreatDoorPC0
set_option linter.all false
namespace Go.Proofs.YteecnooaopfkeaaGreatDoor.TT
open Go Go.AM
set_option maxRecDepth 1000000
theorem apH:dw q43:=run Zc (l:=[]) trivial (by decide +kernel)
theorem apI:dw q44:=run adY (l:=[q43]) ⟨apH,trivial⟩ (by decide +kernel)
theorem apJ:dw q50:=run adY (l:=[]) trivial (by decide +kernel)
theorem apK:dw q55:=run adX (l:=[]) trivial (by decide +kernel)
theorem abN:dw q58:=run Zc (l:=[]) trivial (by decide +kernel)
theorem ajE:dw q62:=run adZ (l:=[q58]) ⟨abN,trivial⟩ (by decide +kernel)
theorem ajF:dw q63:=run ae0 (l:=[]) trivial (by decide +kernel)
theorem ajG:dw q64:=run ae7 (l:=[]) trivial (by decide +kernel)
theorem afF:dw q69:=run Zc (l:=[]) trivial (by decide +kernel)
theorem ajH:dw q72:=run adZ (l:=[q69]) ⟨afF,trivial⟩ (by decide +kernel)
theorem ajI:dw q73:=run ae0 (l:=[]) trivial (by decide +kernel)
theorem ajJ:dw q74:=run ae7 (l:=[]) trivial (by decide +kernel)
theorem ajK:dw q75:=run Uf (l:=[]) trivial (by decide +kernel)
theorem apL:dw q76:=run Uf (l:=[]) trivial (by decide +kernel)
theorem apM:dw q77:=run Uf (l:=[]) trivial (by decide +kernel)
theorem ajL:dw q78:=run Uf (l:=[]) trivial (by decide +kernel)
theorem apN:dw q80:=run ajz (l:=[q58,q62,q63,q64,q69,q72,q73,q74,q75,q76,q77,q78]) ⟨abN,ajE,ajF,ajG,afF,ajH,ajI,ajJ,ajK,apL,apM,ajL,trivial⟩ (by decide +kernel)
theorem apO:dw q87:=run ajA (l:=[q58,q69,q72,q73,q74,q78,q75]) ⟨abN,afF,ajH,ajI,ajJ,ajL,ajK,trivial⟩ (by decide +kernel)
theorem apP:dw q92:=run adX (l:=[]) trivial (by decide +kernel)
end Go.Proofs.YteecnooaopfkeaaGreatDoor.TT
