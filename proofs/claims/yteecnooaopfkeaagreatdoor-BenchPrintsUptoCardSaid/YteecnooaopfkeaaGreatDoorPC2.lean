/- Calls of the fixed example, each computed by the kernel; no condition. -/
import Derived.Test.YteecnooaopfkeaaGreatDoorPC0
set_option linter.all false
namespace Go.Proofs.YteecnooaopfkeaaGreatDoor.TT
open Go Go.AM
set_option maxRecDepth 1000000
theorem aop:bM q43:=run WA (l:=[]) trivial (by decide +kernel)
theorem aoq:bM q44:=run abI (l:=[q43]) ⟨aop,trivial⟩ (by decide +kernel)
theorem aor:bM q50:=run abI (l:=[]) trivial (by decide +kernel)
theorem aos:bM q55:=run abH (l:=[]) trivial (by decide +kernel)
theorem ZE:bM q58:=run WA (l:=[]) trivial (by decide +kernel)
theorem aie:bM q62:=run abJ (l:=[q58]) ⟨ZE,trivial⟩ (by decide +kernel)
theorem aif:bM q63:=run abK (l:=[]) trivial (by decide +kernel)
theorem aii:bM q64:=run abL (l:=[]) trivial (by decide +kernel)
theorem adC:bM q69:=run WA (l:=[]) trivial (by decide +kernel)
theorem aij:bM q72:=run abJ (l:=[q69]) ⟨adC,trivial⟩ (by decide +kernel)
theorem aik:bM q73:=run abK (l:=[]) trivial (by decide +kernel)
theorem ail:bM q74:=run abL (l:=[]) trivial (by decide +kernel)
theorem ain:bM q75:=run Ri (l:=[]) trivial (by decide +kernel)
theorem aot:bM q76:=run Ri (l:=[]) trivial (by decide +kernel)
theorem aou:bM q77:=run Ri (l:=[]) trivial (by decide +kernel)
theorem aio:bM q78:=run Ri (l:=[]) trivial (by decide +kernel)
theorem aov:bM q80:=run ai8 (l:=[q58,q62,q63,q64,q69,q72,q73,q74,q75,q76,q77,q78]) ⟨ZE,aie,aif,aii,adC,aij,aik,ail,ain,aot,aou,aio,trivial⟩ (by decide +kernel)
theorem aow:bM q87:=run ai9 (l:=[q58,q69,q72,q73,q74,q78,q75]) ⟨ZE,adC,aij,aik,ail,aio,ain,trivial⟩ (by decide +kernel)
theorem aox:bM q92:=run abH (l:=[]) trivial (by decide +kernel)
end Go.Proofs.YteecnooaopfkeaaGreatDoor.TT
