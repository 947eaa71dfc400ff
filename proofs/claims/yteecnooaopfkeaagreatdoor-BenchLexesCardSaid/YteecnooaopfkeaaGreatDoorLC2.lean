/- Calls of the fixed example, each computed by the kernel; no condition. -/
import Derived.Test.YteecnooaopfkeaaGreatDoorLC0
set_option linter.unusedSimpArgs false
set_option linter.unusedVariables false
namespace Go.Proofs.YteecnooaopfkeaaGreatDoor.TT
open Go Go.AM
set_option maxRecDepth 1000000
theorem aif:X0 q43:=run JG (l:=[]) trivial (by decide +kernel)
theorem aii:X0 q44:=run MN (l:=[q43]) ⟨aif,trivial⟩ (by decide +kernel)
theorem aij:X0 q50:=run MN (l:=[]) trivial (by decide +kernel)
theorem aik:X0 q55:=run ML (l:=[]) trivial (by decide +kernel)
theorem Tf:X0 q58:=run JG (l:=[]) trivial (by decide +kernel)
theorem adH:X0 q62:=run MO (l:=[q58]) ⟨Tf,trivial⟩ (by decide +kernel)
theorem adI:X0 q63:=run MP (l:=[]) trivial (by decide +kernel)
theorem adJ:X0 q64:=run MQ (l:=[]) trivial (by decide +kernel)
theorem acj:X0 q69:=run JG (l:=[]) trivial (by decide +kernel)
theorem adK:X0 q72:=run MO (l:=[q69]) ⟨acj,trivial⟩ (by decide +kernel)
theorem adL:X0 q73:=run MP (l:=[]) trivial (by decide +kernel)
theorem adM:X0 q74:=run MQ (l:=[]) trivial (by decide +kernel)
theorem adN:X0 q75:=run GU (l:=[]) trivial (by decide +kernel)
theorem ail:X0 q76:=run GU (l:=[]) trivial (by decide +kernel)
theorem ain:X0 q77:=run GU (l:=[]) trivial (by decide +kernel)
theorem adO:X0 q78:=run GU (l:=[]) trivial (by decide +kernel)
theorem aio:X0 q80:=run Qh (l:=[q58,q62,q63,q64,q69,q72,q73,q74,q75,q76,q77,q78]) ⟨Tf,adH,adI,adJ,acj,adK,adL,adM,adN,ail,ain,adO,trivial⟩ (by decide +kernel)
theorem aip:X0 q87:=run Qi (l:=[q58,q69,q72,q73,q74,q78,q75]) ⟨Tf,acj,adK,adL,adM,adO,adN,trivial⟩ (by decide +kernel)
theorem aiq:X0 q92:=run ML (l:=[]) trivial (by decide +kernel)
end Go.Proofs.YteecnooaopfkeaaGreatDoor.TT
