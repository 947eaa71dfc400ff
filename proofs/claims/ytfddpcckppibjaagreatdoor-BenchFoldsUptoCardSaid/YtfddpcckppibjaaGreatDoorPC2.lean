/- Calls of the fixed example, each computed by the kernel; no condition. -/
import Derived.Test.YtfddpcckppibjaaGreatDoorPC0
set_option linter.all false
namespace Go.Proofs.YtfddpcckppibjaaGreatDoor.TT
open Go Go.AM
set_option maxRecDepth 1000000
theorem aqS:bL q43:=run XG (l:=[]) trivial (by decide +kernel)
theorem aqT:bL q44:=run ado (l:=[q43]) ⟨aqS,trivial⟩ (by decide +kernel)
theorem aqU:bL q50:=run ado (l:=[]) trivial (by decide +kernel)
theorem aqV:bL q55:=run adn (l:=[]) trivial (by decide +kernel)
theorem aaT:bL q58:=run XG (l:=[]) trivial (by decide +kernel)
theorem ak5:bL q62:=run adp (l:=[q58]) ⟨aaT,trivial⟩ (by decide +kernel)
theorem ak6:bL q63:=run adq (l:=[]) trivial (by decide +kernel)
theorem ak7:bL q64:=run adr (l:=[]) trivial (by decide +kernel)
theorem aeU:bL q69:=run XG (l:=[]) trivial (by decide +kernel)
theorem ak8:bL q72:=run adp (l:=[q69]) ⟨aeU,trivial⟩ (by decide +kernel)
theorem ak9:bL q73:=run adq (l:=[]) trivial (by decide +kernel)
theorem akb:bL q74:=run adr (l:=[]) trivial (by decide +kernel)
theorem akc:bL q75:=run Sn (l:=[]) trivial (by decide +kernel)
theorem aqW:bL q76:=run Sn (l:=[]) trivial (by decide +kernel)
theorem aqX:bL q77:=run Sn (l:=[]) trivial (by decide +kernel)
theorem akd:bL q78:=run Sn (l:=[]) trivial (by decide +kernel)
theorem aqY:bL q80:=run ajY (l:=[q58,q62,q63,q64,q69,q72,q73,q74,q75,q76,q77,q78]) ⟨aaT,ak5,ak6,ak7,aeU,ak8,ak9,akb,akc,aqW,aqX,akd,trivial⟩ (by decide +kernel)
theorem aqZ:bL q87:=run ajZ (l:=[q58,q69,q72,q73,q74,q78,q75]) ⟨aaT,aeU,ak8,ak9,akb,akd,akc,trivial⟩ (by decide +kernel)
theorem ar0:bL q92:=run adn (l:=[]) trivial (by decide +kernel)
end Go.Proofs.YtfddpcckppibjaaGreatDoor.TT
