/- Calls of the fixed example, each computed by the kernel; no condition. -/
import Derived.Test.YtfddpcckppibjaaGreatDoorPC0
set_option linter.all false
namespace Go.Proofs.YtfddpcckppibjaaGreatDoor.TT
open Go Go.AM
set_option maxRecDepth 1000000
theorem aot:aK q43:=run Vk (l:=[]) trivial (by decide +kernel)
theorem aou:aK q44:=run aaF (l:=[q43]) ⟨aot,trivial⟩ (by decide +kernel)
theorem aov:aK q50:=run aaF (l:=[]) trivial (by decide +kernel)
theorem aow:aK q55:=run aaE (l:=[]) trivial (by decide +kernel)
theorem YG:aK q58:=run Vk (l:=[]) trivial (by decide +kernel)
theorem ahP:aK q62:=run aaG (l:=[q58]) ⟨YG,trivial⟩ (by decide +kernel)
theorem ahQ:aK q63:=run aaH (l:=[]) trivial (by decide +kernel)
theorem ahR:aK q64:=run aaI (l:=[]) trivial (by decide +kernel)
theorem aco:aK q69:=run Vk (l:=[]) trivial (by decide +kernel)
theorem ahS:aK q72:=run aaG (l:=[q69]) ⟨aco,trivial⟩ (by decide +kernel)
theorem ahT:aK q73:=run aaH (l:=[]) trivial (by decide +kernel)
theorem ahU:aK q74:=run aaI (l:=[]) trivial (by decide +kernel)
theorem ahV:aK q75:=run Py (l:=[]) trivial (by decide +kernel)
theorem aox:aK q76:=run Py (l:=[]) trivial (by decide +kernel)
theorem aoy:aK q77:=run Py (l:=[]) trivial (by decide +kernel)
theorem ahW:aK q78:=run Py (l:=[]) trivial (by decide +kernel)
theorem aoz:aK q80:=run ahJ (l:=[q58,q62,q63,q64,q69,q72,q73,q74,q75,q76,q77,q78]) ⟨YG,ahP,ahQ,ahR,aco,ahS,ahT,ahU,ahV,aox,aoy,ahW,trivial⟩ (by decide +kernel)
theorem aoA:aK q87:=run ahK (l:=[q58,q69,q72,q73,q74,q78,q75]) ⟨YG,aco,ahS,ahT,ahU,ahW,ahV,trivial⟩ (by decide +kernel)
theorem aoB:aK q92:=run aaE (l:=[]) trivial (by decide +kernel)
end Go.Proofs.YtfddpcckppibjaaGreatDoor.TT
