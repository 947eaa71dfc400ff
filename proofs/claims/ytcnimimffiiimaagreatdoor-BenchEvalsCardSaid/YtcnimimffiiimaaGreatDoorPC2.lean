/- Calls of the fixed example, each computed by the kernel; no condition. -/
import Derived.Test.YtcnimimffiiimaaGreatDoorPC0
set_option linter.all false
namespace Go.Proofs.YtcnimimffiiimaaGreatDoor.TT
open Go Go.AM
set_option maxRecDepth 1000000
theorem aos:aK q43:=run Vj (l:=[]) trivial (by decide +kernel)
theorem aot:aK q44:=run aaE (l:=[q43]) ⟨aos,trivial⟩ (by decide +kernel)
theorem aou:aK q50:=run aaE (l:=[]) trivial (by decide +kernel)
theorem aov:aK q55:=run aaD (l:=[]) trivial (by decide +kernel)
theorem YF:aK q58:=run Vj (l:=[]) trivial (by decide +kernel)
theorem ahO:aK q62:=run aaF (l:=[q58]) ⟨YF,trivial⟩ (by decide +kernel)
theorem ahP:aK q63:=run aaG (l:=[]) trivial (by decide +kernel)
theorem ahQ:aK q64:=run aaH (l:=[]) trivial (by decide +kernel)
theorem acn:aK q69:=run Vj (l:=[]) trivial (by decide +kernel)
theorem ahR:aK q72:=run aaF (l:=[q69]) ⟨acn,trivial⟩ (by decide +kernel)
theorem ahS:aK q73:=run aaG (l:=[]) trivial (by decide +kernel)
theorem ahT:aK q74:=run aaH (l:=[]) trivial (by decide +kernel)
theorem ahU:aK q75:=run Px (l:=[]) trivial (by decide +kernel)
theorem aow:aK q76:=run Px (l:=[]) trivial (by decide +kernel)
theorem aox:aK q77:=run Px (l:=[]) trivial (by decide +kernel)
theorem ahV:aK q78:=run Px (l:=[]) trivial (by decide +kernel)
theorem aoy:aK q80:=run ahI (l:=[q58,q62,q63,q64,q69,q72,q73,q74,q75,q76,q77,q78]) ⟨YF,ahO,ahP,ahQ,acn,ahR,ahS,ahT,ahU,aow,aox,ahV,trivial⟩ (by decide +kernel)
theorem aoz:aK q87:=run ahJ (l:=[q58,q69,q72,q73,q74,q78,q75]) ⟨YF,acn,ahR,ahS,ahT,ahV,ahU,trivial⟩ (by decide +kernel)
theorem aoA:aK q92:=run aaD (l:=[]) trivial (by decide +kernel)
end Go.Proofs.YtcnimimffiiimaaGreatDoor.TT
