/- Calls of the fixed example, each computed by the kernel; no condition. -/
import Derived.Test.YtfddpcckppibjaaGreatDoorPC0
set_option linter.all false
namespace Go.Proofs.YtfddpcckppibjaaGreatDoor.TT
open Go Go.AM
set_option maxRecDepth 1000000
theorem aoL:bC q43:=run Xj (l:=[]) trivial (by decide +kernel)
theorem aoM:bC q44:=run acz (l:=[q43]) ⟨aoL,trivial⟩ (by decide +kernel)
theorem aoN:bC q50:=run acz (l:=[]) trivial (by decide +kernel)
theorem aoO:bC q55:=run acy (l:=[]) trivial (by decide +kernel)
theorem aao:bC q58:=run Xj (l:=[]) trivial (by decide +kernel)
theorem aj2:bC q62:=run acA (l:=[q58]) ⟨aao,trivial⟩ (by decide +kernel)
theorem aj3:bC q63:=run acB (l:=[]) trivial (by decide +kernel)
theorem aj4:bC q64:=run acC (l:=[]) trivial (by decide +kernel)
theorem aem:bC q69:=run Xj (l:=[]) trivial (by decide +kernel)
theorem aj5:bC q72:=run acA (l:=[q69]) ⟨aem,trivial⟩ (by decide +kernel)
theorem aj6:bC q73:=run acB (l:=[]) trivial (by decide +kernel)
theorem aj7:bC q74:=run acC (l:=[]) trivial (by decide +kernel)
theorem aj8:bC q75:=run Ru (l:=[]) trivial (by decide +kernel)
theorem aoP:bC q76:=run Ru (l:=[]) trivial (by decide +kernel)
theorem aoQ:bC q77:=run Ru (l:=[]) trivial (by decide +kernel)
theorem aj9:bC q78:=run Ru (l:=[]) trivial (by decide +kernel)
theorem aoR:bC q80:=run aiW (l:=[q58,q62,q63,q64,q69,q72,q73,q74,q75,q76,q77,q78]) ⟨aao,aj2,aj3,aj4,aem,aj5,aj6,aj7,aj8,aoP,aoQ,aj9,trivial⟩ (by decide +kernel)
theorem aoS:bC q87:=run aiX (l:=[q58,q69,q72,q73,q74,q78,q75]) ⟨aao,aem,aj5,aj6,aj7,aj9,aj8,trivial⟩ (by decide +kernel)
theorem aoT:bC q92:=run acy (l:=[]) trivial (by decide +kernel)
end Go.Proofs.YtfddpcckppibjaaGreatDoor.TT
