/- The card of BenchLexes holds: for every input that the row admits the law returns true and leaves its arguments; no further condition. -/
import Derived.Test.YteecnooaopfkeaaGreatDoorLG1
set_option linter.unusedSimpArgs false
set_option linter.unusedVariables false
namespace Go.Proofs.YteecnooaopfkeaaGreatDoor.TT
open Go Go.AM
set_option maxRecDepth 100000
theorem acU:Rows.BenchLexesSaid:=Rf fun os started H enc _=>Nv os started H enc
theorem benchLexes_card:Rows.BenchLexesCardSaid:=acL acU
end Go.Proofs.YteecnooaopfkeaaGreatDoor.TT
