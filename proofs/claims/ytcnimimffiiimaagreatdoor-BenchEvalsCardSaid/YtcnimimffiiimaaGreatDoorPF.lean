/- The card of BenchEvals holds: for every input that the row admits the law returns true and leaves its arguments; no further condition. -/
import Derived.Test.YtcnimimffiiimaaGreatDoorPG1
set_option linter.all false
namespace Go.Proofs.YtcnimimffiiimaaGreatDoor.TT
open Go Go.AM
set_option maxRecDepth 100000
theorem aiK:Rows.BenchEvalsSaid:=adq λc a H b _=>ZR c a H b
theorem benchEvals_card:Rows.BenchEvalsCardSaid:=aiz aiK
end Go.Proofs.YtcnimimffiiimaaGreatDoor.TT
