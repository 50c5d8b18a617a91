/- BuildSum returns true, whatever the book and the place, whatever the schedule. Conditions: none. -/
import Derived.Test.YthmokljbbkcjdaaGreatDoorT18
import Derived.Test.YthmokljbbkcjdaaGreatDoorT44
set_option linter.unusedVariables false
set_option linter.unusedSimpArgs false
section
namespace Go.Proofs.YthmokljbbkcjdaaGreatDoor
theorem buildSum_true:Rows.BuildSumCardSaid:=Go.Proofs.Cz.sum_card Go.Proofs.Cz.law7
end Go.Proofs.YthmokljbbkcjdaaGreatDoor
end
