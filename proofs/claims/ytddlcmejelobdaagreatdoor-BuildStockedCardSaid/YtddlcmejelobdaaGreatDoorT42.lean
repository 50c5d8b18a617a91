/- A part. Conditions: none. -/
import Derived.Test.YtddlcmejelobdaaGreatDoorT37
import Derived.Shelf.Sort.Plain
import Derived.Shelf.Slices.CompactI
import Derived.Sort.OwnSortedInts
set_option linter.all false
namespace Go.Proofs.Cz
open Go.RowKit Go.Shelf
end Go.Proofs.Cz
