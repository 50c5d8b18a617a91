/- A part. Conditions: none. -/
import Derived.Test.YtboiakcocelkmaaGreatDoorT37
import Derived.Test.YtboiakcocelkmaaGreatDoorT39
import Derived.Deep.Cut
set_option linter.all false
namespace Go.Proofs.Cz
open Go.RowKit Go.Shelf
def nE (L:List (Nat->Int)) (k:Nat):List Int:=Lib.compact (ik (L.map fun t=>t k))
end Go.Proofs.Cz
namespace Go.Proofs.Cz
open Go.RowKit
section
variable {α β:Type}
end
end Go.Proofs.Cz
