/- A part. Conditions: none. -/
import Derived.Test.YtboiakcocelkmaaGreatDoorT44
import Derived.Deep.RegionWith
set_option linter.all false
namespace Go.Proofs.Cz
open Go.RowKit
end Go.Proofs.Cz
