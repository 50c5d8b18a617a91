/- A part. Conditions: none. -/
import Derived.Test.YtboiakcocelkmaaGreatDoorT30
set_option linter.all false
namespace Go.Proofs.Cz
open Go.RowKit
attribute [local go_sem] Oper.semAt_some
end Go.Proofs.Cz
