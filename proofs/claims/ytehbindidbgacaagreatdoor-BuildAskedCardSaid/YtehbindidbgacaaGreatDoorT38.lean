/- A part. Conditions: none. -/
import Derived.Test.YtehbindidbgacaaGreatDoorT37
set_option linter.all false
namespace Go.Proofs.Cz
open Go.RowKit
end Go.Proofs.Cz
