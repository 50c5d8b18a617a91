/- A part. Conditions: none. -/
import Derived.Test.YtehbindidbgacaaGreatDoorT36
import Derived.Laws.AppendOwnNone
set_option linter.all false
namespace Go.Proofs.Cz
open Go.RowKit
section
variable (b:aW) (p:Nat) (o:List Int)
end
end Go.Proofs.Cz
