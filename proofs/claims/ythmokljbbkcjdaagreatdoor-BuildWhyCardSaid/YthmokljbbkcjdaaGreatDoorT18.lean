/- A part of the proof that BuildWhy returns true. Conditions: none. -/
import Derived.Test.YthmokljbbkcjdaaGreatDoorT17
set_option linter.unusedVariables false
set_option linter.unusedSimpArgs false
section
namespace Go.Proofs.Cz
open Go.RowKit
attribute [local go_sem] Oper.semAt_some
end Go.Proofs.Cz
end
section
namespace Go.Proofs.Cz
open Go.RowKit
end Go.Proofs.Cz
end
