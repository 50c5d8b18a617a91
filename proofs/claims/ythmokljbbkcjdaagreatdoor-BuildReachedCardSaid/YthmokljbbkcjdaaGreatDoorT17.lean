/- A part. Conditions: none. -/
import Derived.Test.YthmokljbbkcjdaaGreatDoorT15
set_option linter.all false
namespace Go.Proofs.Cw
open Go.Ev
set_option maxRecDepth 1000000
theorem c7:ma (be WP (mg 2000) (bl 7) false T7 (fJ n7 l7)) T8 n8 l8=true:=by kernel_rfl
theorem c8:ma (be WP (mg 2000) (bl 8) false T8 (fJ n8 l8)) T9 n9 l9=true:=by kernel_rfl
end Go.Proofs.Cw
