/- A part. Conditions: none. -/
import Derived.Test.YthmokljbbkcjdaaGreatDoorT15
set_option linter.all false
namespace Go.Proofs.Cw
open Go.Ev
set_option maxRecDepth 1000000
theorem c9:ma (be WP (mg 2000) (bl 9) false T9 (fJ n9 l9)) Bc TW Ug=true:=by kernel_rfl
theorem c10:ma (be WP (mg 2000) (bl 10) false Bc (fJ TW Ug)) Uh TX ON=true:=by kernel_rfl
end Go.Proofs.Cw
