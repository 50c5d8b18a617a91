/- A part. Conditions: none. -/
import Derived.Test.YthmokljbbkcjdaaGreatDoorT15
set_option linter.all false
namespace Go.Proofs.Cw
open Go.Ev
set_option maxRecDepth 1000000
theorem c11:ma (be WP (mg 2000) (bl 11) false Uh (fJ TX ON)) Ui WV Uj=true:=by kernel_rfl
theorem c12:ma (be WP (mg 2000) (bl 12) false Ui (fJ WV Uj)) Uk WW Ul=true:=by kernel_rfl
end Go.Proofs.Cw
