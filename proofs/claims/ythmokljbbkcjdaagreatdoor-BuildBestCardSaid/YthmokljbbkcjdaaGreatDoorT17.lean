/- A part. Conditions: none. -/
import Derived.Test.YthmokljbbkcjdaaGreatDoorT15
set_option linter.all false
namespace Go.Proofs.Cw
open Go.Ev
set_option maxRecDepth 1000000
theorem c7:oy (bz WP (oC 2000) (bJ 7) false T7 (gU n7 l7)) T8 n8 l8=true:=by kernel_rfl
theorem c8:oy (bz WP (oC 2000) (bJ 8) false T8 (gU n8 l8)) T9 n9 l9=true:=by kernel_rfl
end Go.Proofs.Cw
