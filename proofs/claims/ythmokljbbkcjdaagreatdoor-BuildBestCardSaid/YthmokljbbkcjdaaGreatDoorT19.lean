/- A part. Conditions: none. -/
import Derived.Test.YthmokljbbkcjdaaGreatDoorT15
set_option linter.all false
namespace Go.Proofs.Cw
open Go.Ev
set_option maxRecDepth 1000000
theorem c11:oy (bz WP (oC 2000) (bJ 11) false T11 (gU Ui TQ)) T12 n12 l12=true:=by kernel_rfl
theorem c12:oy (bz WP (oC 2000) (bJ 12) false T12 (gU n12 l12)) T13 n13 l13=true:=by kernel_rfl
end Go.Proofs.Cw
