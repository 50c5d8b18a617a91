/- A part. Conditions: none. -/
import Derived.Test.YthmokljbbkcjdaaGreatDoorT15
set_option linter.all false
namespace Go.Proofs.Cw
open Go.Ev
set_option maxRecDepth 1000000
theorem c9:oy (bz WP (oC 2000) (bJ 9) false T9 (gU n9 l9)) EY n10 l10=true:=by kernel_rfl
theorem c10:oy (bz WP (oC 2000) (bJ 10) false EY (gU n10 l10)) T11 Ui TQ=true:=by kernel_rfl
end Go.Proofs.Cw
