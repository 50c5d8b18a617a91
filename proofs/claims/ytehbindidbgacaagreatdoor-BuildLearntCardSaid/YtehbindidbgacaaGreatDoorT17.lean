/- A part. Conditions: none. -/
import Derived.Test.YtehbindidbgacaaGreatDoorT13
set_option linter.all false
namespace Go.Proofs.Cw
open Go.aC
set_option maxRecDepth 1000000
theorem c11:oH (bj WP (oL 2000) (bu 11) false T11 (ii n11 WK)) T12 n12 l12=true:=by kernel_rfl
theorem c12:oH (bj WP (oL 2000) (bu 12) false T12 (ii n12 l12)) T13 n13 l13=true:=by kernel_rfl
end Go.Proofs.Cw
