/- A part. Conditions: none. -/
import Derived.Test.YtehbindidbgacaaGreatDoorT13
set_option linter.all false
namespace Go.Proofs.Cw
open Go.aC
set_option maxRecDepth 1000000
theorem c7:oH (bj WP (oL 2000) (bu 7) false T7 (ii n7 l7)) T8 n8 l8=true:=by kernel_rfl
theorem c8:oH (bj WP (oL 2000) (bu 8) false T8 (ii n8 l8)) T9 n9 l9=true:=by kernel_rfl
end Go.Proofs.Cw
