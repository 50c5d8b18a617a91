/- A part. Conditions: none. -/
import Derived.Test.YtehbindidbgacaaGreatDoorT13
set_option linter.all false
namespace Go.Proofs.Cw
open Go.aC
set_option maxRecDepth 1000000
theorem c9:oH (bj WP (oL 2000) (bu 9) false T9 (ii n9 l9)) GA UJ l10=true:=by kernel_rfl
theorem c10:oH (bj WP (oL 2000) (bu 10) false GA (ii UJ l10)) T11 n11 WK=true:=by kernel_rfl
end Go.Proofs.Cw
