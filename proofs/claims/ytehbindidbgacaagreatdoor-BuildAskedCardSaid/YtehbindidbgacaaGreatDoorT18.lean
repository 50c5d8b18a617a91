/- A part. Conditions: none. -/
import Derived.Test.YtehbindidbgacaaGreatDoorT15
set_option linter.all false
namespace Go.Proofs.Cw
open Go.Ev
set_option maxRecDepth 1000000
theorem c9:lz (ba WP (lD 2000) (bk 9) false T9 (fq n9 l9)) Ac RE RP=true:=by kernel_rfl
theorem XI:lz (ba WP (lD 2000) (bk 10) false Ac (fq RE RP)) RQ RF M4=true:=by kernel_rfl
end Go.Proofs.Cw
