/- A part. Conditions: none. -/
import Derived.Test.YtehbindidbgacaaGreatDoorT15
set_option linter.all false
namespace Go.Proofs.Cw
open Go.Ev
set_option maxRecDepth 1000000
theorem c7:lz (ba WP (lD 2000) (bk 7) false T7 (fq n7 l7)) T8 n8 l8=true:=by kernel_rfl
theorem c8:lz (ba WP (lD 2000) (bk 8) false T8 (fq n8 l8)) T9 n9 l9=true:=by kernel_rfl
end Go.Proofs.Cw
