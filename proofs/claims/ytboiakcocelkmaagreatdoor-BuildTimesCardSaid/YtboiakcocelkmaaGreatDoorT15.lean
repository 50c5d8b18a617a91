/- A part. Conditions: none. -/
import Derived.Test.YtboiakcocelkmaaGreatDoorT13
set_option linter.all false
namespace Go.Proofs.Cw
open Go.aA
set_option maxRecDepth 1000000
theorem c7:nN (bi WP (nS 2000) (bu 7) false T7 (gO n7 l7)) T8 n8 l8=true:=by kernel_rfl
theorem c8:nN (bi WP (nS 2000) (bu 8) false T8 (gO n8 l8)) T9 n9 l9=true:=by kernel_rfl
end Go.Proofs.Cw
