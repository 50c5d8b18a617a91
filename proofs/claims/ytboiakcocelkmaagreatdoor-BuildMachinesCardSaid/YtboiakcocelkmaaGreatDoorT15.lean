/- A part. Conditions: none. -/
import Derived.Test.YtboiakcocelkmaaGreatDoorT13
set_option linter.all false
namespace Go.Proofs.Cw
open Go.au
set_option maxRecDepth 1000000
theorem c7:ng (aZ WP (np 2000) (bg 7) false T7 (gz n7 l7)) T8 n8 l8=true:=by kernel_rfl
theorem c8:ng (aZ WP (np 2000) (bg 8) false T8 (gz n8 l8)) T9 n9 l9=true:=by kernel_rfl
end Go.Proofs.Cw
