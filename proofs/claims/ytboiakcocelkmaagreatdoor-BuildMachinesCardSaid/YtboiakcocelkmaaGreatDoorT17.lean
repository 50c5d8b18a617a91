/- A part. Conditions: none. -/
import Derived.Test.YtboiakcocelkmaaGreatDoorT13
set_option linter.all false
namespace Go.Proofs.Cw
open Go.au
set_option maxRecDepth 1000000
theorem c11:ng (aZ WP (np 2000) (bg 11) false Xp (gz Xe RB)) Xq n12 Xr=true:=by kernel_rfl
theorem c12:ng (aZ WP (np 2000) (bg 12) false Xq (gz n12 Xr)) Xs n13 Xt=true:=by kernel_rfl
end Go.Proofs.Cw
