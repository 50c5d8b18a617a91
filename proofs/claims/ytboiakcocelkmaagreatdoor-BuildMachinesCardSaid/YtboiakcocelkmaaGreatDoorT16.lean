/- A part. Conditions: none. -/
import Derived.Test.YtboiakcocelkmaaGreatDoorT13
set_option linter.all false
namespace Go.Proofs.Cw
open Go.au
set_option maxRecDepth 1000000
theorem c9:ng (aZ WP (np 2000) (bg 9) false T9 (gz n9 l9)) DD Xd Xo=true:=by kernel_rfl
theorem c10:ng (aZ WP (np 2000) (bg 10) false DD (gz Xd Xo)) Xp Xe RB=true:=by kernel_rfl
end Go.Proofs.Cw
