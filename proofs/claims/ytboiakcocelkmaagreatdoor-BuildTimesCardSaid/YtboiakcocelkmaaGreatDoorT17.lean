/- A part. Conditions: none. -/
import Derived.Test.YtboiakcocelkmaaGreatDoorT13
set_option linter.all false
namespace Go.Proofs.Cw
open Go.aA
set_option maxRecDepth 1000000
theorem c11:nN (bi WP (nS 2000) (bu 11) false ZV (gO ZG Uz)) ZW n12 ZX=true:=by kernel_rfl
theorem c12:nN (bi WP (nS 2000) (bu 12) false ZW (gO n12 ZX)) ZY n13 ZZ=true:=by kernel_rfl
end Go.Proofs.Cw
