/- A part. Conditions: none. -/
import Derived.Test.YtboiakcocelkmaaGreatDoorT13
set_option linter.all false
namespace Go.Proofs.Cw
open Go.aA
set_option maxRecDepth 1000000
theorem c9:nN (bi WP (nS 2000) (bu 9) false T9 (gO n9 l9)) Fv ZF ZU=true:=by kernel_rfl
theorem c10:nN (bi WP (nS 2000) (bu 10) false Fv (gO ZF ZU)) ZV ZG Uz=true:=by kernel_rfl
end Go.Proofs.Cw
