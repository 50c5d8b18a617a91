/- A part. Conditions: none. -/
import Derived.Test.YtddlcmejelobdaaGreatDoorT13
set_option linter.all false
namespace Go.Proofs.Cw
open Go.aq
set_option maxRecDepth 1000000
theorem c7:ob (bi WP (oq 2000) (br 7) false T7 (gY n7 l7)) T8 n8 l8=true:=by kernel_rfl
theorem c8:ob (bi WP (oq 2000) (br 8) false T8 (gY n8 l8)) T9 n9 l9=true:=by kernel_rfl
end Go.Proofs.Cw
