/- A part. Conditions: none. -/
import Derived.Test.YtddlcmejelobdaaGreatDoorT13
set_option linter.all false
namespace Go.Proofs.Cw
open Go.aq
set_option maxRecDepth 1000000
theorem c11:ob (bi WP (oq 2000) (br 11) false T11 (gY n11 UY)) T12 n12 l12=true:=by kernel_rfl
theorem c12:ob (bi WP (oq 2000) (br 12) false T12 (gY n12 l12)) T13 n13 l13=true:=by kernel_rfl
end Go.Proofs.Cw
