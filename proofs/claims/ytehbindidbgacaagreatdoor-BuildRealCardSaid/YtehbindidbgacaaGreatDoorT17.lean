/- A part. Conditions: none. -/
import Derived.Test.YtehbindidbgacaaGreatDoorT13
set_option linter.all false
namespace Go.Proofs.Cw
open Go.av
set_option maxRecDepth 1000000
theorem c11:nW (bg WP (ob 2000) (br 11) false T11 (gU Z9 Um)) T12 n12 l12=true:=by kernel_rfl
theorem c12:nW (bg WP (ob 2000) (br 12) false T12 (gU n12 l12)) T13 n13 l13=true:=by kernel_rfl
end Go.Proofs.Cw
