/- A part. Conditions: none. -/
import Derived.Test.YtehbindidbgacaaGreatDoorT13
set_option linter.all false
namespace Go.Proofs.Cw
open Go.av
set_option maxRecDepth 1000000
theorem c9:nW (bg WP (ob 2000) (br 9) false T9 (gU n9 l9)) EY Z8 l10=true:=by kernel_rfl
theorem c10:nW (bg WP (ob 2000) (br 10) false EY (gU Z8 l10)) T11 Z9 Um=true:=by kernel_rfl
end Go.Proofs.Cw
