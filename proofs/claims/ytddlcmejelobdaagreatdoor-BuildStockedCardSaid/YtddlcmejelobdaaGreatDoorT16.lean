/- A part. Conditions: none. -/
import Derived.Test.YtddlcmejelobdaaGreatDoorT13
set_option linter.all false
namespace Go.Proofs.Cw
open Go.aq
set_option maxRecDepth 1000000
theorem c9:ob (bi WP (oq 2000) (br 9) false T9 (gY n9 l9)) FM n10 l10=true:=by kernel_rfl
theorem c10:ob (bi WP (oq 2000) (br 10) false FM (gY n10 l10)) T11 n11 UY=true:=by kernel_rfl
end Go.Proofs.Cw
