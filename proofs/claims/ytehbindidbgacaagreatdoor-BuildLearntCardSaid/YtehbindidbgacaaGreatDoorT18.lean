/- A part. Conditions: none. -/
import Derived.Test.YtehbindidbgacaaGreatDoorT13
set_option linter.all false
namespace Go.Proofs.Cw
open Go.aC
set_option maxRecDepth 1000000
theorem c13:oH (bj WP (oL 2000) (bu 13) false T13 (ii n13 l13)) T14 n14 l14=true:=by kernel_rfl
theorem c14:oH (bj WP (oL 2000) (bu 14) true T14 (ii n14 l14)) T15 n15 l15=true:=by kernel_rfl
theorem c15:oH (bj WP (oL 2000) (bu 15) false T15 (ii n15 l15)) T16 n16 l16=true:=by kernel_rfl
theorem c16:oH (bj WP (oL 2000) (bu 16) true T16 (ii n16 l16)) T17 n17 l17=true:=by kernel_rfl
theorem c17:oH (bj WP (oL 2000) (bu 17) false T17 (ii n17 l17)) T18 n18 l18=true:=by kernel_rfl
theorem c18:oH (bj WP (oL 2000) (bu 18) false T18 (ii n18 l18)) T19 n19 l19=true:=by kernel_rfl
theorem c19:oH (bj WP (oL 2000) (bu 19) false T19 (ii n19 l19)) T20 n20 l20=true:=by kernel_rfl
theorem c20:oH (bj WP (oL 2000) (bu 20) false T20 (ii n20 l20)) ZV n21 ZW=true:=by kernel_rfl
end Go.Proofs.Cw
