/- A part. Conditions: none. -/
import Derived.Test.YtehbindidbgacaaGreatDoorT13
set_option linter.all false
namespace Go.Proofs.Cw
open Go.av
set_option maxRecDepth 1000000
theorem c13:nW (bg WP (ob 2000) (br 13) false T13 (gU n13 l13)) T14 n14 l14=true:=by kernel_rfl
theorem c14:nW (bg WP (ob 2000) (br 14) true T14 (gU n14 l14)) T15 n15 l15=true:=by kernel_rfl
theorem c15:nW (bg WP (ob 2000) (br 15) false T15 (gU n15 l15)) T16 n16 l16=true:=by kernel_rfl
theorem c16:nW (bg WP (ob 2000) (br 16) true T16 (gU n16 l16)) T17 n17 l17=true:=by kernel_rfl
theorem c17:nW (bg WP (ob 2000) (br 17) false T17 (gU n17 l17)) T18 n18 l18=true:=by kernel_rfl
theorem RL:nW (bg WP (ob 2000) (br 18) false T18 (gU n18 l18)) T19 n19 l19=true:=by kernel_rfl
theorem RM:nW (bg WP (ob 2000) (br 19) false T19 (gU n19 l19)) T20 n20 l20=true:=by kernel_rfl
theorem c20:nW (bg WP (ob 2000) (br 20) false T20 (gU n20 l20)) Xk n21 Xl=true:=by kernel_rfl
end Go.Proofs.Cw
