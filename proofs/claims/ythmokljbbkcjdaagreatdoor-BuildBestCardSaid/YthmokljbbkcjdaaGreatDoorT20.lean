/- A part. Conditions: none. -/
import Derived.Test.YthmokljbbkcjdaaGreatDoorT15
set_option linter.all false
namespace Go.Proofs.Cw
open Go.Ev
set_option maxRecDepth 1000000
theorem c13:oy (bz WP (oC 2000) (bJ 13) false T13 (gU n13 l13)) T14 n14 l14=true:=by kernel_rfl
theorem c14:oy (bz WP (oC 2000) (bJ 14) true T14 (gU n14 l14)) T15 n15 l15=true:=by kernel_rfl
theorem c15:oy (bz WP (oC 2000) (bJ 15) false T15 (gU n15 l15)) T16 n16 l16=true:=by kernel_rfl
theorem c16:oy (bz WP (oC 2000) (bJ 16) true T16 (gU n16 l16)) T17 n17 l17=true:=by kernel_rfl
theorem c17:oy (bz WP (oC 2000) (bJ 17) false T17 (gU n17 l17)) T18 n18 l18=true:=by kernel_rfl
theorem c18:oy (bz WP (oC 2000) (bJ 18) false T18 (gU n18 l18)) T19 n19 l19=true:=by kernel_rfl
theorem c19:oy (bz WP (oC 2000) (bJ 19) false T19 (gU n19 l19)) T20 n20 l20=true:=by kernel_rfl
theorem c20:oy (bz WP (oC 2000) (bJ 20) false T20 (gU n20 l20)) Xw n21 Xx=true:=by kernel_rfl
end Go.Proofs.Cw
