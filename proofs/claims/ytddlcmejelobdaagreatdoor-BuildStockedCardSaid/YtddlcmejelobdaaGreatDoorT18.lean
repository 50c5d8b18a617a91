/- A part. Conditions: none. -/
import Derived.Test.YtddlcmejelobdaaGreatDoorT13
set_option linter.all false
namespace Go.Proofs.Cw
open Go.aq
set_option maxRecDepth 1000000
theorem c13:ob (bi WP (oq 2000) (br 13) false T13 (gY n13 l13)) T14 n14 l14=true:=by kernel_rfl
theorem c14:ob (bi WP (oq 2000) (br 14) true T14 (gY n14 l14)) T15 n15 l15=true:=by kernel_rfl
theorem c15:ob (bi WP (oq 2000) (br 15) false T15 (gY n15 l15)) T16 n16 l16=true:=by kernel_rfl
theorem c16:ob (bi WP (oq 2000) (br 16) true T16 (gY n16 l16)) T17 n17 l17=true:=by kernel_rfl
theorem c17:ob (bi WP (oq 2000) (br 17) false T17 (gY n17 l17)) T18 n18 l18=true:=by kernel_rfl
theorem c18:ob (bi WP (oq 2000) (br 18) false T18 (gY n18 l18)) T19 n19 l19=true:=by kernel_rfl
theorem c19:ob (bi WP (oq 2000) (br 19) false T19 (gY n19 l19)) T20 n20 l20=true:=by kernel_rfl
theorem c20:ob (bi WP (oq 2000) (br 20) false T20 (gY n20 l20)) Xz n21 XA=true:=by kernel_rfl
end Go.Proofs.Cw
