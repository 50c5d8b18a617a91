/- A part. Conditions: none. -/
import Derived.Test.YtboiakcocelkmaaGreatDoorT13
set_option linter.all false
namespace Go.Proofs.Cw
open Go.aA
set_option maxRecDepth 1000000
theorem c13:nN (bi WP (nS 2000) (bu 13) false ZY (gO n13 ZZ)) Z5 n14 Z6=true:=by kernel_rfl
theorem c14:nN (bi WP (nS 2000) (bu 14) true Z5 (gO n14 Z6)) Z7 n15 Z8=true:=by kernel_rfl
theorem c15:nN (bi WP (nS 2000) (bu 15) false Z7 (gO n15 Z8)) Z9 n16 l16=true:=by kernel_rfl
theorem c16:nN (bi WP (nS 2000) (bu 16) true Z9 (gO n16 l16)) T17 n17 l17=true:=by kernel_rfl
theorem c17:nN (bi WP (nS 2000) (bu 17) false T17 (gO n17 l17)) T18 n18 l18=true:=by kernel_rfl
theorem c18:nN (bi WP (nS 2000) (bu 18) false T18 (gO n18 l18)) T19 n19 l19=true:=by kernel_rfl
theorem c19:nN (bi WP (nS 2000) (bu 19) false T19 (gO n19 l19)) T20 n20 l20=true:=by kernel_rfl
theorem c20:nN (bi WP (nS 2000) (bu 20) false T20 (gO n20 l20)) Xa n21 Xb=true:=by kernel_rfl
end Go.Proofs.Cw
