/- A part. Conditions: none. -/
import Derived.Test.YtboiakcocelkmaaGreatDoorT13
set_option linter.all false
namespace Go.Proofs.Cw
open Go.aA
set_option maxRecDepth 1000000
theorem c0:nN (bi WP (nS 2000) (bu 0) false T0 (gO n0 l0)) T1 n1 l1=true:=by kernel_rfl
theorem c1:nN (bi WP (nS 2000) (bu 1) false T1 (gO n1 l1)) T2 n2 l2=true:=by kernel_rfl
theorem c2:nN (bi WP (nS 2000) (bu 2) false T2 (gO n2 l2)) T3 n3 l3=true:=by kernel_rfl
theorem c3:nN (bi WP (nS 2000) (bu 3) false T3 (gO n3 l3)) T4 n4 l4=true:=by kernel_rfl
theorem c4:nN (bi WP (nS 2000) (bu 4) false T4 (gO n4 l4)) T5 n5 l5=true:=by kernel_rfl
theorem c5:nN (bi WP (nS 2000) (bu 5) false T5 (gO n5 l5)) T6 n6 l6=true:=by kernel_rfl
theorem c6:nN (bi WP (nS 2000) (bu 6) false T6 (gO n6 l6)) T7 n7 l7=true:=by kernel_rfl
end Go.Proofs.Cw
