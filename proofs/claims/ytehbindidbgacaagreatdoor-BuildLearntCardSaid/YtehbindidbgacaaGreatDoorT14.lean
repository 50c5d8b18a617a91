/- A part. Conditions: none. -/
import Derived.Test.YtehbindidbgacaaGreatDoorT13
set_option linter.all false
namespace Go.Proofs.Cw
open Go.aC
set_option maxRecDepth 1000000
theorem c0:oH (bj WP (oL 2000) (bu 0) false T0 (ii n0 l0)) T1 n1 l1=true:=by kernel_rfl
theorem c1:oH (bj WP (oL 2000) (bu 1) false T1 (ii n1 l1)) T2 n2 l2=true:=by kernel_rfl
theorem c2:oH (bj WP (oL 2000) (bu 2) false T2 (ii n2 l2)) T3 n3 l3=true:=by kernel_rfl
theorem c3:oH (bj WP (oL 2000) (bu 3) false T3 (ii n3 l3)) T4 n4 l4=true:=by kernel_rfl
theorem c4:oH (bj WP (oL 2000) (bu 4) false T4 (ii n4 l4)) T5 n5 l5=true:=by kernel_rfl
theorem c5:oH (bj WP (oL 2000) (bu 5) false T5 (ii n5 l5)) T6 n6 l6=true:=by kernel_rfl
theorem c6:oH (bj WP (oL 2000) (bu 6) false T6 (ii n6 l6)) T7 n7 l7=true:=by kernel_rfl
end Go.Proofs.Cw
