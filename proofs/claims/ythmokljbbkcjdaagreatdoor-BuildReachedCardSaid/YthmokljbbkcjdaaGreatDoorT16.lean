/- A part. Conditions: none. -/
import Derived.Test.YthmokljbbkcjdaaGreatDoorT15
set_option linter.all false
namespace Go.Proofs.Cw
open Go.Ev
set_option maxRecDepth 1000000
theorem c0:ma (be WP (mg 2000) (bl 0) false T0 (fJ n0 l0)) T1 n1 l1=true:=by kernel_rfl
theorem c1:ma (be WP (mg 2000) (bl 1) false T1 (fJ n1 l1)) T2 n2 l2=true:=by kernel_rfl
theorem c2:ma (be WP (mg 2000) (bl 2) false T2 (fJ n2 l2)) T3 n3 l3=true:=by kernel_rfl
theorem c3:ma (be WP (mg 2000) (bl 3) false T3 (fJ n3 l3)) T4 n4 l4=true:=by kernel_rfl
theorem c4:ma (be WP (mg 2000) (bl 4) false T4 (fJ n4 l4)) T5 n5 l5=true:=by kernel_rfl
theorem c5:ma (be WP (mg 2000) (bl 5) false T5 (fJ n5 l5)) T6 n6 l6=true:=by kernel_rfl
theorem c6:ma (be WP (mg 2000) (bl 6) false T6 (fJ n6 l6)) T7 n7 l7=true:=by kernel_rfl
end Go.Proofs.Cw
