/- A part. Conditions: none. -/
import Derived.Test.YtddlcmejelobdaaGreatDoorT13
set_option linter.all false
namespace Go.Proofs.Cw
open Go.aq
set_option maxRecDepth 1000000
theorem c0:ob (bi WP (oq 2000) (br 0) false T0 (gY n0 l0)) T1 n1 l1=true:=by kernel_rfl
theorem c1:ob (bi WP (oq 2000) (br 1) false T1 (gY n1 l1)) T2 n2 l2=true:=by kernel_rfl
theorem c2:ob (bi WP (oq 2000) (br 2) false T2 (gY n2 l2)) T3 n3 l3=true:=by kernel_rfl
theorem c3:ob (bi WP (oq 2000) (br 3) false T3 (gY n3 l3)) T4 n4 l4=true:=by kernel_rfl
theorem c4:ob (bi WP (oq 2000) (br 4) false T4 (gY n4 l4)) T5 n5 l5=true:=by kernel_rfl
theorem c5:ob (bi WP (oq 2000) (br 5) false T5 (gY n5 l5)) T6 n6 l6=true:=by kernel_rfl
theorem c6:ob (bi WP (oq 2000) (br 6) false T6 (gY n6 l6)) T7 n7 l7=true:=by kernel_rfl
end Go.Proofs.Cw
