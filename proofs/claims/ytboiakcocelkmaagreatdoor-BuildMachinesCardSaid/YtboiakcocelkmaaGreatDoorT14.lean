/- A part. Conditions: none. -/
import Derived.Test.YtboiakcocelkmaaGreatDoorT13
set_option linter.all false
namespace Go.Proofs.Cw
open Go.au
set_option maxRecDepth 1000000
theorem c0:ng (aZ WP (np 2000) (bg 0) false T0 (gz n0 l0)) T1 n1 l1=true:=by kernel_rfl
theorem c1:ng (aZ WP (np 2000) (bg 1) false T1 (gz n1 l1)) T2 n2 l2=true:=by kernel_rfl
theorem c2:ng (aZ WP (np 2000) (bg 2) false T2 (gz n2 l2)) T3 n3 l3=true:=by kernel_rfl
theorem c3:ng (aZ WP (np 2000) (bg 3) false T3 (gz n3 l3)) T4 n4 l4=true:=by kernel_rfl
theorem c4:ng (aZ WP (np 2000) (bg 4) false T4 (gz n4 l4)) T5 n5 l5=true:=by kernel_rfl
theorem c5:ng (aZ WP (np 2000) (bg 5) false T5 (gz n5 l5)) T6 n6 l6=true:=by kernel_rfl
theorem c6:ng (aZ WP (np 2000) (bg 6) false T6 (gz n6 l6)) T7 n7 l7=true:=by kernel_rfl
end Go.Proofs.Cw
