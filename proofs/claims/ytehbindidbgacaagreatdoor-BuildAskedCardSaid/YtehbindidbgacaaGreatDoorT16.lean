/- A part. Conditions: none. -/
import Derived.Test.YtehbindidbgacaaGreatDoorT15
set_option linter.all false
namespace Go.Proofs.Cw
open Go.Ev
set_option maxRecDepth 1000000
theorem c0:lz (ba WP (lD 2000) (bk 0) false T0 (fq n0 l0)) T1 n1 l1=true:=by kernel_rfl
theorem c1:lz (ba WP (lD 2000) (bk 1) false T1 (fq n1 l1)) T2 n2 l2=true:=by kernel_rfl
theorem c2:lz (ba WP (lD 2000) (bk 2) false T2 (fq n2 l2)) T3 n3 l3=true:=by kernel_rfl
theorem c3:lz (ba WP (lD 2000) (bk 3) false T3 (fq n3 l3)) T4 n4 l4=true:=by kernel_rfl
theorem c4:lz (ba WP (lD 2000) (bk 4) false T4 (fq n4 l4)) T5 n5 l5=true:=by kernel_rfl
theorem c5:lz (ba WP (lD 2000) (bk 5) false T5 (fq n5 l5)) T6 n6 l6=true:=by kernel_rfl
theorem c6:lz (ba WP (lD 2000) (bk 6) false T6 (fq n6 l6)) T7 n7 l7=true:=by kernel_rfl
end Go.Proofs.Cw
