/- A part. Conditions: none. -/
import Derived.Test.YtehbindidbgacaaGreatDoorT15
set_option linter.all false
namespace Go.Proofs.Cw
open Go.Ev
set_option maxRecDepth 1000000
theorem XL:lz (ba WP (lD 2000) (bk 13) false RW (fq UI RX)) RY UJ RZ=true:=by kernel_rfl
theorem XM:lz (ba WP (lD 2000) (bk 14) true RY (fq UJ RZ)) R5 n15 R6=true:=by kernel_rfl
theorem XN:lz (ba WP (lD 2000) (bk 15) false R5 (fq n15 R6)) R7 n16 Sa=true:=by kernel_rfl
theorem XO:lz (ba WP (lD 2000) (bk 16) true R7 (fq n16 Sa)) Sc n17 Sd=true:=by kernel_rfl
theorem XP:lz (ba WP (lD 2000) (bk 17) false Sc (fq n17 Sd)) Se n18 Sg=true:=by kernel_rfl
theorem XQ:lz (ba WP (lD 2000) (bk 18) false Se (fq n18 Sg)) Sh n19 Si=true:=by kernel_rfl
theorem XR:lz (ba WP (lD 2000) (bk 19) false Sh (fq n19 Si)) Sj n20 Sk=true:=by kernel_rfl
theorem XS:lz (ba WP (lD 2000) (bk 20) false Sj (fq n20 Sk)) O5 n21 O6=true:=by kernel_rfl
end Go.Proofs.Cw
