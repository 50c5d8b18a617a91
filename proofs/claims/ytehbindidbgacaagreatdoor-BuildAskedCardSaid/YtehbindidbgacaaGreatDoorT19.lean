/- A part. Conditions: none. -/
import Derived.Test.YtehbindidbgacaaGreatDoorT15
set_option linter.all false
namespace Go.Proofs.Cw
open Go.Ev
set_option maxRecDepth 1000000
theorem XJ:lz (ba WP (lD 2000) (bk 11) false RQ (fq RF M4)) RS UH RT=true:=by kernel_rfl
theorem XK:lz (ba WP (lD 2000) (bk 12) false RS (fq UH RT)) RW UI RX=true:=by kernel_rfl
end Go.Proofs.Cw
