/- A part. Conditions: none. -/
import Derived.Test.YtboiakcocelkmaaGreatDoorT13
set_option linter.all false
namespace Go.Proofs.Cw
open Go.au
set_option maxRecDepth 1000000
theorem c13:ng (aZ WP (np 2000) (bg 13) false Xs (gz n13 Xt)) Xu n14 Xv=true:=by kernel_rfl
theorem c14:ng (aZ WP (np 2000) (bg 14) true Xu (gz n14 Xv)) Xw n15 Xx=true:=by kernel_rfl
theorem c15:ng (aZ WP (np 2000) (bg 15) false Xw (gz n15 Xx)) Xy n16 Xz=true:=by kernel_rfl
theorem c16:ng (aZ WP (np 2000) (bg 16) true Xy (gz n16 Xz)) XA n17 XB=true:=by kernel_rfl
theorem c17:ng (aZ WP (np 2000) (bg 17) false XA (gz n17 XB)) XC n18 XD=true:=by kernel_rfl
theorem c18:ng (aZ WP (np 2000) (bg 18) false XC (gz n18 XD)) XE n19 XF=true:=by kernel_rfl
theorem c19:ng (aZ WP (np 2000) (bg 19) false XE (gz n19 XF)) XG n20 XH=true:=by kernel_rfl
theorem c20:ng (aZ WP (np 2000) (bg 20) false XG (gz n20 XH)) Ul n21 Um=true:=by kernel_rfl
end Go.Proofs.Cw
