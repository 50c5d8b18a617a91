/- A part. Conditions: none. -/
import Derived.Test.YthmokljbbkcjdaaGreatDoorT15
set_option linter.all false
namespace Go.Proofs.Cw
open Go.Ev
set_option maxRecDepth 1000000
theorem c13:ma (be WP (mg 2000) (bl 13) false Uk (fJ WW Ul)) Um WX Un=true:=by kernel_rfl
theorem c14:ma (be WP (mg 2000) (bl 14) true Um (fJ WX Un)) Uo n15 Up=true:=by kernel_rfl
theorem c15:ma (be WP (mg 2000) (bl 15) false Uo (fJ n15 Up)) Uq n16 Ur=true:=by kernel_rfl
theorem c16:ma (be WP (mg 2000) (bl 16) true Uq (fJ n16 Ur)) Us n17 Ut=true:=by kernel_rfl
theorem c17:ma (be WP (mg 2000) (bl 17) false Us (fJ n17 Ut)) Uu n18 Uv=true:=by kernel_rfl
theorem c18:ma (be WP (mg 2000) (bl 18) false Uu (fJ n18 Uv)) Uw n19 Ux=true:=by kernel_rfl
theorem c19:ma (be WP (mg 2000) (bl 19) false Uw (fJ n19 Ux)) Uy n20 Uz=true:=by kernel_rfl
theorem c20:ma (be WP (mg 2000) (bl 20) false Uy (fJ n20 Uz)) Q5 n21 Q6=true:=by kernel_rfl
end Go.Proofs.Cw
