/- A part of the proof that BuildWhy returns true. Conditions: none. -/
import Derived.Test.YthmokljbbkcjdaaGreatDoorT31
set_option linter.unusedVariables false
set_option linter.unusedSimpArgs false
section
namespace Go.Proofs.Cw
open Go.Ev
set_option maxRecDepth 1000000
theorem c7:chk (evRegQ Tw.prog (ceT 2000) (ops10 7) false T7 (mkH n7 l7)) T8 n8 l8=true:=by kernel_rfl
theorem c8:chk (evRegQ Tw.prog (ceT 2000) (ops10 8) false T8 (mkH n8 l8)) T9 n9 l9=true:=by kernel_rfl
end Go.Proofs.Cw
end
