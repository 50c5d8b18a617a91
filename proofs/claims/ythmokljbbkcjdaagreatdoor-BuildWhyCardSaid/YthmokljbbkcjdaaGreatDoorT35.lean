/- A part of the proof that BuildWhy returns true. Conditions: none. -/
import Derived.Test.YthmokljbbkcjdaaGreatDoorT31
set_option linter.unusedVariables false
set_option linter.unusedSimpArgs false
section
namespace Go.Proofs.Cw
open Go.Ev
set_option maxRecDepth 1000000
theorem c11:chk (evRegQ Tw.prog (ceT 2000) (ops10 11) false T11 (mkH n11 l11)) T12 n12 l12=true:=by kernel_rfl
theorem c12:chk (evRegQ Tw.prog (ceT 2000) (ops10 12) false T12 (mkH n12 l12)) T13 n13 l13=true:=by kernel_rfl
end Go.Proofs.Cw
end
