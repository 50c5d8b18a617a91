/- A part of the proof that BuildWhy returns true. Conditions: none. -/
import Derived.Test.YthmokljbbkcjdaaGreatDoorT31
set_option linter.unusedVariables false
set_option linter.unusedSimpArgs false
section
namespace Go.Proofs.Cw
open Go.Ev
set_option maxRecDepth 1000000
theorem c9:chk (evRegQ Tw.prog (ceT 2000) (ops10 9) false T9 (mkH n9 l9)) T10 n10 l10=true:=by kernel_rfl
theorem c10:chk (evRegQ Tw.prog (ceT 2000) (ops10 10) false T10 (mkH n10 l10)) T11 n11 l11=true:=by kernel_rfl
end Go.Proofs.Cw
end
