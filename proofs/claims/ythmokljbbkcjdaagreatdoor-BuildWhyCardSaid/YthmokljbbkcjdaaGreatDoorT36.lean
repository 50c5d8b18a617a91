/- A part of the proof that BuildWhy returns true. Conditions: none. -/
import Derived.Test.YthmokljbbkcjdaaGreatDoorT31
set_option linter.unusedVariables false
set_option linter.unusedSimpArgs false
section
namespace Go.Proofs.Cw
open Go.Ev
set_option maxRecDepth 1000000
theorem c13:chk (evRegQ Tw.prog (ceT 2000) (ops10 13) false T13 (mkH n13 l13)) T14 n14 l14=true:=by kernel_rfl
theorem c14:chk (evRegQ Tw.prog (ceT 2000) (ops10 14) true T14 (mkH n14 l14)) T15 n15 l15=true:=by kernel_rfl
theorem c15:chk (evRegQ Tw.prog (ceT 2000) (ops10 15) false T15 (mkH n15 l15)) T16 n16 l16=true:=by kernel_rfl
theorem c16:chk (evRegQ Tw.prog (ceT 2000) (ops10 16) true T16 (mkH n16 l16)) T17 n17 l17=true:=by kernel_rfl
theorem c17:chk (evRegQ Tw.prog (ceT 2000) (ops10 17) false T17 (mkH n17 l17)) T18 n18 l18=true:=by kernel_rfl
theorem c18:chk (evRegQ Tw.prog (ceT 2000) (ops10 18) false T18 (mkH n18 l18)) T19 n19 l19=true:=by kernel_rfl
theorem c19:chk (evRegQ Tw.prog (ceT 2000) (ops10 19) false T19 (mkH n19 l19)) T20 n20 l20=true:=by kernel_rfl
theorem c20:chk (evRegQ Tw.prog (ceT 2000) (ops10 20) false T20 (mkH n20 l20)) T21 n21 l21=true:=by kernel_rfl
end Go.Proofs.Cw
end
