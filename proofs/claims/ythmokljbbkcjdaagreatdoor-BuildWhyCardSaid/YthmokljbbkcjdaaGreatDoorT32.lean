/- A part of the proof that BuildWhy returns true. Conditions: none. -/
import Derived.Test.YthmokljbbkcjdaaGreatDoorT31
set_option linter.unusedVariables false
set_option linter.unusedSimpArgs false
section
namespace Go.Proofs.Cw
open Go.Ev
set_option maxRecDepth 1000000
theorem c0:chk (evRegQ Tw.prog (ceT 2000) (ops10 0) false T0 (mkH n0 l0)) T1 n1 l1=true:=by kernel_rfl
theorem c1:chk (evRegQ Tw.prog (ceT 2000) (ops10 1) false T1 (mkH n1 l1)) T2 n2 l2=true:=by kernel_rfl
theorem c2:chk (evRegQ Tw.prog (ceT 2000) (ops10 2) false T2 (mkH n2 l2)) T3 n3 l3=true:=by kernel_rfl
theorem c3:chk (evRegQ Tw.prog (ceT 2000) (ops10 3) false T3 (mkH n3 l3)) T4 n4 l4=true:=by kernel_rfl
theorem c4:chk (evRegQ Tw.prog (ceT 2000) (ops10 4) false T4 (mkH n4 l4)) T5 n5 l5=true:=by kernel_rfl
theorem c5:chk (evRegQ Tw.prog (ceT 2000) (ops10 5) false T5 (mkH n5 l5)) T6 n6 l6=true:=by kernel_rfl
theorem c6:chk (evRegQ Tw.prog (ceT 2000) (ops10 6) false T6 (mkH n6 l6)) T7 n7 l7=true:=by kernel_rfl
end Go.Proofs.Cw
end
