/- A part. Conditions: none. -/
import Derived.Test.YtboiakcocelkmaaGreatDoorT35
import Derived.ChangeKeysEq
set_option linter.all false
namespace Go.Proofs.Cz
open Go.RowKit
def Md (o m:Nat->Int):Prop:=o 0=m 0/\o 1=m 1/\o 2=m 2/\o 3=m 3
instance (o m : Nat -> Int) : Decidable (Md o m) := by unfold Md; infer_instance
end Go.Proofs.Cz
