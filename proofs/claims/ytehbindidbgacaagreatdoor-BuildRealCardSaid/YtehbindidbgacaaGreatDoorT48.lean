/- A part. Conditions: none. -/
import Derived.Test.YtehbindidbgacaaGreatDoorT46
set_option linter.all false
namespace Go.Proofs.Cz
open Go.RowKit
end Go.Proofs.Cz

namespace Go.Proofs.Cz
open Go.RowKit
theorem FP (a:Option Addr) (n m:Nat) (x y:Int):∀u∈ [Value.slice a n m,.int .i64 x,.int .i64 y],u.oneCell'=true:=fun u hu=>by
 simp at hu;rcases hu with rfl|rfl|rfl<;>rfl
end Go.Proofs.Cz
