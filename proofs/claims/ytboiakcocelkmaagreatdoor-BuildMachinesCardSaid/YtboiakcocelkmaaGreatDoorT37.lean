/- A part. Conditions: none. -/
import Derived.Test.YtboiakcocelkmaaGreatDoorT36
set_option linter.all false
namespace Go.Proofs.Cz
open Go.RowKit
def cv (w:World) (g i:Nat):Value:=(w.cell? ⟨g,i,none⟩).getD undef
theorem SL {w:World} {g i:Nat} {v:Value} (h:w.cell? ⟨g,i,none⟩=some v):w.cell? ⟨g,i,none⟩=some (cv w g i):=by unfold cv;rw[h];rfl
end Go.Proofs.Cz
