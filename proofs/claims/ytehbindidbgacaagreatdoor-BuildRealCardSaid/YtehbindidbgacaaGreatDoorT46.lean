/- A part. Conditions: none. -/
import Derived.Test.YtehbindidbgacaaGreatDoorT45
import Derived.Deep.RegionWith
set_option linter.all false
namespace Go.Proofs.Cz
open Go.RowKit
theorem VS {W:World} {g:Nat} (h:aC W g 26 VD):(W.cell? ⟨g,0,none⟩=some (.int .i64 0)/\W.cell? ⟨g,1,none⟩=some (.int .i64 0)/\W.cell? ⟨g,2,none⟩=some (.slice none 0 0)/\W.cell? ⟨g,3,none⟩=some (.slice none 0 0)/\W.cell? ⟨g,4,none⟩=some (.slice none 0 0))/\
 W.frozen? ⟨g,0,none⟩=false/\W.frozen? ⟨g,1,none⟩=false/\W.frozen? ⟨g,2,none⟩=false/\W.frozen? ⟨g,3,none⟩=false/\W.frozen? ⟨g,4,none⟩=false:=
 ⟨⟨h.cell 0 rfl,h.cell 1 rfl,h.cell 2 rfl,h.cell 3 rfl,h.cell 4 rfl⟩,h.aI 0,h.aI 1,h.aI 2,h.aI 3,h.aI 4⟩
end Go.Proofs.Cz
