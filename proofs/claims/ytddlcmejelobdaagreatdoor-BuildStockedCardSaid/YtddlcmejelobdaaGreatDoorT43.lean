/- A part. Conditions: none. -/
import Derived.Test.YtddlcmejelobdaaGreatDoorT40
import Derived.Test.YtddlcmejelobdaaGreatDoorT42
import Derived.Deep.Cut
set_option linter.all false
namespace Go.Proofs.Cz
open Go.RowKit
def cv (w:World) (g i:Nat):Value:=(w.cell? ⟨g,i,none⟩).getD undef
end Go.Proofs.Cz

namespace Go.Proofs.Cz
open Go.RowKit Go.Shelf
abbrev z86:Array Value:=#[.int .i64 0,.int .i64 0,.slice none 0 0,.slice none 0 0,.slice none 0 0,.slice none 0 0]
theorem O0 {W:World} {g:Nat} (h:aD W g 81 z86):(W.cell? ⟨g,0,none⟩=some (.int .i64 0)/\W.cell? ⟨g,1,none⟩=some (.int .i64 0)/\W.cell? ⟨g,2,none⟩=some (.slice none 0 0)/\W.cell? ⟨g,3,none⟩=some (.slice none 0 0)/\W.cell? ⟨g,4,none⟩=some (.slice none 0 0)/\W.cell? ⟨g,5,none⟩=some (.slice none 0 0))/\
 W.frozen? ⟨g,0,none⟩=false/\W.frozen? ⟨g,1,none⟩=false/\W.frozen? ⟨g,2,none⟩=false/\W.frozen? ⟨g,3,none⟩=false/\W.frozen? ⟨g,4,none⟩=false/\W.frozen? ⟨g,5,none⟩=false:=
 ⟨⟨h.cell 0 rfl,h.cell 1 rfl,h.cell 2 rfl,h.cell 3 rfl,h.cell 4 rfl,h.cell 5 rfl⟩,h.cz 0,h.cz 1,h.cz 2,h.cz 3,h.cz 4,h.cz 5⟩
end Go.Proofs.Cz
