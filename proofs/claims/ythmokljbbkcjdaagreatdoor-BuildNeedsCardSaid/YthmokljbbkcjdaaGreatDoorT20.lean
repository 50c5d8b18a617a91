/- A part of the proof that BuildNeeds returns true. Conditions: none. -/
import Derived.Test.YthmokljbbkcjdaaGreatDoorT17
import Derived.Deep.RegionHeld3
set_option linter.unusedVariables false
set_option linter.unusedSimpArgs false
section
namespace Go.Proofs.Cz
open Go.RowKit
set_option maxRecDepth 100000 in
theorem built_any (w:World):Calls Tz.prog 10 #[] w (RetV w (.bool true)):=by
 go_enter Tz.func10,Tz.ntmps10
 unfold Tz.stub
 go_wp2
 go_ret
 exact⟨rfl,Below.refl _ _⟩
def sumTo (f:Int→Nat) (l:List Int) (n:Nat):Nat:=((l.take n).map f).sum
theorem sumTo_le (f:Int→Nat) (l:List Int) (n:Nat):sumTo f l n≤(l.map f).sum:=by
 have h:l.map f=(l.take n).map f++(l.drop n).map f:=by rw[←List.map_append,List.take_append_drop]
 rw[h,List.sum_append]
 exact Nat.le_add_right _ _
end Go.Proofs.Cz
end
