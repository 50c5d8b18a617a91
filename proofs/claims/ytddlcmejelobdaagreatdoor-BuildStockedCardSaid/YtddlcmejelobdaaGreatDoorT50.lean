/- A part. Conditions: none. -/
import Derived.Test.YtddlcmejelobdaaGreatDoorT30
import Derived.Deep.RegionHeld3
set_option linter.all false
set_option maxRecDepth 100000
namespace Go.Proofs.Cz
open Go.RowKit
theorem ir (w:World):Calls ZP 9 #[] w (dQ w (.bool true)):=by
 go_enter ZF9,Tz.ntmps9
 unfold Tz.stub;go_wp2
 go_ret;exact⟨rfl,Below.refl _ _⟩
def sumTo (f:Int->Nat) (l:List Int) (n:Nat):Nat:=((l.take n).map f).sum
theorem sumTo_le (f:Int->Nat) (l:List Int) (n:Nat):sumTo f l n<=(l.map f).sum:=by
 have h:l.map f=(l.take n).map f++(l.drop n).map f:=by rw[<-List.map_append,List.take_append_drop]
 rw[h,List.sum_append];exact Nat.le_add_right _ _
end Go.Proofs.Cz
