/- A part. Conditions: none. -/
import Derived.Test.YtddlcmejelobdaaGreatDoorT31
import Derived.Deep.RegionHeld3
set_option linter.all false
set_option maxRecDepth 100000
namespace Go.Proofs.Cz
open Go.RowKit
def rY (w:nq):Calls ZP 9 #[] w (bK w (.bool true)):=by
 go_enter ZF9,Tz.ntmps9
 unfold Tz.stub;go_wp2
 go_ret;exact⟨rfl,Below.refl _ _⟩
def sumTo (f:Int->Nat) (l:List Int) (n:Nat):Nat:=((l.take n).map f).sum
def sumTo_le (f:Int->Nat) (l:List Int) (n:Nat):sumTo f l n<=(l.map f).sum:=by
 have h:l.map f=(l.take n).map f++(l.drop n).map f:=by rw[<-zCJ,zFD]
 rw[h,List.sum_append];exact zFX _ _
end Go.Proofs.Cz
