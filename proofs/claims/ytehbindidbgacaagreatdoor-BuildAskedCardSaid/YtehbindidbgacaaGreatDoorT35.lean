/- A part. Conditions: none. -/
import Derived.Test.YtehbindidbgacaaGreatDoorT34
import Derived.Deep.RegionHeld3
import Derived.Deep.RegionLaw
set_option linter.all false
namespace Go.Proofs.Cz
open Go.RowKit
def Good (b:aW) (bit:Nat->Bool) (p n:Nat) (f:Nat->Int):Prop:=∀q,p<=q->q<p+n->bit q=true->f q∈SI b q/\(0<q->bit (q-1)=true->¬Apart b.apart (f (q-1)) (f q))
def aY (l:List Int):Nat->Int:=fun i=>(l[i]?).getD 0
end Go.Proofs.Cz
