/- A part. Conditions: none. -/
import Derived.Test.YtddlcmejelobdaaGreatDoorT44
set_option linter.all false
namespace Go.Proofs.Cz
open Go.RowKit
noncomputable def mC (b:ai):Nat:=if bt b=0 then(Aj b).length else 0
end Go.Proofs.Cz

namespace Go.Proofs.Cz
open Go.RowKit
noncomputable def sV (b:ai) (m:List Int):Int:=if a9 b (aJ b m)=0 then iM b (aP b (aB b)) (aj m)else 0
section
variable {w W X:World} {b:ai} {g2 k2 k3 k4 g4 d2 d4:Nat} {p3 p4:Option Addr} {L2:List (Part × Value)} {L4:List (fK × Value)}
end
end Go.Proofs.Cz
