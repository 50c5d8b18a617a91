/- A part. Conditions: none. -/
import Derived.Test.YtboiakcocelkmaaGreatDoorT40
set_option linter.all false
namespace Go.Proofs.Cz
open Go.RowKit
variable {A w:World}
theorem eW {t:TypeId} {cs:Array Value} (h:w.alloc (.cells cs t)=A):aX A w.heap.size t cs:=by rw[<-h];exact aX.new _ _ _
theorem cZ {o:Obj} (h:w.alloc o=A):ac [] w A:=by rw[<-h];exact ac.alloc _ _ _
end Go.Proofs.Cz
