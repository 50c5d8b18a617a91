/- A part. Conditions: none. -/
import Derived.Test.YtboiakcocelkmaaGreatDoorT40
set_option linter.all false
namespace Go.Proofs.Cz
open Go.RowKit
variable {A w:World} {o:Obj}
theorem cz {t:TypeId} {cs:Array Value} (h:w.alloc (.cells cs t)=A):aF A w.heap.size t cs:=by rw[<-h];exact aF.new _ _ _
theorem bh (h:w.alloc o=A):ac [] w A:=by rw[<-h];exact ac.alloc _ _ _
theorem rh (h:w.alloc o=A):A.heap.size=w.heap.size+1:=by rw[<-h];simp
end Go.Proofs.Cz
