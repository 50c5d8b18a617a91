/- A part. Conditions: none. -/
import Derived.Test.YtehbindidbgacaaGreatDoorT29
import Derived.RangeFuncNested
import Derived.RangeFuncBound
import Derived.RangeFuncCalls
import Derived.RangeFuncLeaves
import Derived.Shelf.Abstract
import Derived.Shelf.RegionOpen
import Derived.OwnWalkIn
import Derived.TacticsInMore
import Derived.LoopNIn
import Derived.LoopIn
set_option linter.all false
namespace Go.Proofs.Cz
open Go.RowKit
variable {p:Nat}
attribute [local go_sem] Oper.semAt_some
def upd (m:Nat->Int) (p:Nat) (k:Int):Nat->Int:=fun i=>if i=p then k else m i
theorem eW (m:Nat->Int) (p:Nat) (k:Int):upd m p k p=k:=by simp[upd]
theorem df (m:Nat->Int) {i:Nat} (k:Int) (h:i≠p):upd m p k i=m i:=by simp[upd,h]
def qO (m:Nat->Int):Array Value:=#[.int .i64 (m 0),.int .i64 (m 1),.int .i64 (m 2),.int .i64 (m 3)]
theorem Pd (hp:p<4) (m:Nat->Int) (k:Int):(qO m).setIfInBounds p (.int .i64 k)=qO (upd m p k):=by
 match p,hp with
 |0,_=>simp[qO,upd]
 |1,_=>simp[qO,upd]
 |2,_=>simp[qO,upd]
 |3,_=>simp[qO,upd]
theorem FV (hp:p<4) (m:Nat->Int):(qO m)[p]?=some (.int .i64 (m p)):=by
 match p,hp with
 |0,_=>rfl
 |1,_=>rfl
 |2,_=>rfl
 |3,_=>rfl
abbrev ptr (g:Nat):Value:=.pointer (some ⟨g,0,none⟩)
theorem ak.oY {O:List Nat} {W W':World} (h:ak O W W') (o:Obj):ak O W (W'.alloc o):=h.trans (ak.alloc [] W' o) (fun _ h=>by cases h)
end Go.Proofs.Cz
