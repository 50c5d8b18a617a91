/- A part. Conditions: none. -/
import Derived.Test.YthmokljbbkcjdaaGreatDoorT29
import Derived.RangeFuncNested
import Derived.RangeFuncBound
import Derived.RangeFuncCalls
import Derived.RangeFuncLeaves
import Derived.Shelf.Abstract
import Derived.Shelf.RegionOpen
import Derived.OwnWalkIn
import Derived.TacticsInMore
import Derived.LoopNIn
import Derived.LoopIn
set_option linter.all false
namespace Go.Proofs.Cz
open Go.RowKit
variable {p:Nat}
attribute [local go_sem] Oper.semAt_some
def upd (m:Nat->Int) (p:Nat) (k:Int):Nat->Int:=fun i=>if i=p then k else m i
theorem fw (m:Nat->Int) (p:Nat) (k:Int):upd m p k p=k:=by simp[upd]
theorem du (m:Nat->Int) {i:Nat} (k:Int) (h:i≠p):upd m p k i=m i:=by simp[upd,h]
def rm (m:Nat->Int):Array Value:=#[.int .i64 (m 0),.int .i64 (m 1),.int .i64 (m 2),.int .i64 (m 3)]
theorem Rj (hp:p<4) (m:Nat->Int) (k:Int):(rm m).setIfInBounds p (.int .i64 k)=rm (upd m p k):=by
 match p,hp with
 |0,_=>simp[rm,upd]
 |1,_=>simp[rm,upd]
 |2,_=>simp[rm,upd]
 |3,_=>simp[rm,upd]
theorem Hf (hp:p<4) (m:Nat->Int):(rm m)[p]?=some (.int .i64 (m p)):=by
 match p,hp with
 |0,_=>rfl
 |1,_=>rfl
 |2,_=>rfl
 |3,_=>rfl
abbrev ptr (g:Nat):Value:=.pointer (some ⟨g,0,none⟩)
theorem aj.lj {O:List Nat} {W W':World} (h:aj O W W') (o:Obj):aj O W (W'.alloc o):=h.trans (aj.alloc [] W' o) (fun _ h=>by cases h)
end Go.Proofs.Cz
