/- A part. Conditions: none. -/
import Derived.Test.YtehbindidbgacaaGreatDoorT40
set_option linter.all false
namespace Go.Proofs.Cz
open Go.RowKit
variable {A w:World} {o:Obj}
theorem gq {t:TypeId} {cs:Array Value} (h:w.alloc (.cells cs t)=A):aC A w.heap.size t cs:=by rw[<-h];exact aC.new _ _ _
theorem dV (h:w.alloc o=A):ab [] w A:=by rw[<-h];exact ab.alloc _ _ _
theorem DH (h:w.alloc o=A):A.heap.size=w.heap.size+1:=by rw[<-h];simp
abbrev VD:Array Value:=#[.int .i64 0,.int .i64 0,.slice none 0 0,.slice none 0 0,.slice none 0 0]
theorem VE {W:World} {g t:Nat} {c0 c1 c2 c3 c4:Value} (v0 v1 v2 v3 v4:Value) (h:aC W g t #[c0,c1,c2,c3,c4]):
 aC (((((W.setCell ⟨g,0,none⟩ v0).setCell ⟨g,1,none⟩ v1).setCell ⟨g,2,none⟩ v2).setCell ⟨g,3,none⟩ v3).setCell ⟨g,4,none⟩ v4) g t #[v0,v1,v2,v3,v4]/\
 ab [g] W (((((W.setCell ⟨g,0,none⟩ v0).setCell ⟨g,1,none⟩ v1).setCell ⟨g,2,none⟩ v2).setCell ⟨g,3,none⟩ v3).setCell ⟨g,4,none⟩ v4):=
 ⟨((((h.set 0 v0).set 1 v1).set 2 v2).set 3 v3).set 4 v4,
  ((((ab.set W (by simp) v0).trans' (ab.set _ (by simp) v1)).trans' (ab.set _ (by simp) v2)).trans' (ab.set _ (by simp) v3)).trans' (ab.set _ (by simp) v4)⟩
end Go.Proofs.Cz
