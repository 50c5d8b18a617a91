/- A part. Conditions: none. -/
import Derived.Test.YtboiakcocelkmaaGreatDoorT43
set_option linter.all false
namespace Go.Proofs.Cz
open Go.RowKit
theorem AT (L:List (Nat->Int)) (k:Nat):cM (L.map fun t=>t k) (nE L k):=by
 refine⟨yM L k,fun y=>?_⟩;rw[yL,List.mem_map];constructor
 .intro h;obtain⟨t,ht⟩:=List.exists_mem_of_ne_nil _ h;have h2:=List.mem_filter.1 ht;exact⟨t,h2.1,by simpa using h2.2⟩
 .rintro⟨t,ht,rfl⟩ e;have h1:t∈Hg L k (t k):=List.mem_filter.2 ⟨ht,by simp⟩;rw[e]at h1;cases h1
section
variable {w W X:World} {b:an} {g2 k2 k3 k4 g4 d2 d4:Nat} {p3 p4:Option Addr} {L2:List (Part × Value)} {L4:List (jT × Value)}
end
end Go.Proofs.Cz
