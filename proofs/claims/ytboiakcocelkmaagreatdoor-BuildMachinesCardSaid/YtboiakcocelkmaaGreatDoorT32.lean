/- A part. Conditions: none. -/
import Derived.Test.YtboiakcocelkmaaGreatDoorT31
import Derived.Laws.ResultCell
set_option linter.all false
namespace Go.Proofs.Cz
open Go.RowKit
variable {g:Nat} {v:Value} {w:World}
def bare (l:List Part) (i:Nat):List Part:=match l[i]? with|some x=>l.set i {x with fits:=[]}|none=>l
theorem aB.dV {b:an} (h:aB w v b):∃a2 c2 a3 c3 a4 c4,v=.agg #[.int .i64 b.ap,.int .i64 b.places,.slice a2 b.parts.length c2,.slice a3 b.apart.length c3,.slice a4 b.aa.length c4]:=by
 obtain⟨v2,v3,v4,rfl,⟨a2,c2,⟨rfl,_,_,_,_⟩,_⟩,⟨a3,c3,⟨rfl,_,_,_,_⟩,_⟩,⟨a4,c4,⟨rfl,_,_,_,_⟩,_⟩⟩:=h;exact⟨a2,c2,a3,c3,a4,c4,rfl⟩
theorem aX.same {t:TypeId} {cs:Array Value} {i:Nat} (h:aX w g t cs) (hv:cs[i]?=some v):w.setCell ⟨g,i,none⟩ v=w:=by
 have e:(w.setCell ⟨g,i,none⟩ v).heap=w.heap:=by
  refine Array.ext_getElem? fun k=>?_;by_cases hk:k=g
  .subst hk;have h1:_=_:=h.set i v
   have h2:cs.setIfInBounds i v=cs:=by
    refine Array.ext_getElem? fun j=>?_;by_cases hj:i=j
    .subst hj;obtain⟨az,hx⟩:=Array.getElem?_eq_some_iff.1 hv;rw[Array.getElem?_setIfInBounds_self_of_lt az,hv]
    .rw[Array.getElem?_setIfInBounds_ne hj]
   rw[h2]at h1;exact h1.trans h.symm
  .exact Below.heap_setCell _ _ _ _ hk
 show({w with heap:=(w.setCell ⟨g,i,none⟩ v).heap}:World)=w;rw[e]
def dd (N:Nat) (m:Nat->Int):List Int:=(List.range N).map m
theorem yy {N:Nat} {m:Nat->Int} (hN:N<=4) (h:aX w g 86 (dC m)):ae w (.slice (some ⟨g,0,none⟩) N 4) (dd N m):=by
 have hl:(dd N m).length=N:=by simp[dd]
 refine⟨_,4,⟨by rw[hl],by rw[hl];exact hN,by unfold maxLen;omega,(fun h=>by cases h),fun b e=>.inr ⟨dC m,86,(0,0),by cases e;exact h⟩⟩,fun b e j x hj=>?_⟩;cases e;have od:j<N:=by have:=(List.getElem?_eq_some_iff.1 hj).1;rwa [hl]at this
 have hx:x=m j:=by
  unfold dd at hj;rw[List.getElem?_map,List.getElem?_range od]at hj;simpa using hj.symm
 subst hx;refine⟨rfl,?_⟩;show w.cell? ⟨g,0+j,none⟩=_;rw[Nat.zero_add];exact h.cell j (jG (by omega) m)
theorem nB {B s n:Nat} {e:TypeId} {xs:List Value} (h:w.ownsRow B e s v n xs) (hn:0<n):∃g cap,v=.slice (some ⟨g,0,none⟩) n cap/\B<=g/\g<w.heap.size/\cap<=maxLen/\n<=cap:=by
 obtain⟨_,⟨_,h0⟩|⟨g,cap,cur,rfl,hb,hg,hle,qA,_⟩⟩:=h
 .omega
 .exact⟨g,cap,rfl,hb,(Array.getElem?_eq_some_iff.1 hg).1,qA,hle⟩
end Go.Proofs.Cz
