/- A part of the proof that BuildWhy returns true. Conditions: none. -/
import Derived.Test.YthmokljbbkcjdaaGreatDoorT41
set_option linter.unusedVariables false
set_option linter.unusedSimpArgs false
section
namespace Go.Par
def rowsOf (w:World):Pi:=fun r r'=>r=r'∧∃c e fz,w.heap[r]?=some (.cells c e fz)
open Classical in
theorem junk_of {S:Nat→Bool} (hJ:S JK=true) (p:Pi):∀(n:Nat) (v':Value),SizeOf.sizeOf v'<n→∃v,VR S p v v'∧(VR S p v' v'→v=v'):=by
 intro n
 induction n with
 |zero=>intro v' h;omega
 |succ n ih=>
  intro v' hn
  by_cases hs:VR S p v' v'
  ·exact⟨v',hs,fun _=>rfl⟩
  have hall:∀xs:Array Value,SizeOf.sizeOf xs<n→∃ys:Array Value,AR S p ys xs:=by
   intro xs hx
   have hm:∀x∈xs,∃v,VR S p v x:=fun x hxm=>by
    have:=Array.sizeOf_lt_of_mem hxm
    obtain⟨v,h,_⟩:=ih x (by omega)
    exact⟨v,h⟩
   let g:Value→Value:=fun x=>if h:∃v,VR S p v x then h.choose else x
   refine⟨xs.map g,by simp,fun i a b ha hb=>?_⟩
   rw[Array.getElem?_map,hb]at ha
   simp only[Option.map_some,Option.some.injEq]at ha
   subst ha
   have h:=hm b (Array.mem_of_getElem? hb)
   show VR S p (if h:∃v,VR S p v b then h.choose else b) b
   rw[dif_pos h]
   exact h.choose_spec
  cases hj:junkV v' with
  |true=>exact⟨.tuple #[],.junk hJ hj,fun h=>absurd h hs⟩
  |false=>
   cases v' with
   |bool b=>exact absurd (.bool b) hs
   |int k n=>exact absurd (.int k n) hs
   |string s=>exact absurd (.string s) hs
   |chan c=>exact absurd (.chan c) hs
   |nilFunc=>exact absurd .nilFunc hs
   |nilIface=>exact absurd .nilIface hs
   |pointer a=>cases a with
    |none=>exact absurd .ptr0 hs
    |some a=>cases hj
   |slice a l c=>cases a with
    |none=>exact absurd (.slice0 l c) hs
    |some a=>cases hj
   |map a=>cases a with
    |none=>exact absurd .map0 hs
    |some a=>cases hj
   |func f xs ys=>cases f with
    |method n=>exact⟨MF,.mfun hJ n xs ys,fun h=>absurd h hs⟩
    |_=>cases hj
   |agg xs=>
    obtain⟨ys,hy⟩:=hall xs (by simp only[Value.agg.sizeOf_spec]at hn;omega)
    exact⟨_,hy.agg,fun h=>absurd h hs⟩
   |tuple xs=>
    obtain⟨ys,hy⟩:=hall xs (by simp only[Value.tuple.sizeOf_spec]at hn;omega)
    exact⟨_,hy.tuple,fun h=>absurd h hs⟩
   |_=>cases hj
open Classical in
noncomputable def dz (S:Nat→Bool) (p:Pi) (v':Value):Value:=if h:∃v,VR S p v v'∧(VR S p v' v'→v=v')then h.choose else v'
theorem dz_spec {S:Nat→Bool} (hJ:S JK=true) (p:Pi) (v':Value):VR S p (dz S p v') v'∧(VR S p v' v'→dz S p v'=v'):=by
 have h:=junk_of hJ p (SizeOf.sizeOf v'+1) v' (by omega)
 unfold dz
 rw[dif_pos h]
 exact h.choose_spec
noncomputable def sanO (S:Nat→Bool) (p:Pi):Obj→Obj
 |.cells c e _=>.cells (c.map (dz S p)) e (0,c.size)
 |o=>o
noncomputable def san (S:Nat→Bool) (w:World):World:={w with heap:=w.heap.map (sanO S (rowsOf w))}
section
variable {P:Program} {S:Nat→Bool} {w:World}
theorem san_size:(san S w).heap.size=w.heap.size:=by show(w.heap.map _).size=_;simp
theorem san_row {r:Nat} {c:Array Value} {e:TypeId} {fz:Nat×Nat} (h:w.heap[r]?=some (.cells c e fz)):(san S w).heap[r]?=some (.cells (c.map (dz S (rowsOf w))) e (0,c.size)):=by
 show(w.heap.map _)[r]?=_
 rw[Array.getElem?_map,h]
 rfl
theorem san_wr (hJ:S JK=true) (hg:P.globals.size≤w.heap.size):WR P S (KS P S) w.heap.size (rowsOf w) (san S w) w:=by
 refine⟨fun r r' s s' x y=>by rw[←x.1,←y.1],fun r r' x=>?_,by rw[san_size];exact Nat.le_refl _,fun r r' x=>by rw[x.1],by rw[san_size];exact hg,hg⟩
 obtain⟨rfl,c,e,fz,h⟩:=x
 refine⟨_,_,san_row h,h,.inl ⟨(Array.getElem?_eq_some_iff.1 h).1,c.map (dz S (rowsOf w)),c,e,fz,by simp,rfl,by simp,fun i a b ha hb=>?_⟩⟩
 rw[Array.getElem?_map,hb]at ha
 simp only[Option.map_some,Option.some.injEq]at ha
 subst ha
 exact(dz_spec hJ _ b).1
theorem san_cell (hJ:S JK=true) {a:Addr} {v:Value} (h:w.cell? a=some v) (hv:VR S (rowsOf w) v v):(san S w).cell? a=some v:=by
 unfold World.cell? at h⊢
 split at h
 ·rename_i c e fz hx
  rw[san_row hx]
  simp only
  split at h
  ·cases h
  ·rename_i hsp
   rw[if_neg hsp,Array.getElem?_map,h]
   simp only[Option.map_some,Option.some.injEq]
   exact(dz_spec hJ _ v).2 hv
 ·cases h
end
end Go.Par
end
