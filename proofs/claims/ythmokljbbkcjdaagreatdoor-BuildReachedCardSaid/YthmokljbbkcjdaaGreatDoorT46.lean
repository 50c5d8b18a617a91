/- A part. Conditions: none. -/
import Derived.Test.YthmokljbbkcjdaaGreatDoorT43
set_option linter.all false
set_option maxRecDepth 100000
namespace Go.Proofs.Cz
open Go.RowKit
theorem rG (w:World):Calls ZP 10 #[] w (eX w (.bool true)):=by
 go_enter ZF10,Tz.ntmps10
 unfold Tz.stub;go_wp2
 go_ret;exact⟨rfl,Below.refl _ _⟩
def sumTo (f:Int->Nat) (l:List Int) (n:Nat):Nat:=((l.take n).map f).sum
theorem sumTo_le (f:Int->Nat) (l:List Int) (n:Nat):sumTo f l n<=(l.map f).sum:=by
 have h:l.map f=(l.take n).map f++(l.drop n).map f:=by rw[<-List.map_append,List.take_append_drop]
 rw[h,List.sum_append];exact Nat.le_add_right _ _
end Go.Proofs.Cz
namespace Go.Proofs.Cz
open Go.RowKit Go.Shelf
variable {L:List (Nat->Int)} {c:Int} {i:Nat} {l:List Int}
theorem ip:∀(n:Nat),n<=l.length->∀j,j<n->l.toArray[j]!∈Lib.compactUpTo l.toArray n
 |0,_,j,h=>by omega
 |n+1,hn,j,h=>by
  rw[Lib.compactUpTo_succ,List.mem_append];by_cases e:j<n
  .exact .inl (ip n (by omega) j e)
  .obtain rfl:j=n:=by omega
   by_cases hk:Lib.keeps l.toArray j=true
   .right;rw[if_pos hk];simp
   .left;have h1:¬(j=0\/l.toArray[j]!≠l.toArray[j-1]!):=by simpa [Lib.keeps]using hk
    have h2:l.toArray[j]! =l.toArray[j-1]!:=Classical.byContradiction fun h=>h1 (.inr h);have h3:j≠0:=fun h=>h1 (.inl h);rw[h2];exact ip j (by omega) (j-1) (by omega)
theorem wg {x:Int}:x∈Lib.compact l↔x∈l:=by
 constructor
 .intro h;unfold Lib.compact Lib.compactUpTo at h;obtain⟨j,hj,rfl⟩:=List.mem_map.1 h;have ns:=List.mem_range.1 (List.mem_filter.1 hj).1;simp[ns]
 .intro h;obtain⟨j,hj,rfl⟩:=List.getElem_of_mem h;have:=ip l.length (Nat.le_refl _) j hj;simp[hj]at this;exact this
theorem jQ:c∈bZ L i↔dV L i c≠ []:=by
 unfold bZ;rw[wg];unfold ib;rw[List.mem_mergeSort,List.mem_map];unfold dV;constructor
 .rintro⟨t,ht,e⟩ h;have:=List.filter_eq_nil_iff.1 h t ht;simp[e]at this
 .intro h;obtain⟨t,ht⟩:=List.exists_mem_of_ne_nil _ h;have:=List.mem_filter.1 ht;exact⟨t,this.1,by simpa using this.2⟩
theorem jR (i:Nat):bZ [] i=[]:=by
 cases h:bZ [] i with
 |nil=>rfl
 |cons x l=>
  have:x∈bZ [] i:=by rw[h];exact List.mem_cons_self
  exact absurd rfl (jQ.1 this)
theorem jS (h:∀x∈l,x=c):∀n,n+1<=l.length->Lib.compactUpTo l.toArray (n+1)=[c]
 |0,hn=>by
  rw[Lib.compactUpTo_succ];have h1:l.toArray[0]! =c:=by simp[show 0<l.length by omega];exact h _ (List.getElem_mem _)
  have h2:Lib.keeps l.toArray 0=true:=by simp[Lib.keeps]
  rw[if_pos h2,h1];rfl
 |n+1,hn=>by
  rw[Lib.compactUpTo_succ,jS h n (by omega)];have h1:l.toArray[n+1]! =c:=by simp[show n+1<l.length by omega];exact h _ (List.getElem_mem _)
  have h2:l.toArray[n]! =c:=by simp[show n<l.length by omega];exact h _ (List.getElem_mem _)
  have h3:¬Lib.keeps l.toArray (n+1)=true:=by simp only[Lib.keeps,Nat.add_sub_cancel,h1,h2];simp
  rw[if_neg h3];rfl
theorem wh (hL:L≠ []) (h:∀t∈L,t i=c):bZ L i=[c]:=by
 unfold bZ Lib.compact
 have h1:∀x∈ib (L.map fun t=>t i),x=c:=fun x hx=>by
  unfold ib at hx;rw[List.mem_mergeSort,List.mem_map]at hx;obtain⟨t,ht,rfl⟩:=hx;exact h t ht
 have h2:(ib (L.map fun t=>t i)).length=L.length:=by rw[iH,List.length_map]
 have h3:=List.length_pos_iff.2 hL;obtain⟨n,hn⟩:∃n,(ib (L.map fun t=>t i)).length=n+1:=⟨L.length-1,by omega⟩
 rw[hn];exact jS h1 n (by omega)
theorem tW (h:dV L i c≠ []):bZ (dV L i c) i=[c]:=wh h fun t ht=>by
 have:=List.mem_filter.1 ht;simpa using this.2
end Go.Proofs.Cz
