/- A part. Conditions: none. -/
import Derived.Test.YtboiakcocelkmaaGreatDoorT41
import Derived.Lib.SlicesCompact
set_option linter.all false
namespace Go.Proofs.Cz
open Go.RowKit
def Hg (L:List (Nat->Int)) (i:Nat) (c:Int):List (Nat->Int):=L.filter fun y=>decide (y i=c)
end Go.Proofs.Cz
namespace Go.Proofs.Cz
open Go.RowKit Go.Shelf
variable {l:List Int}
theorem iS:∀(n:Nat),n<=l.length->∀j,j<n->l.toArray[j]!∈Lib.compactUpTo l.toArray n
 |0,_,j,h=>by omega
 |n+1,hn,j,h=>by
  rw[Lib.compactUpTo_succ,List.mem_append];by_cases e:j<n
  .exact .inl (iS n (by omega) j e)
  .obtain rfl:j=n:=by omega
   by_cases hk:Lib.keeps l.toArray j=true
   .right;rw[if_pos hk];simp
   .left;have h1:¬(j=0\/l.toArray[j]!≠l.toArray[j-1]!):=by simpa [Lib.keeps]using hk
    have h2:l.toArray[j]! =l.toArray[j-1]!:=Classical.byContradiction fun h=>h1 (.inr h);have h3:j≠0:=fun h=>h1 (.inl h);rw[h2];exact iS j (by omega) (j-1) (by omega)
theorem yK {x:Int}:x∈Lib.compact l↔x∈l:=by
 constructor
 .intro h;unfold Lib.compact Lib.compactUpTo at h;obtain⟨j,hj,rfl⟩:=List.mem_map.1 h;have od:=List.mem_range.1 (List.mem_filter.1 hj).1;simp[od]
 .intro h;obtain⟨j,hj,rfl⟩:=List.getElem_of_mem h;have:=iS l.length (Nat.le_refl _) j hj;simp[hj]at this;exact this
theorem yL {L:List (Nat->Int)} {i:Nat} {c:Int}:c∈nE L i↔Hg L i c≠ []:=by
 unfold nE;rw[yK];unfold ik;rw[List.mem_mergeSort,List.mem_map];unfold Hg;constructor
 .rintro⟨t,ht,e⟩ h;have:=List.filter_eq_nil_iff.1 h t ht;simp[e]at this
 .intro h;obtain⟨t,ht⟩:=List.exists_mem_of_ne_nil _ h;have:=List.mem_filter.1 ht;exact⟨t,this.1,by simpa using this.2⟩
end Go.Proofs.Cz
namespace Go.Proofs.Cz
open Go.RowKit
variable {W:World} {g n t:Nat}
def Sz (W:World) (g t n:Nat):Prop:=∃cs:Array Value,aX W g t cs/\cs.size=n
theorem Sz.cv {i:Nat} (h:Sz W g t n) (hi:i<n):W.cell? ⟨g,i,none⟩=some (cv W g i):=by
 obtain⟨cs,h,rfl⟩:=h;exact SL (h.cell i (Array.getElem?_eq_getElem hi))
theorem Sz.bV (h:Sz W g t n) (i:Nat):W.frozen? ⟨g,i,none⟩=false:=by
 obtain⟨cs,h,_⟩:=h;exact h.bV i
theorem Sz.set (h:Sz W g t n) (a:Addr) (ha:a.spot=none) (v:Value):Sz (W.setCell a v) g t n:=by
 obtain⟨cs,h,hs⟩:=h;obtain⟨ab,ao,asp⟩:=a;obtain rfl:asp=none:=ha;by_cases e:ab=g
 .subst e;exact⟨_,h.set ao v,by simpa using hs⟩
 .exact⟨cs,(ac.set (O:=[ab]) W (by simp) v).box h (by simp;exact fun h=>e h.symm),hs⟩
def Core (A W:World) (g4 g5:Nat):Prop:=ac [g4,g5] A W/\Sz W g4 66 5/\Sz W g5 86 4
theorem Core.set {A:World} {g4 g5:Nat} (h:Core A W g4 g5) (a:Addr) (ha:a.spot=none) (hb:a.block∈ [g4,g5]) (v:Value):Core A (W.setCell a v) g4 g5:=
 ⟨h.1.trans' (ac.set W hb v),h.2.1.set a ha v,h.2.2.set a ha v⟩
theorem kN {fn:Func} {p q u:Tmp} {ty ty':TypeId} (h:fn.results=#[.cell p ty,.cell q ty',.tmp u]) (tmps:Array Value) (P:Program) (w:World):
 (results fn tmps).run P w=
   ((asAddr (tmps.getD p undef)).run P w).andThen fun a w₁=>((loadVar ty a).run P w₁).andThen fun v w₂=>((asAddr (tmps.getD q undef)).run P w₂).andThen fun a' w₃=>((loadVar ty' a').run P w₃).andThen fun v' w₄=>.ok (.tuple #[v,v',tmps.getD u undef]) w₄:=by
 simp only[results,h];simp[Sem.run_bind,Result.andThen]
theorem vU {b:an} {l:List Int} (hv:Valid b) (h:eC b l):∀i,i<b.places.toNat->0<=ak l i/\ak l i<b.parts.length:=fun i hi=>by
 have hl:=h.len;have e:l[i]?=some (l[i]'(by omega)):=List.getElem?_eq_getElem (by omega);have h1:=h.range i _ (by omega) e;unfold ak;rw[e];simp only[Option.getD_some];omega
end Go.Proofs.Cz
namespace Go.Proofs.Cz
open Go.RowKit Go.Shelf
theorem jJ {l:List Int} {j:Nat} (h:j<l.length):l.toArray[j]! =l[j]:=by simp[h]
theorem lK {l:List Int} (hs:l.Pairwise (·<=·)):∀n:Nat,n<=l.length->(Lib.compactUpTo l.toArray n).Pairwise (·<·)/\∀x∈Lib.compactUpTo l.toArray n,∃j,∃h:j<l.length,j<n/\l[j]=x
 |0,_=>by simp[Lib.compactUpTo]
 |n+1,hn=>by
  obtain⟨h1,h2⟩:=lK hs n (by omega);have UE:n<l.length:=by omega
  rw[Lib.compactUpTo_succ];by_cases hk:Lib.keeps l.toArray n=true
  .rw[if_pos hk,jJ UE];refine⟨List.pairwise_append.2 ⟨h1,List.pairwise_singleton _ _,fun x hx y hy=>?_⟩,fun x hx=>?_⟩
   .obtain rfl:=List.mem_singleton.1 hy;obtain⟨j,hj,hjn,rfl⟩:=h2 x hx
    have qQ:l[n-1]'(by omega)≠l[n]:=by
     have:=(by simpa [Lib.keeps]using hk:n=0\/l.toArray[n]!≠l.toArray[n-1]!)
     rcases this with h|h
     .omega
     .rw[jJ UE,jJ (show n-1<l.length by omega)]at h;exact fun e=>h e.symm
    have ha:l[n-1]'(by omega)<=l[n]:=List.pairwise_iff_getElem.1 hs (n-1) n (by omega) UE (by omega)
    have hb:l[j]<=l[n-1]'(by omega):=by
     by_cases e:j=n-1
     .subst e;exact Int.le_refl _
     .exact List.pairwise_iff_getElem.1 hs j (n-1) hj (by omega) (by omega)
    omega
   .rcases List.mem_append.1 hx with h|h
    .obtain⟨j,hj,hjn,e⟩:=h2 x h;exact⟨j,hj,by omega,e⟩
    .exact⟨n,UE,by omega,(List.mem_singleton.1 h).symm⟩
  .rw[if_neg hk,List.append_nil];exact⟨h1,fun x hx=>let⟨j,hj,hjn,e⟩:=h2 x hx;⟨j,hj,by omega,e⟩⟩
theorem DZ (l:List Int):(ik l).Pairwise (·<=·):=by
 unfold ik;have h:=List.pairwise_mergeSort (le:=fun x y:Int=>decide (x<=y)) (fun a b c h1 h2=>by simp at*;omega) (fun a b=>by simp;omega) l;exact h.imp fun h=>by simpa using h
theorem yM (L:List (Nat->Int)) (i:Nat):(nE L i).Pairwise (·<·):=(lK (DZ _) _ (Nat.le_refl _)).1
theorem Cp:∀{l m:List Int},l.Pairwise (·<·)->m.Pairwise (·<·)->(∀x,x∈l↔x∈m)->l=m
 | [],[],_,_,_=>rfl
 | [],y::m,_,_,h=>absurd ((h y).2 List.mem_cons_self) (by simp)
 |x::l,[],_,_,h=>absurd ((h x).1 List.mem_cons_self) (by simp)
 |x::l,y::m,h1,h2,h=>by
  have a:=List.pairwise_cons.1 h1;have b:=List.pairwise_cons.1 h2
  have e:x=y:=by
   rcases List.mem_cons.1 ((h x).1 List.mem_cons_self)with e|e
   .exact e
   .rcases List.mem_cons.1 ((h y).2 List.mem_cons_self)with e2|e2
    .exact e2.symm
    .have:=b.1 x e;have:=a.1 y e2;omega
  subst e;rw[Cp a.2 b.2 fun z=>?_];constructor
  .intro hz;rcases List.mem_cons.1 ((h z).1 (List.mem_cons_of_mem _ hz))with e|e
   .have:=a.1 z hz;omega
   .exact e
  .intro hz;rcases List.mem_cons.1 ((h z).2 (List.mem_cons_of_mem _ hz))with e|e
   .have:=b.1 z hz;omega
   .exact e
end Go.Proofs.Cz
namespace Go.Proofs.Cz
open Go.RowKit
end Go.Proofs.Cz
namespace Go.Proofs.Cz
variable {k:Nat} {l r:List Int} {x:Int}
def cM (l r:List Int):Prop:=r.Pairwise (·<·)/\∀y,y∈r↔y∈l
theorem cM.nil:cM [] []:=⟨List.Pairwise.nil,fun y=>Iff.rfl⟩
theorem cM.eq {r':List Int} (h:cM l r) (h':cM l r'):r=r':=Cp h.1 h'.1 fun y=>(h.2 y).trans (h'.2 y).symm
theorem nF (h:r.Pairwise (·<·)) {i j:Nat} {y:Int} (hi:r[i]?=some x) (hj:r[j]?=some y) (oS:i<j):x<y:=by
 obtain⟨h1,rfl⟩:=List.getElem?_eq_some_iff.1 hi;obtain⟨h2,rfl⟩:=List.getElem?_eq_some_iff.1 hj;exact List.pairwise_iff_getElem.1 h i j h1 h2 oS
theorem cM.skip (h:cM l r) (hk:r[k]?=some x):cM (l++[x]) r:=by
 refine⟨h.1,fun y=>(h.2 y).trans ⟨fun hy=>List.mem_append.2 (.inl hy),fun hy=>?_⟩⟩;rcases List.mem_append.1 hy with hy|hy
 .exact hy
 .obtain rfl:=List.mem_singleton.1 hy;exact(h.2 _).1 (List.mem_of_getElem? hk)
theorem cM.put (h:cM l r) (hk:k<=r.length) (h1:∀y,0<k->r[k-1]?=some y->y<x) (h2:∀y,r[k]?=some y->x<y):cM (l++[x]) (r.take k++[x]++r.drop k):=by
 have ha:∀y∈r.take k,y<x:=fun y hy=>by
  obtain⟨j,hj,e⟩:=List.getElem_of_mem hy;have sJ:j<k:=by have:=List.length_take_le k r;omega
  have e2:r[j]?=some y:=by rw[<-e,List.getElem_take];exact List.getElem?_eq_getElem (by omega)
  have e3:r[k-1]?=some (r[k-1]'(by omega)):=List.getElem?_eq_getElem (by omega);have h3:=h1 _ (by omega) e3;by_cases Yz:j=k-1
  .subst Yz;have:=Option.some.inj (e3.symm.trans e2);omega
  .have:=nF h.1 e2 e3 (by omega);omega
 have hb:∀y∈r.drop k,x<y:=fun y hy=>by
  obtain⟨j,hj,e⟩:=List.getElem_of_mem hy;have od:j<r.length-k:=by simpa using hj
  have e2:r[k+j]?=some y:=by rw[<-e,List.getElem_drop];exact List.getElem?_eq_getElem (by omega)
  have e3:r[k]?=some (r[k]'(by omega)):=List.getElem?_eq_getElem (by omega);have h3:=h2 _ e3;by_cases h0:j=0
  .subst h0;rw[Nat.add_zero]at e2;have:=Option.some.inj (e3.symm.trans e2);omega
  .have:=nF h.1 e3 e2 (by omega);omega
 have hr:r.take k++r.drop k=r:=List.take_append_drop k r;have hp:=h.1;rw[<-hr]at hp;obtain⟨p1,p2,p3⟩:=List.pairwise_append.1 hp;refine⟨?_,fun y=>?_⟩
 .rw[List.append_assoc];refine List.pairwise_append.2 ⟨p1,List.pairwise_append.2 ⟨List.pairwise_singleton _ _,p2,fun a UF b vB=>?_⟩,fun a UF b vB=>?_⟩
  .obtain rfl:=List.mem_singleton.1 UF;exact hb b vB
  .rcases List.mem_append.1 vB with vB|vB
   .obtain rfl:=List.mem_singleton.1 vB;exact ha a UF
   .exact p3 a UF b vB
 .have e:=h.2 y;rw[<-hr]at e;simp only[List.mem_append,List.mem_singleton]at e⊢;constructor
  .rintro((h|h)|h)
   .exact .inl (e.1 (.inl h))
   .exact .inr h
   .exact .inl (e.1 (.inr h))
  .rintro(h|h)
   .rcases e.2 h with h|h
    .exact .inl (.inl h)
    .exact .inr h
   .exact .inl (.inr h)
end Go.Proofs.Cz
