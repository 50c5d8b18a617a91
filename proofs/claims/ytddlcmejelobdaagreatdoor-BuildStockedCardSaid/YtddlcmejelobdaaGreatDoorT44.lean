/- A part. Conditions: none. -/
import Derived.Test.YtddlcmejelobdaaGreatDoorT43
import Derived.Lib.SlicesCompact
set_option linter.all false
namespace Go.Proofs.Cz
open Go.RowKit
end Go.Proofs.Cz
namespace Go.Proofs.Cz
open Go.RowKit Go.Shelf
end Go.Proofs.Cz
namespace Go.Proofs.Cz
open Go.RowKit
variable {L:List (Nat->Int)} {b:ai} {m:Nat->Int}
theorem Ag (h:m∈cr b L):m∈aM b:=(List.mem_filter.1 h).1
theorem Ah {o:List Int} {N:Nat} (h:o.length=N):sN N (aj o)=o:=by
 apply List.ext_getElem?;intro i;unfold sN;rw[List.getElem?_map];by_cases hi:i<N
 .have e:o[i]?=some (o[i]'(by omega)):=List.getElem?_eq_getElem (by omega);rw[List.getElem?_range hi];simp only[Option.map_some,aj];rw[e];rfl
 .rw[List.getElem?_eq_none (by simp;omega),List.getElem?_eq_none (by omega)];rfl
theorem oF (h:m∈aM b):sN b.places.toNat m∈aU b b.places.toNat/\aj (sN b.places.toNat m)=m:=by
 rw[iL]at h;obtain⟨o,ho,rfl⟩:=List.mem_map.1 h;rw[Ah (gq ho).1];exact⟨ho,rfl⟩
theorem JZ (hv:Valid b) {o:Nat->Int} (ho:o∈aM b) (hm:m∈aM b) (h:gR o m):o=m:=by
 obtain⟨h1,e1⟩:=oF ho;obtain⟨h2,e2⟩:=oF hm;have hp:=hv.places;rw[<-e1,<-e2];congr 1;unfold sN;refine List.map_congr_left fun i hi=>?_;have SJ:i<4:=by have:=List.mem_range.1 hi;omega
 obtain⟨a,b,c,d⟩:=h;match i,SJ with
 |0,_=>exact a
 |1,_=>exact b
 |2,_=>exact c
 |3,_=>exact d
theorem J0 (hm:m∈aM b):m∈cr b L↔qF b.places.toNat L m<=b.ao:=by
 unfold cr;rw[List.mem_filter];simp[hm]
theorem Gp (hv:Valid b) (hm:m∈aM b):(∃o∈cr b L,gR o m)↔qF b.places.toNat L m<=b.ao:=by
 rw[<-J0 hm];refine⟨fun⟨o,ho,h⟩=>?_,fun h=>⟨m,h,rfl,rfl,rfl,rfl⟩⟩;rw[<-JZ hv (Ag ho) hm h];exact ho
end Go.Proofs.Cz
namespace Go.Proofs.Cz
open Go.RowKit Go.Shelf
end Go.Proofs.Cz
namespace Go.Proofs.Cz
open Go.RowKit
def En (b:ai) (i:Nat) (o:List Int):List (List Int):=match b.parts[i]? with
 |some x=>(span x.lo (x.hi+1-x.lo).toNat).map fun n=>o++[n]
 |none=>[]
def CV (b:ai):Nat->List (List Int)
 |0=>[[]]
 |i+1=>(CV b i).flatMap (En b i)
def qG (b:ai):Nat->Nat->List (List Int)->List (List Int)
 |0,_,L=>L
 |n+1,p,L=>qG b n (p+1) (L.flatMap (En b p))
theorem pC (b:ai):∀(n p:Nat) (L:List (List Int)),qG b n p L=L.flatMap fun o=>qG b n p [o]
 |0,p,L=>by simp[qG]
 |n+1,p,L=>by
  simp only[qG];rw[pC b n (p+1),List.flatMap_assoc];congr 1;funext o;rw[pC b n (p+1) ([o].flatMap _)];simp
theorem vt (b:ai):∀(n p:Nat) (L:List (List Int)),qG b (n+1) p L=(qG b n p L).flatMap (En b (p+n))
 |0,p,L=>rfl
 |n+1,p,L=>by
  rw[qG,vt b n (p+1)];rw[show p+1+n=p+(n+1) by omega];rfl
theorem sS (b:ai):∀n,CV b n=qG b n 0 [[]]
 |0=>rfl
 |n+1=>by rw[vt,<-sS b n,Nat.zero_add];rfl
theorem Ai {b:ai} (ag:(Nat->Int)->Bool):∀(n p:Nat) (o:List Int),o.length=p->p+n=b.parts.length->db ag b.parts n p (aj o)=((qG b n p [o]).map aj).filter ag
 |0,p,o,_,_=>by
  simp only[db,qG,List.map_cons,List.map_nil,List.filter_cons,List.filter_nil]
 |n+1,p,o,ho,hN=>by
  have hx:b.parts[p]?=some (b.parts[p]'(by omega)):=List.getElem?_eq_getElem (by omega);rw[db,hx,qG,pC];simp only[List.flatMap_singleton,En,hx];rw[List.flatMap_map,List.map_flatMap,List.filter_flatMap];refine congrArg (fun g=>List.flatMap g _) (funext fun k=>?_);rw[<-jc ho k];exact Ai ag n (p+1) (o++[k]) (by simp[ho]) (by omega)
def Aj (b:ai):List (List Int):=(CV b b.parts.length).filter fun o=>aB b (aj o)
theorem sU (b:ai):aP b (aB b)=(Aj b).map aj:=by
 unfold aP Aj;rw[sS,show(fun _=>(0:Int))=aj []from rfl,Ai (aB b) b.parts.length 0 [] rfl (by omega),List.filter_map];rfl
open Classical in
noncomputable def a9 (b:ai) (own:Int):Int:=if bt b=0 then(if own=0 then(if Aj b=[]then 9 else 0)else own)else bt b
end Go.Proofs.Cz
namespace Go.Proofs.Cz
end Go.Proofs.Cz
