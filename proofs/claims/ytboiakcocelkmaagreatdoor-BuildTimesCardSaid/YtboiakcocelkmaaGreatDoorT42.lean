/- A part. Conditions: none. -/
import Derived.Test.YtboiakcocelkmaaGreatDoorT41
import Derived.Lib.SlicesCompact
set_option linter.all false
set_option maxHeartbeats 8000000
set_option maxRecDepth 100000
namespace Go.Proofs.Cz
open Go.RowKit
def JQ (L:List (Nat->Int)) (i:Nat) (c:Int):List (Nat->Int):=L.filter fun y=>decide (y i=c)
end Go.Proofs.Cz
namespace Go.Proofs.Cz
open Go.RowKit Go.Shelf
variable {l:List Int}
theorem jp:∀(n:Nat),n<=l.length->∀j,j<n->l.toArray[j]!∈Lib.compactUpTo l.toArray n
 |0,_,j,h=>by omega
 |n+1,hn,j,h=>by
  rw[Lib.compactUpTo_succ,List.mem_append];by_cases e:j<n
  .exact .inl (jp n (by omega) j e)
  .obtain rfl:j=n:=by omega
   by_cases hk:Lib.keeps l.toArray j=true
   .right;rw[if_pos hk];simp
   .left;have h1:¬(j=0\/l.toArray[j]!≠l.toArray[j-1]!):=by simpa [Lib.keeps]using hk
    have h2:l.toArray[j]! =l.toArray[j-1]!:=Classical.byContradiction fun h=>h1 (.inr h);have h3:j≠0:=fun h=>h1 (.inl h);rw[h2];exact jp j (by omega) (j-1) (by omega)
theorem Ad {x:Int}:x∈Lib.compact l↔x∈l:=by
 constructor
 .intro h;unfold Lib.compact Lib.compactUpTo at h;obtain⟨j,hj,rfl⟩:=List.mem_map.1 h;have mG:=List.mem_range.1 (List.mem_filter.1 hj).1;simp[mG]
 .intro h;obtain⟨j,hj,rfl⟩:=List.getElem_of_mem h;have:=jp l.length (Nat.le_refl _) j hj;simp[hj]at this;exact this
theorem Ae {L:List (Nat->Int)} {i:Nat} {c:Int}:c∈lU L i↔JQ L i c≠ []:=by
 unfold lU;rw[Ad];unfold kv;rw[List.mem_mergeSort,List.mem_map];unfold JQ;constructor
 .rintro⟨t,ht,e⟩ h;have:=List.filter_eq_nil_iff.1 h t ht;simp[e]at this
 .intro h;obtain⟨t,ht⟩:=List.exists_mem_of_ne_nil _ h;have:=List.mem_filter.1 ht;exact⟨t,this.1,by simpa using this.2⟩
end Go.Proofs.Cz
namespace Go.Proofs.Cz
open Go.RowKit
variable {L:List (Nat->Int)} {N:Nat} {b:ao} {m:Nat->Int} {o:List Int}
theorem JR (h:m∈du b L):m∈aR b:=(List.mem_filter.1 h).1
theorem Af (h:o.length=N):sP N (aa o)=o:=by
 apply List.ext_getElem?;intro i;unfold sP;rw[List.getElem?_map];by_cases hi:i<N
 .have e:o[i]?=some (o[i]'(by omega)):=List.getElem?_eq_getElem (by omega);rw[List.getElem?_range hi];simp only[Option.map_some,aa];rw[e];rfl
 .rw[List.getElem?_eq_none (by simp;omega),List.getElem?_eq_none (by omega)];rfl
theorem ow (h:m∈aR b):sP b.places.toNat m∈aS b b.places.toNat/\aa (sP b.places.toNat m)=m:=by
 rw[iB]at h;obtain⟨o,ho,rfl⟩:=List.mem_map.1 h;rw[Af (iC ho).1];exact⟨ho,rfl⟩
theorem xp (h:o∈aS b b.places.toNat):aa o∈aR b:=by
 rw[iB];exact List.mem_map.2 ⟨o,h,rfl⟩
theorem JS (hv:Valid b) {o:Nat->Int} (ho:o∈aR b) (hm:m∈aR b) (h:gH o m):o=m:=by
 obtain⟨h1,e1⟩:=ow ho;obtain⟨h2,e2⟩:=ow hm;have hp:=hv.places;rw[<-e1,<-e2];congr 1;unfold sP;refine List.map_congr_left fun i hi=>?_;have RZ:i<4:=by have:=List.mem_range.1 hi;omega
 obtain⟨a,b,c,d⟩:=h;match i,RZ with
 |0,_=>exact a
 |1,_=>exact b
 |2,_=>exact c
 |3,_=>exact d
theorem JT (hm:m∈aR b):m∈du b L↔fq b.places.toNat L m<=b.ak:=by
 unfold du;rw[List.mem_filter];simp[hm]
theorem vu (hv:Valid b) (hm:m∈aR b):(∃o∈du b L,gH o m)↔fq b.places.toNat L m<=b.ak:=by
 rw[<-JT hm];refine⟨fun⟨o,ho,h⟩=>?_,fun h=>⟨m,h,rfl,rfl,rfl,rfl⟩⟩;rw[<-JS hv (JR ho) hm h];exact ho
theorem Ag {x:Int}:∀{n:Nat} {lo:Int},x∈span lo n↔lo<=x/\x<lo+n
 |0,lo=>Iff.intro (fun h=>absurd h List.not_mem_nil) (fun h=>by omega)
 |n+1,lo=>by
  rw[span,List.mem_cons,Ag (n:=n)];omega
theorem JU (m:Nat->Int) (N:Nat):∀(L:List (Nat->Int)) (t0:Nat->Int),(∀t∈t0::L,cg m N t0 L<=aB m t N/\aB m t N<=ci m N t0 L)/\(∃t∈t0::L,cg m N t0 L=aB m t N)/\∃t∈t0::L,ci m N t0 L=aB m t N:=by
 have key:∀(L:List (Nat->Int)) (a c:Int),(∀t∈L,L.foldl (fun a t=>min a (aB m t N)) a<=aB m t N/\aB m t N<=L.foldl (fun a t=>max a (aB m t N)) c)/\
  (L.foldl (fun a t=>min a (aB m t N)) a=a\/∃t∈L,L.foldl (fun a t=>min a (aB m t N)) a=aB m t N)/\(L.foldl (fun a t=>max a (aB m t N)) c=c\/∃t∈L,L.foldl (fun a t=>max a (aB m t N)) c=aB m t N)/\
  L.foldl (fun a t=>min a (aB m t N)) a<=a/\c<=L.foldl (fun a t=>max a (aB m t N)) c:=by
  intro L;induction L with
  |nil=>intro a c;exact⟨fun t h=>(List.not_mem_nil h).elim,.inl rfl,.inl rfl,Int.le_refl _,Int.le_refl _⟩
  |cons t L ih=>
   intro a c;obtain⟨h1,h2,h3,h4,h5⟩:=ih (min a (aB m t N)) (max c (aB m t N));simp only[List.foldl_cons];refine⟨fun y hy=>?_,?_,?_,by omega,by omega⟩
   .rcases List.mem_cons.1 hy with rfl|hy
    .omega
    .exact h1 y hy
   .rcases h2 with h|⟨y,hy,h⟩
    .rcases Int.le_total a (aB m t N)with e|e
     .left;omega
     .right;exact⟨t,List.mem_cons_self,by omega⟩
    .right;exact⟨y,List.mem_cons_of_mem _ hy,h⟩
   .rcases h3 with h|⟨y,hy,h⟩
    .rcases Int.le_total c (aB m t N)with e|e
     .right;exact⟨t,List.mem_cons_self,by omega⟩
     .left;omega
    .right;exact⟨y,List.mem_cons_of_mem _ hy,h⟩
 intro L t0;obtain⟨h1,h2,h3,h4,h5⟩:=key L (aB m t0 N) (aB m t0 N);refine⟨fun t ht=>?_,?_,?_⟩
 .rcases List.mem_cons.1 ht with rfl|ht
  .exact⟨h4,h5⟩
  .exact h1 t ht
 .rcases h2 with h|⟨y,hy,h⟩
  .exact⟨t0,List.mem_cons_self,h⟩
  .exact⟨y,List.mem_cons_of_mem _ hy,h⟩
 .rcases h3 with h|⟨y,hy,h⟩
  .exact⟨t0,List.mem_cons_self,h⟩
  .exact⟨y,List.mem_cons_of_mem _ hy,h⟩
theorem F7 (hL:L≠ []) (m:Nat->Int):(∀t∈L,gW N L m<=aB m t N/\aB m t N<=fq N L m)/\(∃t∈L,gW N L m=aB m t N)/\∃t∈L,fq N L m=aB m t N:=by
 cases L with
 |nil=>exact absurd rfl hL
 |cons t0 L=>exact JU m N L t0
end Go.Proofs.Cz
namespace Go.Proofs.Cz
open Go.RowKit Go.Shelf
theorem j8 {l:List Int} {j:Nat} (h:j<l.length):l.toArray[j]! =l[j]:=by simp[h]
theorem mt {l:List Int} (hs:l.Pairwise (·<=·)):∀n:Nat,n<=l.length->(Lib.compactUpTo l.toArray n).Pairwise (·<·)/\∀x∈Lib.compactUpTo l.toArray n,∃j,∃h:j<l.length,j<n/\l[j]=x
 |0,_=>by simp[Lib.compactUpTo]
 |n+1,hn=>by
  obtain⟨h1,h2⟩:=mt hs n (by omega);have Xx:n<l.length:=by omega
  rw[Lib.compactUpTo_succ];by_cases hk:Lib.keeps l.toArray n=true
  .rw[if_pos hk,j8 Xx];refine⟨List.pairwise_append.2 ⟨h1,List.pairwise_singleton _ _,fun x hx y hy=>?_⟩,fun x hx=>?_⟩
   .obtain rfl:=List.mem_singleton.1 hy;obtain⟨j,hj,hjn,rfl⟩:=h2 x hx
    have rG:l[n-1]'(by omega)≠l[n]:=by
     have:=(by simpa [Lib.keeps]using hk:n=0\/l.toArray[n]!≠l.toArray[n-1]!)
     rcases this with h|h
     .omega
     .rw[j8 Xx,j8 (show n-1<l.length by omega)]at h;exact fun e=>h e.symm
    have ha:l[n-1]'(by omega)<=l[n]:=List.pairwise_iff_getElem.1 hs (n-1) n (by omega) Xx (by omega)
    have hb:l[j]<=l[n-1]'(by omega):=by
     by_cases e:j=n-1
     .subst e;exact Int.le_refl _
     .exact List.pairwise_iff_getElem.1 hs j (n-1) hj (by omega) (by omega)
    omega
   .rcases List.mem_append.1 hx with h|h
    .obtain⟨j,hj,hjn,e⟩:=h2 x h;exact⟨j,hj,by omega,e⟩
    .exact⟨n,Xx,by omega,(List.mem_singleton.1 h).symm⟩
  .rw[if_neg hk,List.append_nil];exact⟨h1,fun x hx=>let⟨j,hj,hjn,e⟩:=h2 x hx;⟨j,hj,by omega,e⟩⟩
theorem F8 (l:List Int):(kv l).Pairwise (·<=·):=by
 unfold kv;have h:=List.pairwise_mergeSort (le:=fun x y:Int=>decide (x<=y)) (fun a b c h1 h2=>by simp at*;omega) (fun a b=>by simp;omega) l;exact h.imp fun h=>by simpa using h
theorem Ah (L:List (Nat->Int)) (i:Nat):(lU L i).Pairwise (·<·):=(mt (F8 _) _ (Nat.le_refl _)).1
theorem Eh:∀{l m:List Int},l.Pairwise (·<·)->m.Pairwise (·<·)->(∀x,x∈l↔x∈m)->l=m
 | [],[],_,_,_=>rfl
 | [],y::m,_,_,h=>absurd ((h y).2 List.mem_cons_self) (by simp)
 |x::l,[],_,_,h=>absurd ((h x).1 List.mem_cons_self) (by simp)
 |x::l,y::m,h1,h2,h=>by
  have a:=List.pairwise_cons.1 h1;have b:=List.pairwise_cons.1 h2
  have e:x=y:=by
   rcases List.mem_cons.1 ((h x).1 List.mem_cons_self)with e|e
   .exact e
   .rcases List.mem_cons.1 ((h y).2 List.mem_cons_self)with e2|e2
    .exact e2.symm
    .have:=b.1 x e;have:=a.1 y e2;omega
  subst e;rw[Eh a.2 b.2 fun z=>?_];constructor
  .intro hz;rcases List.mem_cons.1 ((h z).1 (List.mem_cons_of_mem _ hz))with e|e
   .have:=a.1 z hz;omega
   .exact e
  .intro hz;rcases List.mem_cons.1 ((h z).2 (List.mem_cons_of_mem _ hz))with e|e
   .have:=b.1 z hz;omega
   .exact e
end Go.Proofs.Cz
namespace Go.Proofs.Cz
open Go.RowKit
variable {b:ao} {k p:Nat} {o:List Int} {w:World}
def gU (b:ao) (i:Nat) (o:List Int):List (List Int):=match b.parts[i]? with
 |some x=>(span x.lo (x.hi+1-x.lo).toNat).map fun n=>o++[n]
 |none=>[]
def aX (b:ao):Nat->List (List Int)
 |0=>[[]]
 |i+1=>(aX b i).flatMap (gU b i)
def qI (b:ao):Nat->Nat->List (List Int)->List (List Int)
 |0,_,L=>L
 |n+1,p,L=>qI b n (p+1) (L.flatMap (gU b p))
theorem pB (b:ao):∀(n p:Nat) (L:List (List Int)),qI b n p L=L.flatMap fun o=>qI b n p [o]
 |0,p,L=>by simp[qI]
 |n+1,p,L=>by
  simp only[qI];rw[pB b n (p+1),List.flatMap_assoc];congr 1;funext o;rw[pB b n (p+1) ([o].flatMap _)];simp
theorem vv (b:ao):∀(n p:Nat) (L:List (List Int)),qI b (n+1) p L=(qI b n p L).flatMap (gU b (p+n))
 |0,p,L=>rfl
 |n+1,p,L=>by
  rw[qI,vv b n (p+1)];rw[show p+1+n=p+(n+1) by omega];rfl
theorem sX (b:ao):∀n,aX b n=qI b n 0 [[]]
 |0=>rfl
 |n+1=>by rw[vv,<-sX b n,Nat.zero_add];rfl
theorem Ai (ag:(Nat->Int)->Bool):∀(n p:Nat) (o:List Int),o.length=p->p+n=b.parts.length->dw ag b.parts n p (aa o)=((qI b n p [o]).map aa).filter ag
 |0,p,o,_,_=>by
  simp only[dw,qI,List.map_cons,List.map_nil,List.filter_cons,List.filter_nil]
 |n+1,p,o,ho,hN=>by
  have hx:b.parts[p]?=some (b.parts[p]'(by omega)):=List.getElem?_eq_getElem (by omega);rw[dw,hx,qI,pB];simp only[List.flatMap_singleton,gU,hx];rw[List.flatMap_map,List.map_flatMap,List.filter_flatMap];refine congrArg (fun g=>List.flatMap g _) (funext fun k=>?_);rw[<-i9 ho k];exact Ai ag n (p+1) (o++[k]) (by simp[ho]) (by omega)
def cw (b:ao):List (List Int):=(aX b b.parts.length).filter fun o=>aq b (aa o)
theorem ff (b:ao):aM b (aq b)=(cw b).map aa:=by
 unfold aM cw;rw[sX,show(fun _=>(0:Int))=aa []from rfl,Ai (aq b) b.parts.length 0 [] rfl (by omega),List.filter_map];rfl
theorem j9 {b:ao}:∀{p:Nat} {o:List Int},p<=b.parts.length->o∈aX b p->o.length=p/\∀(i:Nat) (x:Part) (y:Int),b.parts[i]?=some x->o[i]?=some y->x.lo<=y/\y<=x.hi
 |0,o,_,h=>by
  simp[aX]at h;subst h;exact⟨rfl,fun i x y _ h=>by simp at h⟩
 |p+1,o,hp,h=>by
  simp only[aX,List.mem_flatMap]at h;obtain⟨o',Gu,h⟩:=h;obtain⟨h1,h2⟩:=j9 (by omega) Gu;have hx:b.parts[p]?=some (b.parts[p]'(by omega)):=List.getElem?_eq_getElem (by omega);simp only[gU,hx,List.mem_map]at h;obtain⟨k,hk,rfl⟩:=h;refine⟨by simp[h1],fun i x y hi hy=>?_⟩;by_cases hip:i<p
  .rw[List.getElem?_append_left (by omega)]at hy;exact h2 i x y hi hy
  .have az:=(List.getElem?_eq_some_iff.1 hy).1;simp at az;obtain rfl:i=p:=by omega
   rw[<-h1]at hy;simp at hy;subst hy;rw[hx]at hi;cases hi;have:=Ag.1 hk;omega
theorem m6 {ops:Array Oper} {rest:List Oper} {o:Oper} {a:Act} {Q:Exit->Act->World->Prop} (Km:o.guard=none) (s x:Operand)
 (ho:o.op=.call {callee:=.builtin .append,args:=#[s,x],argTypes:=#[27,27]}) (base:Nat)
 (v:Value) (n:Nat) (xs:List Value) (hs:a.eval s=v) (bB:w.ownsRow base 3 1 v n xs) (f:Value) (l:List Int) (hx:a.eval x=f) (hf:an w f l) (hn:n+l.length<=1000) (jz:base<=w.heap.size)
 (h:∀v' w',w'.ownsRow base 3 1 v' (n+l.length) (xs++l.map (Value.int .i64))->w.grownBy w' v.ownBlock->wpList ZP ops Q rest (a.put o.dst v') w'):wpList ZP ops Q (o::rest) a w:=
 wpList_step fun K hK=>cG Km s x ho base v n xs hs bB f l hx hf hn jz fun v' w' h1 h2=>hK _ _ (h v' w' h1 h2)
def mv (x:Part) (o:List Int) (q:Nat):List (List Int):=(span x.lo q).map fun n=>o++[n]
theorem CQ (x:Part) (o:List Int) (q:Nat):mv x o (q+1)=mv x o q++[o++[x.lo+q]]:=by unfold mv;rw[jJ,List.map_append];rfl
theorem F9 (x:Part) (o:List Int) (q:Nat):(mv x o q).length=q:=by unfold mv;rw[List.length_map,od]
theorem Ga {x:Part} (hx:b.parts[p]?=some x) (o:List Int):mv x o (x.hi+1-x.lo).toNat=gU b p o:=by unfold mv gU;rw[hx]
theorem VJ (ho:(aX b p)[k]?=some o):((aX b p).take (k+1)).flatMap (gU b p)=((aX b p).take k).flatMap (gU b p)++gU b p o:=by
 rw[List.take_add_one,ho];simp
theorem JV {α:Type} {f:α->List (List Int)} (h:∀x,(f x).length<=4):∀l:List α,(l.flatMap f).length<=4*l.length
 | []=>by simp
 |x::l=>by
  have h1:=h x;have h2:=JV h l;simp only[List.flatMap_cons,List.length_append,List.length_cons];omega
theorem vw (hv:Valid b) (p:Nat) (o:List Int):(gU b p o).length<=4:=by
 unfold gU;cases hx:b.parts[p]? with
 |none=>simp
 |some x=>
  have h:=(hv.parts.all p x (List.getElem?_eq_some_iff.1 hx).1 hx).1;have h1:=h.time;have h2:=h.wide;simp only[List.length_map,od];omega
theorem m7 (hv:Valid b):∀p,(aX b p).length<=4^p
 |0=>by simp[aX]
 |p+1=>by
  have h1:=JV (vw hv p) (aX b p);have h2:=m7 hv p;show((aX b p).flatMap (gU b p)).length<=_;rw[Nat.pow_succ];omega
def cA (b:ao) (k:Nat):List (List Int):=((aX b b.parts.length).take k).filter fun o=>aq b (aa o)
theorem Aj (ho:(aX b b.parts.length)[k]?=some o) (h:aq b (aa o)=true):cA b (k+1)=cA b k++[o]:=by
 unfold cA;rw[List.take_add_one,ho,List.filter_append];simp[h]
theorem CS (ho:(aX b b.parts.length)[k]?=some o) (h:aq b (aa o)=false):cA b (k+1)=cA b k:=by
 unfold cA;rw[List.take_add_one,ho,List.filter_append];simp[h]
def OE (B:World) (v:Value) (L:List (List Int)) (W:World):Prop:=
 Below B.heap.size B W/\∃fs:List Value,W.ownsRow B.heap.size 27 1 v L.length fs/\fs.length=L.length/\∀(j:Nat) (l:List Int) (f:Value),L[j]?=some l->fs[j]?=some f->an B f l
theorem bq.Gb {B:Nat} {v:Value} {L:List (List Int)} {fs:List Value} (h:w.ownsRow B 27 1 v L.length fs) (hl:fs.length=L.length) (hf:∀(j:Nat) (l:List Int) (f:Value),L[j]?=some l->fs[j]?=some f->an w f l):bq w v L:=by
 obtain⟨_,⟨rfl,h0⟩|⟨g,cap,cur,rfl,_,hg,hle,iG,bX,sC⟩⟩:=h
 .have:L=[]:=List.eq_nil_of_length_eq_zero h0;subst this;exact⟨none,0,⟨rfl,Nat.le_refl _,by unfold maxLen;omega,fun _=>rfl,(fun b hb=>by cases hb)⟩,fun b hb=>by cases hb⟩
 .refine⟨_,cap,⟨rfl,hle,iG,(fun h=>by cases h),fun b hb=>Or.inr ⟨cur,27,(0,0),by cases hb;exact hg⟩⟩,fun b hb j l hj=>?_⟩;cases hb;have mG:j<L.length:=(List.getElem?_eq_some_iff.1 hj).1;obtain⟨f,Q4⟩:∃f,fs[j]?=some f:=⟨_,List.getElem?_eq_getElem (by rw[hl];exact mG)⟩
  refine⟨f,⟨rfl,?_⟩,hf j l f hj Q4⟩;simp only[World.cell?,hg];rw[<-sC,List.getElem?_take,if_pos (by omega)]at Q4;simpa using Q4
theorem lB (w:World) (v:Value) (b:ao) (hb:au w v b) (hv:Valid b):
 Calls ZP 44 #[v] w (fun e w'=>(∃v',e=.returned v'/\bq w' v' (cw b))/\Below w.heap.size w w'):=by
 have HB:=hid hb;have HV:Hid (Valid b):=hv;have ME:=hv.parts.many;have RY:=hv.many;have oz:=hv.places;obtain⟨a2,c2,a3,c3,a4,c4,rfl⟩:=hb.cj;obtain⟨_,_,_,Ba,⟨Yp,c2',h2,f2⟩,_,a4',c4',h4,f4⟩:=hb;simp only[Value.agg.injEq,Array.mk.injEq,List.cons.injEq,true_and,and_true]at Ba;obtain⟨rfl,rfl,rfl⟩:=Ba;obtain⟨rfl,rfl⟩:a2=Yp/\c2=c2':=by have:=h2.eq;simpa using this
 obtain⟨rfl,rfl⟩:a4=a4'/\c4=c4':=by have:=h4.eq;simpa using this
 have H2:Hid (bH w (.slice a2 b.parts.length c2) b.parts.length a2 c2/\_):=⟨h2,f2⟩
 have H4:Hid (bH w (.slice a4 b.ab.length c4) b.ab.length a4 c4/\_):=⟨h4,f4⟩
 have Kj:=h2.le;have ht4:=h4.le;obtain⟨i0,uu,pW,li,m8⟩:=info_parts CM;obtain⟨i3,DQ,zY,zZ,z6⟩:=info_parts kq;obtain⟨A1,aV⟩:=ex1 (w.alloc (.cells #[.int .i64 b.ak,.int .i64 b.places,.slice a2 b.parts.length c2,.slice a3 b.apart.length c3,.slice a4 b.ab.length c4] 26));obtain⟨A2,bY⟩:=ex1 (A1.alloc (.cells #[.slice none 0 0] 27));have eE:=rh aV;have B1:Hid (aF A2 w.heap.size 26 #[.int .i64 b.ak,.int .i64 b.places,.slice a2 b.parts.length c2,.slice a3 b.apart.length c3,.slice a4 b.ab.length c4]):=(bh bY).box (cz aV) (by simp);have B2:aF A2 (w.heap.size+1) 27 #[.slice none 0 0]:=by have:=cz bY;rw[eE]at this;exact this
 have HW:Hid (Below w.heap.size w A2):=((bh aV).trans' (bh bY)).below (by simp) (Nat.le_refl _)
 have Q0:Hid (bq A2 (.slice (some ⟨w.heap.size+1,0,none⟩) 1 1) (aX b 0)):=
  ⟨_,1,⟨rfl,Nat.le_refl _,by unfold maxLen;omega,(fun h=>by cases h),fun b hb=>Or.inr ⟨_,27,(0,0),by cases hb;exact B2⟩⟩,fun b hb j l hj=>by
    cases hb;cases j with
    |zero=>
     simp[aX]at hj;subst hj;exact⟨_,⟨rfl,B2.cell 0 rfl⟩,none,0,⟨rfl,Nat.le_refl _,by unfold maxLen;omega,fun _=>rfl,(fun b hb=>by cases hb)⟩,fun b hb=>by cases hb⟩
    |succ j=>simp[aX]at hj⟩
 have HZ:Hid (∀X:World,Below A2.heap.size A2 X->X.cell? ⟨w.heap.size,2,none⟩=some (.slice a2 b.parts.length c2)/\X.cell? ⟨w.heap.size,4,none⟩=some (.slice a4 b.ab.length c4)):=fun X hX=>by
  have BX:=B1.o.below hX B1.o.lt;exact⟨BX.cell 2 rfl,BX.cell 4 rfl⟩
 clear hv h2 f2 h4 f4 B2;go_enter ZF44,Tryz.ntmps44
 go_wp2_with fail
 clear aV bY eE;go_loopw [4,3] (fun i v wr=>∃p:Nat,p<=b.parts.length/\i=.int .i64 p/\Hid (Below A2.heap.size A2 wr/\bq wr v (aX b p))) (fun i _ _=>b.parts.length-(intOf i).toNat)
 case atStart=>exact⟨0,Nat.zero_le _,rfl,Below.refl _ _,Q0.o⟩
 case round=>
  obtain⟨wo,rfl⟩:∃wo,wo=wr:=⟨wr,rfl⟩
  obtain⟨p,hp,rfl,hO⟩:=hrel;have Eg:Hid (Below A2.heap.size A2 wo):=hO.o.1;have JD:=HW.t Eg.o;obtain⟨z2,z4⟩:=HZ.o wo Eg.o;obtain⟨oa,oc,Rh,VE⟩:=hO.o.2;obtain rfl:=Rh.eq;have Ri:Hid (bH wo (.slice oa (aX b p).length oc) (aX b p).length oa oc/\∀b',oa=some b'->∀(j:Nat) (l:List Int),(aX b p)[j]?=some l->∃vf,At wo b' j vf/\an wo vf l):=⟨Rh,VE⟩
  have ul:=Rh.le;have zg7:(aX b p).length<=1024:=Nat.le_trans (m7 HV.o p) (Nat.pow_le_pow_right (by omega) (show p<=5 by omega));clear Rh VE;by_cases az:p<b.parts.length
  .obtain⟨⟨blk,off,sp⟩,x,rfl,hx,x0,x1,x2,x3,x4,_⟩:=H2.o.1.elem H2.o.2 az;obtain rfl:sp=none:=x0.1;have HX:=hid hx;have O6:=(HV.o.parts.all p x az hx).1.time;have htw:=(HV.o.parts.all p x az hx).1.wide
   have Rr:Hid (∀X:World,Below wo.heap.size wo X->X.cell? ⟨w.heap.size,2,none⟩=some (.slice (some ⟨blk,off,none⟩) b.parts.length c2)/\X.cell? ⟨blk,off+p*6+3,none⟩=some (.int .i64 x.lo)/\X.cell? ⟨blk,off+p*6+4,none⟩=some (.int .i64 x.hi)):=fun X hX=>by
    have y3:=(x3.later (Kp.of (JD.o.trans (hX.mono JD.o.size)))).2;have y4:=(x4.later (Kp.of (JD.o.trans (hX.mono JD.o.size)))).2;simp only[<-Nat.add_assoc]at y3 y4;exact⟨(HZ.o X (Eg.o.trans (hX.mono Eg.o.size))).1,y3,y4⟩
   have zg8:(p:Int)<(b.parts.length:Int):=by omega
   clear x0 x1 x2 x3 x4 hx hO;go_wp2_with fail
   go_loopw [6,5] (fun i n wr=>∃k:Nat,k<=(aX b p).length/\i=.int .i64 k/\Hid (jo wo n (((aX b p).take k).flatMap (gU b p)) wr)) (fun i _ _=>(aX b p).length-(intOf i).toNat)
   case atStart=>exact⟨0,Nat.zero_le _,rfl,Below.refl _ _,[],World.ownsRow_nil _ _ _ _,fe.nil _⟩
   case round=>
    obtain⟨w2,rfl⟩:∃w2,w2=wr:=⟨wr,rfl⟩
    obtain⟨k,hk,rfl,Ea⟩:=hrel;obtain⟨y2,y3,y4⟩:=Rr.o w2 Ea.o.1;by_cases VF:k<(aX b p).length
    .obtain⟨⟨lb,lf,sp⟩,o,rfl,ho,vf,e0,ef⟩:=Ri.o.1.elem Ri.o.2 VF;obtain rfl:sp=none:=e0.1;have ub:=hid ho;have KL:Hid (∀X:World,Below wo.heap.size wo X->X.cell? ⟨lb,lf+k,none⟩=some vf/\an X vf o):=fun X hX=>⟨(e0.later (Kp.of hX)).2,ef.later (Kp.of hX)⟩
     have zg9:o.length<=5:=by have:=(j9 (by omega) (List.mem_of_getElem? ho)).1;omega
     have Xy:(k:Int)<((aX b p).length:Int):=by omega
     clear e0 ef ho;go_wp2_with fail
     go_loopw [7,5] (fun n v wr=>∃(q:Nat) (nv:Value),q<=(x.hi+1-x.lo).toNat/\n=.int .i64 (x.lo+q)/\nv=v/\Hid (jo wo nv (((aX b p).take k).flatMap (gU b p)++mv x o q) wr)) (fun n _ _=>(x.hi+1-intOf n).toNat)
     case atStart=>exact⟨0,_,Nat.zero_le _,by simp,rfl,by have:mv x o 0=[]:=rfl;rw[this,List.append_nil];exact Ea⟩
     case round=>
      obtain⟨q,nv,hq,rfl,rfl,JE⟩:=hrel;obtain⟨y2,y3,y4⟩:=Rr.o wr JE.o.1;by_cases hlq:q<(x.hi+1-x.lo).toNat
      .have hle:x.lo+(q:Int)<=x.hi:=by omega
       obtain⟨L2,M3⟩:=ex1 (((aX b p).take k).flatMap (gU b p)++mv x o q);have So:=hid M3
       have Rn:L2.length<=5000:=by
        rw[<-M3,List.length_append,F9];have h1:=JV (vw HV.o p) ((aX b p).take k);have h3:((aX b p).take k).length<=(aX b p).length:=by simp;omega
        omega
       rw[M3]at JE;obtain⟨h1,fs,h2,h3⟩:=JE.o;have H1:=hid h1;have JG:=hid h2;have QZ:=hid h3;have hwz:=h1.size;have HFI:Hid (∀X:World,ac [] wr X->an X vf o):=fun X h=>(KL.o wr H1.o).2.later fun j hj=>h.block j hj (by simp);obtain⟨nn,NQ⟩:=ex1 (x.lo+(q:Int));have wS:=hid NQ;have zha:0<=nn:=by omega
       rw[NQ]at hle⊢;obtain⟨W0,hW0⟩:=ex1 (wr.alloc (.cells #[] 3));have Oy:Hid (ac [] wr W0):=bh hW0;have HB0:Hid (aF W0 wr.heap.size 3 #[]):=cz hW0;have sA:=(KL.o W0 (H1.o.trans (Oy.o.below (by simp) H1.o.size))).1;clear M3 JE h1 h2 h3 NQ
       go_wp2_with(first
        |(at_builtin
          refine m6 rfl (.tmp 45) (.tmp 49) rfl wr.heap.size _ 0 [] rfl (lS HB0.o (Nat.le_refl _)) vf o rfl (HFI.o _ Oy.o) (by omega) Oy.o.size ?_;intro v1 w1 um AM;have JH:Hid (ac [] wr w1):=ac.grow Oy.o AM (fun k hk=>by cases hk;exact Nat.le_refl _);have xL:Hid (w1.ownsRow wr.heap.size 3 1 v1 o.length (o.map (Value.int .i64))):=(by simpa using um:w1.ownsRow wr.heap.size 3 1 v1 o.length (o.map (Value.int .i64)))
          clear um AM)
        |(at_builtin
          refine wpList_append_own _ rfl (.tmp 50) (.tmp 52) 27 rfl wr.heap.size 3 i3 (.int .i64 0) 1 8 fH DQ zY zZ z6 rfl (by decide) _ o.length _ rfl (xL.o.alloc _) ⟨_,0,none⟩ 1 1 [.int .i64 nn] rfl rfl (iX _ _ _) (iY _) (by unfold maxLen;omega) (by omega) (by have:=JH.o.size;simp;omega) ?_;intro v2 w2 oN FB _;obtain⟨g2,k2,rfl⟩:=ownsRow_succ oN;have q7:=hid oN;have qG:Hid (ac [] wr w2):=ac.grow (JH.o.jk _) FB (fun k hk=>(aE xL.o k hk).1);clear oN FB)
        |(at_builtin
          refine wpList_append_own _ rfl (.tmp 44) (.tmp 54) 68 rfl wo.heap.size 27 i0 (.slice none 0 0) 1 24 oq uu pW li m8 rfl (by decide) _ L2.length fs rfl ((bz JG.o (fun k e=>qG.o.block k (aE JG.o k e).2 (by simp))).alloc _) ⟨_,0,none⟩ 1 1 [.slice (some ⟨g2,0,none⟩) (o.length+1) k2] rfl rfl (iX _ _ _) (fun u hu=>by simp at hu;subst hu;rfl) (by unfold maxLen;omega) (by omega) (by have:=qG.o.size;simp;omega) ?_;intro v3 w3 tv re _;have z7:Hid (w3.ownsRow wo.heap.size 27 1 v3 (L2.length+1) (fs++[.slice (some ⟨g2,0,none⟩) (o.length+1) k2])):=tv
          have tn:Hid (w3.ownsRow 0 3 1 (.slice (some ⟨g2,0,none⟩) (o.length+1) k2) (o.length+1) (o.map (Value.int .i64)++[.int .i64 nn])):=(by
           refine nZ (bz q7.o fun k e=>?_) (Nat.zero_le _);have h1:=aE q7.o k e;refine(re.block k (by simp;omega) fun e2=>?_).trans ((ac.alloc [] w2 _).block k h1.2 (by simp));have:=(aE JG.o k e2.symm).2;omega:w3.ownsRow 0 3 1 (.slice (some ⟨g2,0,none⟩) (o.length+1) k2) (o.length+1) (o.map (Value.int .i64)++[.int .i64 nn]))
          have Cu:Hid (∀k:Nat,k<wr.heap.size->some k≠nv.ownBlock->w3.heap[k]?=wr.heap[k]?):=(fun k hk bJ=>(re.block k (by have:=qG.o.size;simp;omega) bJ).trans (((qG.o.jk _).block k hk (by simp))))
          have gi:Hid (Below wo.heap.size wo w3):=(by
           refine⟨re.os.trans (qG.o.os.trans H1.o.os),re.tape.trans (qG.o.tape.trans H1.o.tape),re.output.trans (qG.o.output.trans H1.o.output),?_,fun k hk=>?_⟩
           .have e1:=re.size;have e2:=qG.o.size;simp at e1;omega
           .refine(Cu.o k (Nat.lt_of_lt_of_le hk H1.o.size) fun e=>?_).trans (H1.o.block k hk);have:=(aE JG.o k e.symm).1;omega:Below wo.heap.size wo w3)
          clear tv re))
       have z8:Hid (jo wo v3 (L2++[o++[nn]]) w3):=by
        refine⟨gi.o,_,by rw[List.length_append];exact z7.out,fe.snoc (QZ.o.on fun k cur e=>Cu.o k (Array.getElem?_eq_some_iff.1 e).1 fun hm=>?_) (by rw[List.length_append,List.map_append];exact tn.o)⟩;obtain⟨_,⟨e2,_⟩|⟨g,cap,zbe,e2,_,hg,_⟩⟩:=JG.o
        .rw[e2]at hm;exact absurd hm (by simp[Value.ownBlock])
        .rw[e2]at hm;have e3:g=k:=by simpa [Value.ownBlock]using hm.symm
         rw[<-e3,hg]at e;exact absurd e (by simp)
       clear tn z7 Cu gi;go_round
       case rel=>exact⟨q+1,_,by omega,congrArg (Value.int .i64) (by have:=wS.o;push_cast;omega),rfl,by rw[CQ,<-List.append_assoc,So.o,wS.o];exact z8⟩
       case measure=>simp[intOf];omega
      .have e:q=(x.hi+1-x.lo).toNat:=by omega
       have hle:¬x.lo+(q:Int)<=x.hi:=by omega
       go_wp2_with fail
       go_round
       case rel=>exact⟨k+1,by omega,by go_num,by rw[VJ ub.o,<-Ga HX.o,<-e];exact JE⟩
       case measure=>simp[intOf];omega
    .have e:k=(aX b p).length:=by omega
     subst e;rw[List.take_length]at Ea;go_wp2_with fail
     go_round
     case rel=>
      obtain⟨h1,fs,h2,h3⟩:=Ea.o;exact⟨p+1,by omega,by go_num,Eg.o.trans (h1.mono Eg.o.size),bq.dW (L:=aX b (p+1)) h2 h3⟩
     case measure=>simp[intOf];omega
  .have e:p=b.parts.length:=by omega
   subst e
   have zbo:Hid (∀o∈aX b b.parts.length,o.length=b.parts.length/\∀i,0<=aa o i/\aa o i<=20):=fun o ho=>by
    obtain⟨h1,h2⟩:=j9 (Nat.le_refl _) ho;refine⟨h1,fun i=>?_⟩;unfold aa;cases hi:o[i]? with
    |none=>simp
    |some y=>
     have Vb:=(List.getElem?_eq_some_iff.1 hi).1;have hx:b.parts[i]?=some (b.parts[i]'(by omega)):=List.getElem?_eq_getElem (by omega);have h3:=h2 i _ y hx hi;have h4:=(HV.o.parts.all i _ (by omega) hx).1.time;simp;omega
   clear hO;go_wp2_with fail
   go_loopw [9,8] (fun i out wr=>∃(k:Nat) (ov:Value),k<=(aX b b.parts.length).length/\i=.int .i64 k/\ov=out/\Hid (OE wo ov (cA b k) wr)) (fun i _ _=>(aX b b.parts.length).length-(intOf i).toNat)
   case atStart=>exact⟨0,_,Nat.zero_le _,rfl,rfl,Below.refl _ _,[],World.ownsRow_nil _ _ _ _,rfl,fun j l f h=>by simp[cA]at h⟩
   case round=>
    obtain⟨w2,rfl⟩:∃w2,w2=wr:=⟨wr,rfl⟩
    obtain⟨k,ov,hk,rfl,rfl,Ea⟩:=hrel;by_cases VF:k<(aX b b.parts.length).length
    .obtain⟨⟨lb,lf,sp⟩,o,rfl,ho,vf,e0,ef⟩:=Ri.o.1.elem Ri.o.2 VF;obtain rfl:sp=none:=e0.1;have ub:=hid ho;have HEF:=hid ef;obtain⟨fa,fc,KM,_⟩:=ef;obtain rfl:=KM.eq;have KL:Hid (∀X:World,Below wo.heap.size wo X->X.cell? ⟨lb,lf+k,none⟩=some (.slice fa o.length fc)/\an X (.slice fa o.length fc) o):=fun X hX=>⟨(e0.later (Kp.of hX)).2,HEF.o.later (Kp.of hX)⟩
     have Rt:=zbo.o o (List.mem_of_getElem? ho);have VK:Hid (∀i,0<=aa o i/\aa o i<=20):=Rt.2;have HOL:Hid (o.length=b.parts.length):=Rt.1;have H2o:Hid (Below wo.heap.size wo w2):=Ea.o.1;have Xy:(k:Int)<((aX b b.parts.length).length:Int):=by omega
     clear e0 KM ho Rt;go_wp2_with fail
     go_loopw [10,11] (fun c i wr=>∃m:Nat,m<=b.ab.length/\i=.int .i64 m/\c=.bool ((b.ab.take m).all (cU b.places.toNat (aa o)))/\Hid (Below w2.heap.size w2 wr)) (fun _ i _=>b.ab.length-(intOf i).toNat)
     case atStart=>exact⟨0,Nat.zero_le _,rfl,rfl,Below.refl _ _⟩
     case round=>
      obtain⟨m,hm,rfl,rfl,hB⟩:=hrel;have tX:=H2o.t hB.o;obtain⟨z2,z4⟩:=HZ.o wr (Eg.o.trans (tX.o.mono Eg.o.size));by_cases VI:m<b.ab.length
      .obtain⟨⟨tb,tf,tsp⟩,y,rfl,hy,⟨vt,q0,qi⟩,q1,q2⟩:=H4.o.1.elem H4.o.2 VI;obtain rfl:tsp=none:=q0.1;have te:=HV.o.ab m y VI hy;have HY:=hid hy;have sw:=te.QJ.len;have VL:=JD.o.trans (tX.o.mono JD.o.size);have y0:=(q0.later (Kp.of VL)).2;have y1:=(q1.later (Kp.of VL)).2;have y2:=(q2.later (Kp.of VL)).2;simp only[<-Nat.add_assoc]at y0 y1 y2;have sA:=(KL.o wr tX.o).1;have T0:∀X:ai wr,X.1.cell? ⟨tb,tf+m*3,none⟩=some vt:=fun X=>X.cell y0;have T1:∀X:ai wr,X.1.cell? ⟨tb,tf+m*3+1,none⟩=some (.int .i64 y.lo):=fun X=>X.cell y1;have T2:∀X:ai wr,X.1.cell? ⟨tb,tf+m*3+2,none⟩=some (.int .i64 y.hi):=fun X=>X.cell y2;have Z4:∀X:ai wr,X.1.cell? ⟨w.heap.size,4,none⟩=some (.slice (some ⟨tb,tf,none⟩) b.ab.length c4):=fun X=>X.cell z4;have V0:∀X:ai wr,X.1.cell? ⟨lb,lf+k,none⟩=some (.slice fa o.length fc):=fun X=>X.cell sA
       have VM:∀X:ai wr,Calls ZP 62 #[.slice fa o.length fc,vt] X.1 (fun e gI=>e=.returned (.int .i64 (aB (aa y.parts) (aa o) y.parts.length))/\∃Y:ai wr,gI=Y.1):=fun X=>
        (ja X.1 _ vt o y.parts VK.o ((KL.o wr tX.o).2.later X.kp) ((qi.later (Kp.of VL)).later X.kp) (by omega) (fun j z hz=>by
          have h1:=te.QJ.range j z (List.getElem?_eq_some_iff.1 hz).1 hz;have h2:=HOL.o;omega)).mono fun e gI ⟨h1,h2⟩=>⟨h1,X.same h2⟩
       have jq:cU b.places.toNat (aa o) y=(decide (y.lo<=aB (aa y.parts) (aa o) y.parts.length)&&decide (aB (aa y.parts) (aa o) y.parts.length<=y.hi)):=by
        unfold cU;rw[zU VK.o b.places.toNat (by omega),show b.places.toNat=y.parts.length by omega]
       obtain⟨tk,sC⟩:=ex1 (aB (aa y.parts) (aa o) y.parts.length);rw[sC]at VM jq;obtain⟨ok,Ru⟩:=ex1 (cU b.places.toNat (aa o) y);have KH:=hid Ru
       have c68:∀X:ai wr,Calls ZP 68 #[.int .i64 tk,.int .i64 y.lo,.int .i64 y.hi] X.1 (fun e gI=>e=.returned (.bool ok)/\∃Y:ai wr,gI=Y.1):=fun X=>
        (ls tk y.lo y.hi X.1).mono fun e gI ⟨h1,h2⟩=>⟨by rw[h1,<-jq,Ru],X.same h2⟩
       have hmi:(m:Int)<(b.ab.length:Int):=by omega
       obtain⟨c,hc⟩:=ex1 ((b.ab.take m).all (cU b.places.toNat (aa o)));have HC:=hid hc;rw[hc];clear q0 q1 q2 qi te hy sw jq Ru sC hc VL sA y0 y1 y2;go_wp2_with fail
       cases c with
       |false=>
        refine am (by kernel_rfl) (by kernel_rfl) ?_;repeat(go_big_quiet_step (fail))
        refine wpQuiet_nil ?_;rintro wq ⟨X,hX⟩;have xO:=X.2;rw[<-hX]at xO;have eJ:=hB.t xO;clear hX xO X;go_wp2_with fail
        go_round
        case rel=>exact⟨m+1,by omega,by go_num,congrArg Value.bool (by rw[List.take_add_one,HY.o,List.all_append,HC.o];rfl),eJ⟩
        case measure=>simp[intOf];omega
       |true=>
        refine am (by kernel_rfl) (by kernel_rfl) ?_;repeat(go_big_quiet_step (first|(go_at_call 62;exact VM _)|(go_at_call 68;exact c68 _)))
        refine wpQuiet_nil ?_;rintro wq ⟨X,hX⟩;have xO:=X.2;rw[<-hX]at xO;have eJ:=hB.t xO;clear hX xO X;go_wp2_with fail
        go_round
        case rel=>exact⟨m+1,by omega,by go_num,congrArg Value.bool (by rw[List.take_add_one,HY.o,List.all_append,HC.o];simp[KH.o]),eJ⟩
        case measure=>simp[intOf];omega
      .have e:m=b.ab.length:=by omega
       subst e;rw[List.take_length];obtain⟨c,hc⟩:=ex1 (b.ab.all (cU b.places.toNat (aa o)));have HC:=hid hc;rw[hc];have sA:=(KL.o wr tX.o).1;obtain⟨_,fs,bB,AF,SF⟩:=Ea.o;have HOW:Hid (wr.ownsRow wo.heap.size 27 1 ov (cA b k).length fs):=bz bB fun i hi=>hB.o.block i (aE bB i hi).2;have SD:Hid (fs.length=(cA b k).length/\∀(j:Nat) (l:List Int) (f:Value),(cA b k)[j]?=some l->fs[j]?=some f->an wo f l):=⟨AF,SF⟩
       have hpk:(cA b k).length<=1024:=Nat.le_trans (List.length_filter_le _ _) (by simp;omega);have bX:=tX.o.size;clear hc bB AF SF;cases c with
       |false=>
        go_wp2_with fail
        go_round
        case rel=>exact⟨k+1,_,by omega,by go_num,rfl,by rw[CS ub.o HC.o];exact⟨tX.o,fs,HOW.o,SD.o⟩⟩
        case measure=>simp[intOf];omega
       |true=>
        go_wp2_with(at_builtin
                    refine wpList_append_own _ rfl (.tmp 100) (.tmp 105) 68 rfl wo.heap.size 27 i0 (.slice none 0 0) 1 24 oq uu pW li m8 rfl (by decide) _ (cA b k).length fs rfl (HOW.o.alloc _) ⟨_,0,none⟩ 1 1 [.slice fa o.length fc] rfl rfl (iX _ _ _) (fun u hu=>by simp at hu;subst hu;rfl) (by unfold maxLen;omega) (by omega) (by simp;omega) ?_;intro v3 w3 tv re _;have z7:Hid (w3.ownsRow wo.heap.size 27 1 v3 ((cA b k).length+1) (fs++[.slice fa o.length fc])):=tv;have gi:Hid (Below wo.heap.size wo w3):=Below.grown (tX.o.alloc tX.o.size _) re (by simp;omega) (iZ HOW.o);clear tv re)
        have z8:Hid (OE wo v3 (cA b k++[o]) w3):=by
         refine⟨gi.o,_,by rw[List.length_append];exact z7.out,by rw[List.length_append,List.length_append,SD.o.1];rfl,fun j l f hl hf=>?_⟩;by_cases hj:j<(cA b k).length
         .rw[List.getElem?_append_left hj]at hl;rw[List.getElem?_append_left (by rw[SD.o.1];exact hj)]at hf;exact SD.o.2 j l f hl hf
         .have mG:=(List.getElem?_eq_some_iff.1 hl).1;simp at mG;have S9:j=(cA b k).length:=by omega
          subst S9;simp at hl;rw[<-SD.o.1]at hf;simp at hf;subst hl hf;exact HEF.o
        clear z7 gi;go_round
        case rel=>exact⟨k+1,_,by omega,by go_num,rfl,by rw[Aj ub.o HC.o];exact z8⟩
        case measure=>simp[intOf];omega
    .have e:k=(aX b b.parts.length).length:=by omega
     subst e;obtain⟨Q3,fs,bB,AF,SF⟩:=Ea.o
     have JP:Hid (bq w2 ov (cw b)):=by
      have hp:cA b (aX b b.parts.length).length=cw b:=by unfold cA cw;rw[List.take_length]
      rw[hp]at bB AF SF;exact bq.Gb bB AF fun j l f h1 h2=>(SF j l f h1 h2).later (Kp.of Q3)
     have kF:=JD.t Q3;clear Q3 bB AF SF;go_wp2_with fail
     go_ret;exact⟨⟨_,rfl,JP.o⟩,kF.o⟩
open Classical in
noncomputable def ah (b:ao) (own:Int):Int:=if aO b=0 then(if own=0 then(if cw b=[]then 9 else 0)else own)else aO b
def M7 (w:World) (b:ao) (own:Int) (e:Ending) (w':World):Prop:=
 (∃v',e=.returned (.tuple #[v',.int .i64 (ah b own)])/\(ah b own≠0->v'=.slice none 0 0)/\(ah b own=0->bq w' v' (cw b)))/\Below w.heap.size w w'
theorem jb (w:World) (v:Value) (b:ao) (own:Int) (hb:au w v b) (hs:de b):Calls ZP 49 #[v,.int .i64 own] w (M7 w b own):=by
 have HB:=hid hb;have HS:Hid (de b):=hs;obtain⟨a2,c2,a3,c3,a4,c4,rfl⟩:=hb.cj;obtain⟨A1,aV⟩:=ex1 (w.alloc (.cells #[.int .i64 b.ak,.int .i64 b.places,.slice a2 b.parts.length c2,.slice a3 b.apart.length c3,.slice a4 b.ab.length c4] 26));have B1:Hid (aF A1 w.heap.size 26 #[.int .i64 b.ak,.int .i64 b.places,.slice a2 b.parts.length c2,.slice a3 b.apart.length c3,.slice a4 b.ab.length c4]):=cz aV;have HW:Hid (Below w.heap.size w A1):=(bh aV).below (by simp) (Nat.le_refl _);have z0:=B1.o.cell 0 rfl;have z1:=B1.o.cell 1 rfl;have z2:=B1.o.cell 2 rfl;have z3:=B1.o.cell 3 rfl;have z4:=B1.o.cell 4 rfl;have hC:=mq A1 _ b (HB.o.later (Kp.of HW.o)) HS.o;obtain⟨s,Ei⟩:=ex1 (aO b);have KN:=hid Ei;rw[Ei]at hC;clear hb hs Ei;go_enter ZF49,Tryz.ntmps49
 go_wp2_with fail
 refine hC.mono ?_;rintro e w1 ⟨⟨r,rfl,rfl⟩,bj⟩;have eI:=hid bj;have kE:=HW.t bj;clear bj aV z0 z1 z2 z3 z4 hC;by_cases h0:r=0
 .subst h0;have X1:=B1.o.below eI.o B1.o.lt;have z0:=X1.cell 0 rfl;have z1:=X1.cell 1 rfl;have z2:=X1.cell 2 rfl;have z3:=X1.cell 3 rfl;have z4:=X1.cell 4 rfl;clear X1;by_cases NZ:own=0
  .subst NZ;have HV:Hid (Valid b):=cF.1 KN.o;by_cases hL:cw b=[]
   .have HL:Hid (ah b 0=9):=by unfold Hid ah;rw[if_pos KN.o,if_pos rfl,if_pos hL]
    have hz:((((cw b).length:Nat):Int)==0)=true:=by rw[hL];rfl
    clear hL
    go_wp2_with(go_at_call 44
                refine(lB w1 _ b (HB.o.later (Kp.of kE.o)) HV.o).mono ?_;rintro e w2 ⟨⟨vp,rfl,SG⟩,fk⟩;have eJ:=kE.t fk;obtain⟨pa,pc,kl,_⟩:=SG;obtain rfl:=kl.eq;have oz:=kl.le;clear fk kl z0 z1 z2 z3 z4)
    go_ret2;exact⟨⟨.slice none 0 0,congrArg (fun z=>Ending.returned (.tuple #[.slice none 0 0,.int .i64 z])) HL.o.symm,fun _=>rfl,fun h=>by rw[HL.o]at h;cases h⟩,eJ.o⟩
   .have HL:Hid (ah b 0=0):=by unfold Hid ah;rw[if_pos KN.o,if_pos rfl,if_neg hL]
    have hz:((((cw b).length:Nat):Int)==0)=false:=by have:=List.length_pos_iff.2 hL;simp;omega
    clear hL
    go_wp2_with(go_at_call 44
                refine(lB w1 _ b (HB.o.later (Kp.of kE.o)) HV.o).mono ?_;rintro e w2 ⟨⟨vp,rfl,SG⟩,fk⟩;have eJ:=kE.t fk;have HVP:=hid SG;obtain⟨pa,pc,kl,_⟩:=SG;obtain rfl:=kl.eq;have oz:=kl.le;clear fk kl z0 z1 z2 z3 z4)
    go_ret2;exact⟨⟨.slice pa (cw b).length pc,congrArg (fun z=>Ending.returned (.tuple #[.slice pa (cw b).length pc,.int .i64 z])) HL.o.symm,fun h=>absurd HL.o h,fun _=>HVP.o⟩,eJ.o⟩
  .have HL:Hid (ah b own=own):=by unfold Hid ah;rw[if_pos KN.o,if_neg NZ]
   have HO0:Hid (¬own=0):=NZ;go_wp2_with fail
   go_ret2;exact⟨⟨.slice none 0 0,congrArg (fun z=>Ending.returned (.tuple #[.slice none 0 0,.int .i64 z])) HL.o.symm,fun _=>rfl,fun h=>by rw[HL.o]at h;exact absurd h HO0.o⟩,kE.o⟩
 .have HL:Hid (ah b own=r):=by unfold Hid ah;rw[KN.o,if_neg h0]
  have H0:Hid (¬r=0):=h0;go_wp2_with fail
  go_ret2;exact⟨⟨.slice none 0 0,congrArg (fun z=>Ending.returned (.tuple #[.slice none 0 0,.int .i64 z])) HL.o.symm,fun _=>rfl,fun h=>by rw[HL.o]at h;exact absurd h H0.o⟩,kE.o⟩
def bD (b:ao) (k:Int):Int:=if 0<=k/\k<=(b.parts.length:Int)-1 then 0 else 6
theorem CU (w:World) (v:Value) (b:ao) (k:Int) (hb:au w v b):Calls ZP 50 #[v,.int .i64 k] w (bK w (.int .i64 (bD b k))):=by
 obtain⟨v2,v3,v4,rfl,⟨a2,c2,⟨rfl,l2,m2,_,_⟩,_⟩,⟨a3,c3,⟨rfl,_,_,_,_⟩,_⟩,⟨a4,c4,⟨rfl,_,_,_,_⟩,_⟩⟩:=hb;unfold maxLen at m2;obtain⟨A1,aV⟩:=ex1 (w.alloc (.cells #[.int .i64 b.ak,.int .i64 b.places,.slice a2 b.parts.length c2,.slice a3 b.apart.length c3,.slice a4 b.ab.length c4] 26));have HW:Hid (Below w.heap.size w A1):=(bh aV).below (by simp) (Nat.le_refl _);obtain⟨-,-,z2⟩:=(cz aV).c3;have hI:=ls k 0 ((b.parts.length:Int)-1) A1;have hw:wrap64 ((b.parts.length:Int)-1)=(b.parts.length:Int)-1:=by unfold wrap64;omega
 by_cases hk:0<=k/\k<=(b.parts.length:Int)-1
 .have HP:Hid (bD b k=0):=by unfold Hid bD;rw[if_pos hk]
  rw[decide_eq_true hk.1,decide_eq_true hk.2]at hI;clear hk;go_enter ZF50,Tryz.ntmps50
  go_wp2_with(go_at_call 68;refine hI.mono ?_;rintro e w' ⟨rfl,M8⟩;obtain rfl:A1=w':=M8.symm)
  go_ret;exact⟨congrArg (fun z=>Ending.returned (.int .i64 z)) HP.o.symm,HW.o⟩
 .have HP:Hid (bD b k=6):=by unfold Hid bD;rw[if_neg hk]
  have hf:(decide (0<=k)&&decide (k<=(b.parts.length:Int)-1))=false:=by
   cases h:(decide (0<=k)&&decide (k<=(b.parts.length:Int)-1))with
   |false=>rfl
   |true=>simp only[Bool.and_eq_true,decide_eq_true_eq]at h;exact absurd h hk
  rw[hf]at hI;clear hk hf;go_enter ZF50,Tryz.ntmps50
  go_wp2_with(go_at_call 68;refine hI.mono ?_;rintro e w' ⟨rfl,M8⟩;obtain rfl:A1=w':=M8.symm)
  go_ret;exact⟨congrArg (fun z=>Ending.returned (.int .i64 z)) HP.o.symm,HW.o⟩
end Go.Proofs.Cz
namespace Go.Proofs.Cz
variable {k:Nat} {l r:List Int} {x:Int}
def cB (l r:List Int):Prop:=r.Pairwise (·<·)/\∀y,y∈r↔y∈l
theorem cB.nil:cB [] []:=⟨List.Pairwise.nil,fun y=>Iff.rfl⟩
theorem cB.eq {r':List Int} (h:cB l r) (h':cB l r'):r=r':=Eh h.1 h'.1 fun y=>(h.2 y).trans (h'.2 y).symm
theorem Ej (h:r.Pairwise (·<·)) {i j:Nat} {y:Int} (hi:r[i]?=some x) (hj:r[j]?=some y) (pE:i<j):x<y:=by
 obtain⟨h1,rfl⟩:=List.getElem?_eq_some_iff.1 hi;obtain⟨h2,rfl⟩:=List.getElem?_eq_some_iff.1 hj;exact List.pairwise_iff_getElem.1 h i j h1 h2 pE
theorem cB.skip (h:cB l r) (hk:r[k]?=some x):cB (l++[x]) r:=by
 refine⟨h.1,fun y=>(h.2 y).trans ⟨fun hy=>List.mem_append.2 (.inl hy),fun hy=>?_⟩⟩;rcases List.mem_append.1 hy with hy|hy
 .exact hy
 .obtain rfl:=List.mem_singleton.1 hy;exact(h.2 _).1 (List.mem_of_getElem? hk)
theorem cB.put (h:cB l r) (hk:k<=r.length) (h1:∀y,0<k->r[k-1]?=some y->y<x) (h2:∀y,r[k]?=some y->x<y):cB (l++[x]) (r.take k++[x]++r.drop k):=by
 have ha:∀y∈r.take k,y<x:=fun y hy=>by
  obtain⟨j,hj,e⟩:=List.getElem_of_mem hy;have tI:j<k:=by have:=List.length_take_le k r;omega
  have e2:r[j]?=some y:=by rw[<-e,List.getElem_take];exact List.getElem?_eq_getElem (by omega)
  have e3:r[k-1]?=some (r[k-1]'(by omega)):=List.getElem?_eq_getElem (by omega);have h3:=h1 _ (by omega) e3;by_cases zbq:j=k-1
  .subst zbq;have:=Option.some.inj (e3.symm.trans e2);omega
  .have:=Ej h.1 e2 e3 (by omega);omega
 have hb:∀y∈r.drop k,x<y:=fun y hy=>by
  obtain⟨j,hj,e⟩:=List.getElem_of_mem hy;have mG:j<r.length-k:=by simpa using hj
  have e2:r[k+j]?=some y:=by rw[<-e,List.getElem_drop];exact List.getElem?_eq_getElem (by omega)
  have e3:r[k]?=some (r[k]'(by omega)):=List.getElem?_eq_getElem (by omega);have h3:=h2 _ e3;by_cases h0:j=0
  .subst h0;rw[Nat.add_zero]at e2;have:=Option.some.inj (e3.symm.trans e2);omega
  .have:=Ej h.1 e3 e2 (by omega);omega
 have hr:r.take k++r.drop k=r:=List.take_append_drop k r;have hp:=h.1;rw[<-hr]at hp;obtain⟨p1,p2,p3⟩:=List.pairwise_append.1 hp;refine⟨?_,fun y=>?_⟩
 .rw[List.append_assoc];refine List.pairwise_append.2 ⟨p1,List.pairwise_append.2 ⟨List.pairwise_singleton _ _,p2,fun a Xz b wK=>?_⟩,fun a Xz b wK=>?_⟩
  .obtain rfl:=List.mem_singleton.1 Xz;exact hb b wK
  .rcases List.mem_append.1 wK with wK|wK
   .obtain rfl:=List.mem_singleton.1 wK;exact ha a Xz
   .exact p3 a Xz b wK
 .have e:=h.2 y;rw[<-hr]at e;simp only[List.mem_append,List.mem_singleton]at e⊢;constructor
  .rintro((h|h)|h)
   .exact .inl (e.1 (.inl h))
   .exact .inr h
   .exact .inl (e.1 (.inr h))
  .rintro(h|h)
   .rcases e.2 h with h|h
    .exact .inl (.inl h)
    .exact .inr h
   .exact .inl (.inr h)
end Go.Proofs.Cz
