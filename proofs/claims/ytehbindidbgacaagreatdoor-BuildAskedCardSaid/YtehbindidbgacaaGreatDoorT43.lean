/- A part. Conditions: none. -/
import Derived.Test.YtehbindidbgacaaGreatDoorT42
import Derived.Lib.SlicesCompact
set_option linter.all false
namespace Go.Proofs.Cz
open Go.RowKit
variable {b:aW} {hi lo:Int} {i j:Nat} {l:List Part} {x:Part}
theorem jV (h:j≠i):(retime l i lo hi)[j]?=l[j]?:=by
 unfold retime;split
 .rw[List.getElem?_set_ne (Ne.symm h)]
 .rfl
theorem mA (h:l[i]?=some x):(retime l i lo hi)[i]?=some {x with lo:=lo,hi:=hi}:=by
 unfold retime;rw[h];simp only;rw[List.getElem?_set_self (List.getElem?_eq_some_iff.1 h).1]
theorem pc {y:Part} (h:(retime l i lo hi)[j]?=some y):∃x,l[j]?=some x/\y.name=x.name/\y.cost=x.cost/\y.eC=x.eC/\y.fits=x.fits/\(y=x\/(j=i/\y.lo=lo/\y.hi=hi)):=by
 by_cases e:j=i
 .subst e;cases hx:l[j]? with
  |none=>
   unfold retime at h;rw[hx]at h;simp only at h;rw[hx]at h;cases h
  |some x=>
   rw[mA hx]at h;cases h;exact⟨x,rfl,rfl,rfl,rfl,rfl,.inr ⟨rfl,rfl,rfl⟩⟩
 .rw[jV e]at h;exact⟨y,h,rfl,rfl,rfl,rfl,.inl rfl⟩
theorem ta {l:List Int} (h:gZ b l):gZ (gp b i lo hi) l:=by
 refine⟨h.len,?_,?_⟩
 .show kJ l ((retime b.parts i lo hi).length:Int) l.length;rw[iP];exact h.range
 .intro j x hj hx;obtain⟨⟨P,hP,hf⟩,h2⟩:=h.fit j x hj hx;refine⟨?_,h2⟩;by_cases e:x.toNat=i
  .exact⟨{P with lo:=lo,hi:=hi},show(retime b.parts i lo hi)[x.toNat]?=some _ by rw[e];exact mA (e▸hP),hf⟩
  .exact⟨P,show(retime b.parts i lo hi)[x.toNat]?=some P by rw[jV e];exact hP,hf⟩
theorem vp (hv:Valid b) (i:Nat) (ht:0<=lo/\lo<=hi/\hi<=20) (hw:hi-lo<4):Valid (gp b i lo hi):=by
 refine⟨hv.ap,hv.places,⟨?_,?_⟩,⟨hv.fW.many,?_⟩,hv.many,?_⟩
 .show 1<=(retime b.parts i lo hi).length/\(retime b.parts i lo hi).length<=5;rw[iP];exact hv.parts.many
 .intro j y hj hy;obtain⟨x,hx,e1,e2,e3,e6,e7⟩:=pc (show(retime b.parts i lo hi)[j]?=some y from hy);have h:=hv.parts.all j x (List.getElem?_eq_some_iff.1 hx).1 hx;refine⟨⟨by rw[e1];exact h.1.name,by rw[e2];exact h.1.cost,by rw[e3];exact h.1.eC,?_,?_,by rw[e6];exact h.1.J6⟩,fun k z hk hz=>?_⟩
  .rcases e7 with rfl|⟨_,e8,e9⟩
   .exact h.1.time
   .rw[e8,e9];exact ht
  .rcases e7 with rfl|⟨_,e8,e9⟩
   .exact h.1.wide
   .rw[e8,e9];exact hw
  .obtain⟨x',tg,Y8,_⟩:=pc (show(retime b.parts i lo hi)[k]?=some z from hz);rw[e1,Y8];exact h.2 k x' hk tg
 .show gO ((retime b.parts i lo hi).length:Int) b.apart b.apart.length;rw[iP];exact hv.fW.all
 .intro j t hj Nc;have h:=hv.ah j t hj Nc;exact⟨ta h.Kc,h.Ke⟩
theorem qY {α:Type} (c:Int) (A:List α):∀(n:Nat) (lo:Int),lo<=c->c<lo+n->(span lo n).flatMap (fun k=>if k=c then A else [])=A
 |0,lo,h,h2=>by omega
 |n+1,lo,h,h2=>by
  rw[span,List.flatMap_cons];by_cases e:lo=c
  .subst e;rw[if_pos rfl]
   have:(span (lo+1) n).flatMap (fun k=>if k=lo then A else [])=[]:=by
    rw[List.flatMap_eq_nil_iff];intro k hk;rw[if_neg (by have:=(lH hk).1;omega)]
   rw[this,List.append_nil]
  .rw[if_neg e,List.nil_append];exact qY c A n (lo+1) (by omega) (by omega)
theorem tc {ag:(Nat->Int)->Bool} {l:List Part} {i:Nat}:∀(n j:Nat) (t:Nat->Int),i<j->∀y∈bP ag l n j t,y i=t i
 |0,j,t,h,y,hy=>by
  unfold bP at hy;split at hy
  .simp at hy;subst hy;rfl
  .simp at hy
 |n+1,j,t,h,y,hy=>by
  unfold bP at hy;split at hy
  .obtain⟨k,_,hy⟩:=List.mem_flatMap.1 hy;rw[tc n (j+1) _ (by omega) y hy];unfold upd;rw[if_neg (by omega)]
  .simp at hy
theorem gQ (ag:(Nat->Int)->Bool) {l:List Part} {i:Nat} {c:Int} {x:Part} (hx:l[i]?=some x) (hc:x.lo<=c/\c<=x.hi):∀(n j:Nat) (t:Nat->Int),j+n=l.length->
 (i<j->bP ag (retime l i c c) n j t=bP ag l n j t)/\(j<=i->bP ag (retime l i c c) n j t=(bP ag l n j t).filter fun y=>decide (y i=c))
 |0,j,t,hj=>⟨fun _=>rfl,fun h=>by have:=(List.getElem?_eq_some_iff.1 hx).1;omega⟩
 |n+1,j,t,hj=>by
  constructor
  .intro h;rw[bP,bP,jV (by omega)];split
   .congr 1;funext k;exact(gQ ag hx hc n (j+1) _ (by omega)).1 (by omega)
   .rfl
  .intro h;by_cases e:j=i
   .subst e;rw[bP,bP,mA hx,hx];simp only
    rw[show(c+1-c).toNat=1 by omega,show span c 1=[c]from rfl,List.flatMap_cons,List.flatMap_nil,List.append_nil,List.filter_flatMap,
     (gQ ag hx hc n (j+1) _ (by omega)).1 (by omega)]
    have e1:∀k,(bP ag l n (j+1) (upd t j k)).filter (fun y=>decide (y j=c))=if k=c then bP ag l n (j+1) (upd t j c)else []:=fun k=>by
     have h1:∀y∈bP ag l n (j+1) (upd t j k),y j=k:=fun y hy=>by
      rw[tc n (j+1) _ (by omega) y hy];unfold upd;rw[if_pos rfl]
     by_cases ek:k=c
     .subst ek;rw[if_pos rfl,List.filter_eq_self];intro y hy;simp[h1 y hy]
     .rw[if_neg ek,List.filter_eq_nil_iff];intro y hy;simp[h1 y hy,ek]
    simp only[e1];rw[qY c _ _ _ hc.1 (by omega)]
   .rw[bP,bP,jV e];split
    .rw[List.filter_flatMap];congr 1;funext k;exact(gQ ag hx hc n (j+1) _ (by omega)).2 (by omega)
    .rfl
def cv (L:List (Nat->Int)) (i:Nat) (c:Int):List (Nat->Int):=L.filter fun y=>decide (y i=c)
theorem xG {c:Int} (hx:b.parts[i]?=some x) (hc:x.lo<=c/\c<=x.hi) (ag:(Nat->Int)->Bool):bU (gp b i c c) ag=cv (bU b ag) i c:=by
 have h:=(gQ ag hx hc b.parts.length 0 (fun _=>0) (by omega)).2 (Nat.zero_le _);unfold bU;rw[show(gp b i c c).parts=retime b.parts i c c from rfl,iP];exact h
theorem lK {ag:(Nat->Int)->Bool} {l:List Part} {i:Nat} {x:Part} (hx:l[i]?=some x):∀(n j:Nat) (t:Nat->Int),j<=i->j+n=l.length->∀y∈bP ag l n j t,x.lo<=y i/\y i<=x.hi
 |0,j,t,h,hj,y,hy=>by have:=(List.getElem?_eq_some_iff.1 hx).1;omega
 |n+1,j,t,h,hj,y,hy=>by
  unfold bP at hy;by_cases e:j=i
  .subst e;rw[hx]at hy;obtain⟨k,hk,hy⟩:=List.mem_flatMap.1 hy;rw[tc n (j+1) _ (by omega) y hy];have:=lH hk;unfold upd;rw[if_pos rfl];omega
  .split at hy
   .obtain⟨k,_,hy⟩:=List.mem_flatMap.1 hy;exact lK hx n (j+1) _ (by omega) (by omega) y hy
   .simp at hy
end Go.Proofs.Cz
namespace Go.Proofs.Cz
open Go.RowKit Go.Shelf
variable {l:List Int}
theorem hU:∀(n:Nat),n<=l.length->∀j,j<n->l.toArray[j]!∈Lib.compactUpTo l.toArray n
 |0,_,j,h=>by omega
 |n+1,hn,j,h=>by
  rw[Lib.compactUpTo_succ,List.mem_append];by_cases e:j<n
  .exact .inl (hU n (by omega) j e)
  .obtain rfl:j=n:=by omega
   by_cases hk:Lib.keeps l.toArray j=true
   .right;rw[if_pos hk];simp
   .left;have h1:¬(j=0\/l.toArray[j]!≠l.toArray[j-1]!):=by simpa [Lib.keeps]using hk
    have h2:l.toArray[j]! =l.toArray[j-1]!:=Classical.byContradiction fun h=>h1 (.inr h);have h3:j≠0:=fun h=>h1 (.inl h);rw[h2];exact hU j (by omega) (j-1) (by omega)
theorem vq {x:Int}:x∈Lib.compact l↔x∈l:=by
 constructor
 .intro h;unfold Lib.compact Lib.compactUpTo at h;obtain⟨j,hj,rfl⟩:=List.mem_map.1 h;have mL:=List.mem_range.1 (List.mem_filter.1 hj).1;simp[mL]
 .intro h;obtain⟨j,hj,rfl⟩:=List.getElem_of_mem h;have:=hU l.length (Nat.le_refl _) j hj;simp[hj]at this;exact this
theorem jF {L:List (Nat->Int)} {i:Nat} {c:Int}:c∈bz L i↔cv L i c≠ []:=by
 unfold bz;rw[vq];unfold i9;rw[List.mem_mergeSort,List.mem_map];unfold cv;constructor
 .rintro⟨t,ht,e⟩ h;have:=List.filter_eq_nil_iff.1 h t ht;simp[e]at this
 .intro h;obtain⟨t,ht⟩:=List.exists_mem_of_ne_nil _ h;have:=List.mem_filter.1 ht;exact⟨t,this.1,by simpa using this.2⟩
end Go.Proofs.Cz
namespace Go.Proofs.Cz
open Go.RowKit
variable {L:List (Nat->Int)} {i m:Nat}
theorem results_tmp3 {fn:Func} {t u x:Tmp} (h:fn.results=#[.tmp t,.tmp u,.tmp x]) (tmps:Array Value) (P:Program) (w:World):(results fn tmps).run P w=.ok (.tuple #[tmps.getD t undef,tmps.getD u undef,tmps.getD x undef]) w:=by
 simp only[results,h];simp[Sem.run_bind,Result.andThen]
def fv (L:List (Nat->Int)) (i m:Nat):Prop:=(∀c,(cv L i c).length<=m)/\(m=0\/∃c,(cv L i c).length=m)
theorem fv.eq {m':Nat} (h:fv L i m) (h':fv L i m'):m=m':=by
 have a:m<=m':=by
  rcases h.2 with e|⟨c,e⟩
  .omega
  .have:=h'.1 c;omega
 have b:m'<=m:=by
  rcases h'.2 with e|⟨c,e⟩
  .omega
  .have:=h.1 c;omega
 omega
theorem fv.nil (i:Nat):fv [] i 0:=⟨fun c=>Nat.le_refl _,.inl rfl⟩
theorem eL (L:List (Nat->Int)) (i:Nat) (t:Nat->Int) (c:Int):(cv (L++[t]) i c).length=(cv L i c).length+if t i=c then 1 else 0:=by
 unfold cv;rw[List.filter_append,List.length_append];congr 1;by_cases h:t i=c<;>simp[h]
theorem fv.snoc {t:Nat->Int} (h:fv L i m):fv (L++[t]) i (max m ((cv L i (t i)).length+1)):=by
 refine⟨fun c=>?_,?_⟩
 .rw[eL];have h1:=h.1 c;by_cases e:t i=c
  .subst e;rw[if_pos rfl];omega
  .rw[if_neg e];omega
 .right;by_cases hm:m<=(cv L i (t i)).length+1
  .refine⟨t i,?_⟩;rw[eL,if_pos rfl];omega
  .rcases h.2 with e|⟨c,e⟩
   .omega
   .refine⟨c,?_⟩;rw[eL];by_cases e1:t i=c
    .subst e1;omega
    .rw[if_neg e1];omega
def ew (L:List (Nat->Int)) (i:Nat):Nat->Nat
 |0=>0
 |k+1=>match L[k]? with
  |some t=>max (ew L i k) ((cv (L.take k) i (t i)).length+1)
  |none=>ew L i k
theorem qZ (L:List (Nat->Int)) (i:Nat):∀k:Nat,k<=L.length->fv (L.take k) i (ew L i k)
 |0,_=>fv.nil i
 |k+1,hk=>by
  have hx:L[k]?=some L[k]:=List.getElem?_eq_getElem (by omega);unfold ew;rw[hx,List.take_add_one,hx];exact(qZ L i k (by omega)).snoc
def cw (L:List (Nat->Int)) (i:Nat):Nat:=ew L i L.length
theorem vr (L:List (Nat->Int)) (i:Nat):fv L i (cw L i):=by
 have h:=qZ L i L.length (Nat.le_refl _);rw[List.take_length]at h;exact h
def bJ (L:List (Nat->Int)):Nat->Int×Nat
 |0=>(-1,L.length)
 |k+1=>if cw L k<(bJ L k).2 then((k:Int),cw L k)else bJ L k
theorem vt (L:List (Nat->Int)):∀k:Nat,-1<=(bJ L k).1/\(bJ L k).1<k/\((bJ L k).1<0->(bJ L k).2=L.length)/\(0<=(bJ L k).1->(bJ L k).2<L.length/\(bJ L k).2=cw L (bJ L k).1.toNat)/\
 ∀i:Nat,i<k->(bJ L k).2<=cw L i/\(0<=(bJ L k).1->(i:Int)<(bJ L k).1->(bJ L k).2<cw L i)
 |0=>by
  refine⟨by show(-1:Int)<=-1;decide,by show(-1:Int)<((0:Nat):Int);decide,fun _=>rfl,fun h=>?_,fun i h=>by omega⟩;have:(0:Int)<=-1:=h;omega
 |k+1=>by
  obtain⟨h1,h2,h3,h4,h5⟩:=vt L k;unfold bJ
  have hle:(bJ L k).2<=L.length:=by
   by_cases h:(bJ L k).1<0
   .rw[h3 h];exact Nat.le_refl _
   .exact Nat.le_of_lt (h4 (by omega)).1
  by_cases h:cw L k<(bJ L k).2
  .rw[if_pos h];refine⟨by show(-1:Int)<=k;omega,by show(k:Int)<(k+1:Nat);omega,fun h=>?_,fun _=>⟨by show cw L k<_;omega,?_⟩,fun i hi=>⟨?_,fun _ AS=>?_⟩⟩
   .have:(k:Int)<0:=h;omega
   .show cw L k=cw L (k:Int).toNat;rw[Int.toNat_natCast]
   .show cw L k<=cw L i;by_cases e:i=k
    .subst e;exact Nat.le_refl _
    .have:=(h5 i (by omega)).1;omega
   .have AS:(i:Int)<k:=AS;show cw L k<cw L i;have:=(h5 i (by omega)).1;omega
  .rw[if_neg h];refine⟨h1,by omega,h3,h4,fun i hi=>?_⟩;by_cases e:i=k
   .subst e;exact⟨by omega,fun h6 h7=>by omega⟩
   .exact h5 i (by omega)
end Go.Proofs.Cz
