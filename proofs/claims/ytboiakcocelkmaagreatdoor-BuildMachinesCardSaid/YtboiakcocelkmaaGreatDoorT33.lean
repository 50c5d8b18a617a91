/- A part. Conditions: none. -/
import Derived.Test.YtboiakcocelkmaaGreatDoorT32
import Derived.Deep.RegionHeld3
import Derived.Deep.RegionLaw
set_option linter.all false
namespace Go.Proofs.Cz
open Go.RowKit
variable {W:World} {c:Array Value} {h:Array Obj} {n:Nat} {t:TypeId}
theorem bX {P:Program} {w:World} {ops:Array Oper} {o:Oper} {a:Act} {K:Act->World->Prop} {Q:Exit->Act->World->Prop} {E:Prop} (If:o.guard=none) (s x:Operand) (t:TypeId)
 (ho:o.op=.call {callee:=.builtin .append,args:=#[s,x],argTypes:=#[t,t]})
 (base:Nat) (e:TypeId) (i:TypeInfo) (z:Value) (size bytes:Nat) (ht:P.underlying t=some (.slice e)) (hi:P.info? e=some i) (hz:i.zero=some z)
 (jR:i.size=size) (L7:i.bytes=bytes) (Qv:z.cells.size=size) (bP:0<size)
 (v:Value) (n:Nat) (xs:List Value) (hs:a.eval s=v) (bL:w.ownsRow base e size v n xs)
 (ad:Addr) (m c:Nat) (news:List Value) (hx:a.eval x=.slice (some ad) m c) (hl:news.length=m*size) (kL:∀j u,news[j]?=some u->w.cell? (ad.add j)=some u) (h1:∀u∈news,u.oneCell'=true)
 (L9:n+m<=maxLen) (jH:(n+m)*bytes<=140737488355328) (i7:base<=w.heap.size)
 (h:∀v' w',w'.ownsRow base e size v' (n+m) (xs++news)->w.grownBy w' v.ownBlock->K (a.put o.dst v') w'):
 if Region.wanted o (yielded ops a.tmps)=true then Oper.wp P o a w K Q else E:=by
 have hw:Region.wanted o (yielded ops a.tmps)=true:=by simp[Region.wanted,If]
 rw[if_pos hw];exact wp_append_own w s x t ho base e i z size bytes ht hi hz jR L7 Qv bP v n xs hs bL ad m c news hx hl kL h1 L9 jH i7 fun v' w' h2 h3 _=>h v' w' h2 h3
theorem ac.grow {O:List Nat} {W1 W2:World} {row:Option Nat} (h:ac O W W1) (hg:W1.grownBy W2 row) (hr:∀k,row=some k->W.heap.size<=k):ac O W W2:=
 ⟨hg.os.trans h.os,hg.tape.trans h.tape,hg.output.trans h.output,Nat.le_trans h.size hg.size,fun k hk hn=>(hg.block k (Nat.lt_of_lt_of_le hk h.size) (fun e=>by have:=hr k e.symm;omega)).trans (h.block k hk hn)⟩
theorem rS {a m c:Nat} (h:n≠a):some n≠(Value.slice (some ⟨a,0,none⟩) m c).ownBlock:=fun e=>by
 have h2:n=a:=Option.some.inj e;omega
theorem eI (e:W.heap=h.push (.cells c t)) (hn:n=h.size):aX W n t c:=by
 unfold aX;rw[e,hn];exact Array.getElem?_push_size
theorem dD {X:Obj} (e:W.heap=(h.push (.cells c t)).push X) (hn:n=h.size):aX W n t c:=by
 unfold aX;rw[e,hn,Array.getElem?_push,if_neg (by simp)];exact Array.getElem?_push_size
theorem jl {B g:Nat} {e:TypeId} {s:Nat} (h:aX W g e #[]) (hb:B<=g):W.ownsRow B e s (.slice (some ⟨g,0,none⟩) 0 0) 0 []:=⟨by simp,.inr ⟨g,0,#[],rfl,hb,h,Nat.le_refl _,Nat.zero_le _,by simp,by simp⟩⟩
def Good (b:an) (bit:Nat->Bool) (p n:Nat) (f:Nat->Int):Prop:=∀q,p<=q->q<p+n->bit q=true->f q∈bz b q/\(0<q->bit (q-1)=true->¬Apart b.apart (f (q-1)) (f q))
theorem nC (b:an) (bit:Nat->Bool):∀(n p:Nat) (m:Nat->Int),fill b bit n p m≠ []↔∃f,(∀q,q<p->f q=m q)/\Good b bit p n f
 |0,p,m=>by
  refine⟨fun _=>⟨m,fun _ _=>rfl,fun q h1 h2=>by omega⟩,fun _=>by simp[fill]⟩
 |n+1,p,m=>by
  rw[fill];by_cases hp:bit p=true
  .rw[if_pos hp];constructor
   .intro h;obtain⟨x,hx⟩:=List.exists_mem_of_ne_nil _ h;obtain⟨k,hk,hx⟩:=List.mem_flatMap.1 hx;split at hx
    .simp at hx
    .rename_i Yo;obtain⟨f,h1,h2⟩:=(nC b bit n (p+1) (upd m p k)).1 (List.ne_nil_of_mem hx);have Vl:f p=k:=by rw[h1 p (by omega),ja]
     refine⟨f,fun q hq=>by rw[h1 q (by omega),cN _ _ (by omega)],fun q pJ bR hb=>?_⟩;by_cases e:q=p
     .subst e;rw[Vl];refine⟨hk,fun h0 bu ha=>Yo ⟨h0,bu,?_⟩⟩;rwa [h1 (q-1) (by omega),cN _ _ (by omega)]at ha
     .exact h2 q (by omega) (by omega) hb
   .rintro⟨f,h1,h2⟩;obtain⟨hk,Yo⟩:=h2 p (Nat.le_refl _) (by omega) hp
    have h3:fill b bit n (p+1) (upd m p (f p))≠ []:=(nC b bit n (p+1) _).2 ⟨f,fun q hq=>by
     by_cases e:q=p
     .subst e;rw[ja]
     .rw[cN _ _ e,h1 q (by omega)],fun q pJ bR=>h2 q (by omega) (by omega)⟩
    obtain⟨x,hx⟩:=List.exists_mem_of_ne_nil _ h3;refine List.ne_nil_of_mem (a:=x) (List.mem_flatMap.2 ⟨f p,hk,?_⟩);rw[if_neg]
    .exact hx
    .rintro⟨h0,bu,ha⟩;refine Yo h0 bu ?_;rwa [h1 (p-1) (by omega)]
  .rw[if_neg hp];refine(nC b bit n (p+1) m).trans ⟨?_,?_⟩
   .rintro⟨f,h1,h2⟩;refine⟨f,fun q hq=>h1 q (by omega),fun q pJ bR hb=>?_⟩;by_cases e:q=p
    .subst e;exact absurd hb hp
    .exact h2 q (by omega) (by omega) hb
   .rintro⟨f,h1,h2⟩;refine⟨upd f p (m p),fun q hq=>?_,fun q pJ bR hb=>?_⟩
    .by_cases e:q=p
     .subst e;rw[ja]
     .rw[cN _ _ e,h1 q (by omega)]
    .obtain⟨h3,h4⟩:=h2 q (by omega) (by omega) hb;rw[cN _ _ (by omega:q≠p)];refine⟨h3,fun h0 bu=>?_⟩;by_cases e:q-1=p
     .rw[e]at bu;exact absurd bu hp
     .rw[cN _ _ e];exact h4 h0 bu
theorem rT (m:Nat):∀(k q:Nat),((q:Int)∈aq m k)↔q<k/\m.testBit q=true
 |0,q=>by simp[aq]
 |k+1,q=>by
  rw[aq,List.mem_append,rT m k q];constructor
  .rintro(h|h)
   .exact⟨by omega,h.2⟩
   .split at h
    .rename_i hb;simp at h;have:q=k:=by omega
     subst this;exact⟨by omega,hb⟩
    .simp at h
  .rintro⟨h1,h2⟩;by_cases e:q=k
   .subst e;right;rw[if_pos h2];simp
   .exact .inl ⟨by omega,h2⟩
def ak (l:List Int):Nat->Int:=fun i=>(l[i]?).getD 0
theorem kM {o:List Int} {p:Nat} (h:o.length=p) (k:Int):ak (o++[k])=upd (ak o) p k:=by
 funext i;unfold ak upd;by_cases hi:i=p
 .subst hi;rw[if_pos rfl,<-h];simp
 .rw[if_neg hi];by_cases h2:i<p
  .rw[List.getElem?_append_left (by omega)]
  .have e1:(o++[k])[i]?=none:=List.getElem?_eq_none (by simp;omega);have e2:o[i]?=none:=List.getElem?_eq_none (by omega);simp only[e1,e2]
open Classical in
noncomputable def ij (b:an) (p:Nat) (o:List Int):List (List Int):=((bz b p).filter fun k=>decide (¬(0<p/\Apart b.apart (ak o (p-1)) k))).map fun k=>o++[k]
noncomputable def a8 (b:an):Nat->List (List Int)
 |0=>[[]]
 |i+1=>(a8 b i).flatMap (ij b i)
noncomputable def rU (b:an):Nat->Nat->List (List Int)->List (List Int)
 |0,_,L=>L
 |n+1,p,L=>rU b n (p+1) (L.flatMap (ij b p))
theorem oK (b:an):∀(n p:Nat) (L:List (List Int)),rU b n p L=L.flatMap fun o=>rU b n p [o]
 |0,p,L=>by simp[rU]
 |n+1,p,L=>by
  simp only[rU];rw[oK b n (p+1),List.flatMap_assoc];congr 1;funext o;rw[oK b n (p+1) ([o].flatMap _)];simp
theorem ui (b:an):∀(n p:Nat) (L:List (List Int)),rU b (n+1) p L=(rU b n p L).flatMap (ij b (p+n))
 |0,p,L=>rfl
 |n+1,p,L=>by
  rw[rU,ui b n (p+1)];rw[show p+1+n=p+(n+1) by omega];rfl
theorem rV (b:an):∀n,a8 b n=rU b n 0 [[]]
 |0=>rfl
 |n+1=>by rw[ui,<-rV b n,Nat.zero_add];rfl
theorem fB {α:Type} (c:Int->Prop) [DecidablePred c] (f:Int->List α):∀l:List Int,(l.filter fun k=>decide (c k)).flatMap f=l.flatMap fun k=>if c k then f k else []
 | []=>rfl
 |x::l=>by
  by_cases h:c x
  .simp[h,fB c f l]
  .simp[h,fB c f l]
theorem yz {b:an} {bit:Nat->Bool} {N:Nat} (OH:∀q,q<N->bit q=true):∀(n p:Nat) (o:List Int),o.length=p->p+n=N->fill b bit n p (ak o)=(rU b n p [o]).map ak
 |0,p,o,_,_=>rfl
 |n+1,p,o,ho,hN=>by
  classical
  rw[fill,if_pos (OH p (by omega)),rU,oK];simp only[List.flatMap_singleton,ij];rw[List.flatMap_map,List.map_flatMap,fB];refine congrArg (fun g=>List.flatMap g (bz b p)) (funext fun k=>?_);by_cases hc:0<p/\Apart b.apart (ak o (p-1)) k
  .rw[if_pos ⟨hc.1,OH (p-1) (by omega),hc.2⟩,if_neg (fun h=>h hc)]
  .rw[if_neg (fun h=>hc ⟨h.1,h.2.2⟩),if_pos hc,<-kM ho k];exact yz OH n (p+1) (o++[k]) (by simp[ho]) (by omega)
theorem rW (b:an):aN b=(a8 b b.places.toNat).map ak:=by
 rw[rV];unfold aN;rw[show(fun _=>(0:Int))=ak []from rfl];exact yz (N:=b.places.toNat) (fun q hq=>by rw[Nat.testBit_two_pow_sub_one];simpa using hq) _ 0 [] rfl (by omega)
def SJ (b:an) (p:Nat) (o:List Int):Prop:=o.length=p/\∀(i:Nat) (x:Int),o[i]?=some x->x∈bz b i/\(0<i->¬Apart b.apart (ak o (i-1)) x)
theorem my {b:an}:∀{p:Nat} {o:List Int},o∈a8 b p->SJ b p o
 |0,o,h=>by
  simp[a8]at h;subst h;exact⟨rfl,fun i x h=>by simp at h⟩
 |p+1,o,h=>by
  classical
  simp only[a8,List.mem_flatMap]at h;obtain⟨o',Bq,h⟩:=h;obtain⟨h1,h2⟩:=my Bq;simp only[ij,List.mem_map,List.mem_filter,decide_eq_true_eq]at h;obtain⟨k,⟨hk,hc⟩,rfl⟩:=h;refine⟨by simp[h1],fun i x hi=>?_⟩;by_cases hip:i<p
  .rw[List.getElem?_append_left (by omega)]at hi;obtain⟨h3,h4⟩:=h2 i x hi;refine⟨h3,fun hp=>?_⟩;have e:ak (o'++[k]) (i-1)=ak o' (i-1):=by rw[kM h1,cN _ _ (by omega)]
   rw[e];exact h4 hp
  .have az:=(List.getElem?_eq_some_iff.1 hi).1;simp at az;obtain rfl:i=p:=by omega
   rw[<-h1]at hi;simp at hi;subst hi;refine⟨hk,fun hp=>?_⟩;have e:ak (o'++[k]) (i-1)=ak o' (i-1):=by rw[kM h1,cN _ _ (by omega)]
   rw[e];exact fun ha=>hc ⟨hp,ha⟩
end Go.Proofs.Cz
