/- A part. Conditions: none. -/
import Derived.Test.YthmokljbbkcjdaaGreatDoorT34
import Derived.Deep.RegionHeld3
import Derived.Deep.RegionLaw
set_option linter.all false
namespace Go.Proofs.Cz
open Go.RowKit
variable {W:World} {b:av} {c:Array Value} {h:Array Obj} {n:Nat} {o:List Int} {t:TypeId}
theorem dZ {P:Program} {w:World} {ops:Array Oper} {o:Oper} {a:Act} {K:Act->World->Prop} {Q:Exit->Act->World->Prop} {E:Prop} (MK:o.guard=none) (s x:Operand) (t:TypeId)
 (ho:o.op=.call {callee:=.builtin .append,args:=#[s,x],argTypes:=#[t,t]})
 (base:Nat) (e:TypeId) (i:TypeInfo) (z:Value) (size bytes:Nat) (ht:P.underlying t=some (.slice e)) (hi:P.info? e=some i) (hz:i.zero=some z)
 (rI:i.size=size) (hby:i.bytes=bytes) (YK:z.cells.size=size) (cM:0<size)
 (v:Value) (n:Nat) (xs:List Value) (hs:a.eval s=v) (cH:w.ownsRow base e size v n xs)
 (ad:Addr) (m c:Nat) (news:List Value) (hx:a.eval x=.slice (some ad) m c) (hl:news.length=m*size) (zF:∀j u,news[j]?=some u->w.cell? (ad.add j)=some u) (h1:∀u∈news,u.oneCell'=true)
 (h63:n+m<=maxLen) (xi:(n+m)*bytes<=140737488355328) (lC:base<=w.heap.size)
 (h:∀v' w',w'.ownsRow base e size v' (n+m) (xs++news)->w.grownBy w' v.ownBlock->K (a.put o.dst v') w'):
 if Region.wanted o (yielded ops a.tmps)=true then Oper.wp P o a w K Q else E:=by
 have hw:Region.wanted o (yielded ops a.tmps)=true:=by simp[Region.wanted,MK]
 rw[if_pos hw];exact wp_append_own w s x t ho base e i z size bytes ht hi hz rI hby YK cM v n xs hs cH ad m c news hx hl zF h1 h63 xi lC fun v' w' h2 h3 _=>h v' w' h2 h3
theorem aa.grow {O:List Nat} {W1 W2:World} {row:Option Nat} (h:aa O W W1) (hg:W1.grownBy W2 row) (hr:∀k,row=some k->W.heap.size<=k):aa O W W2:=
 ⟨hg.os.trans h.os,hg.tape.trans h.tape,hg.output.trans h.output,Nat.le_trans h.size hg.size,fun k hk hn=>(hg.block k (Nat.lt_of_lt_of_le hk h.size) (fun e=>by have:=hr k e.symm;omega)).trans (h.block k hk hn)⟩
theorem IS {a m c:Nat} (h:n≠a):some n≠(Value.slice (some ⟨a,0,none⟩) m c).ownBlock:=fun e=>by
 have h2:n=a:=Option.some.inj e;omega
theorem oL (e:W.heap=h.push (.cells c t)) (hn:n=h.size):aF W n t c:=by
 unfold aF;rw[e,hn];exact Array.getElem?_push_size
theorem mA {X:Obj} (e:W.heap=(h.push (.cells c t)).push X) (hn:n=h.size):aF W n t c:=by
 unfold aF;rw[e,hn,Array.getElem?_push,if_neg (by simp)];exact Array.getElem?_push_size
theorem uY {B g:Nat} {e:TypeId} {s:Nat} (h:aF W g e #[]) (hb:B<=g):W.ownsRow B e s (.slice (some ⟨g,0,none⟩) 0 0) 0 []:=⟨by simp,.inr ⟨g,0,#[],rfl,hb,h,Nat.le_refl _,Nat.zero_le _,by simp,by simp⟩⟩
def Good (b:av) (bit:Nat->Bool) (p n:Nat) (f:Nat->Int):Prop:=∀q,p<=q->q<p+n->bit q=true->f q∈dx b q/\(0<q->bit (q-1)=true->¬Apart b.apart (f (q-1)) (f q))
theorem zX {p k:Int}:k∈dx b p↔∃i:Nat,i<b.parts.length/\k=i/\∃x,b.parts[i]?=some x/\p∈x.fits:=pS
def ai (l:List Int):Nat->Int:=fun i=>(l[i]?).getD 0
theorem lV {p:Nat} (h:o.length=p) (k:Int):ai (o++[k])=upd (ai o) p k:=by
 funext i;unfold ai upd;by_cases hi:i=p
 .subst hi;rw[if_pos rfl,<-h];simp
 .rw[if_neg hi];by_cases h2:i<p
  .rw[List.getElem?_append_left (by omega)]
  .have e1:(o++[k])[i]?=none:=List.getElem?_eq_none (by simp;omega);have e2:o[i]?=none:=List.getElem?_eq_none (by omega);simp only[e1,e2]
open Classical in
noncomputable def fM (b:av) (p:Nat) (o:List Int):List (List Int):=((dx b p).filter fun k=>decide (¬(0<p/\Apart b.apart (ai o (p-1)) k))).map fun k=>o++[k]
noncomputable def aU (b:av):Nat->List (List Int)
 |0=>[[]]
 |i+1=>(aU b i).flatMap (fM b i)
noncomputable def sI (b:av):Nat->Nat->List (List Int)->List (List Int)
 |0,_,L=>L
 |n+1,p,L=>sI b n (p+1) (L.flatMap (fM b p))
theorem pW (b:av):∀(n p:Nat) (L:List (List Int)),sI b n p L=L.flatMap fun o=>sI b n p [o]
 |0,p,L=>by simp[sI]
 |n+1,p,L=>by
  simp only[sI];rw[pW b n (p+1),List.flatMap_assoc];congr 1;funext o;rw[pW b n (p+1) ([o].flatMap _)];simp
theorem uZ (b:av):∀(n p:Nat) (L:List (List Int)),sI b (n+1) p L=(sI b n p L).flatMap (fM b (p+n))
 |0,p,L=>rfl
 |n+1,p,L=>by
  rw[sI,uZ b n (p+1)];rw[show p+1+n=p+(n+1) by omega];rfl
theorem sJ (b:av):∀n,aU b n=sI b n 0 [[]]
 |0=>rfl
 |n+1=>by rw[uZ,<-sJ b n,Nat.zero_add];rfl
theorem fN {α:Type} (c:Int->Prop) [DecidablePred c] (f:Int->List α):∀l:List Int,(l.filter fun k=>decide (c k)).flatMap f=l.flatMap fun k=>if c k then f k else []
 | []=>rfl
 |x::l=>by
  by_cases h:c x
  .simp[h,fN c f l]
  .simp[h,fN c f l]
theorem zY {bit:Nat->Bool} {N:Nat} (Qe:∀q,q<N->bit q=true):∀(n p:Nat) (o:List Int),o.length=p->p+n=N->fill b bit n p (ai o)=(sI b n p [o]).map ai
 |0,p,o,_,_=>rfl
 |n+1,p,o,ho,hN=>by
  classical
  rw[fill,if_pos (Qe p (by omega)),sI,pW];simp only[List.flatMap_singleton,fM];rw[List.flatMap_map,List.map_flatMap,fN];refine congrArg (fun g=>List.flatMap g (dx b p)) (funext fun k=>?_);by_cases hc:0<p/\Apart b.apart (ai o (p-1)) k
  .rw[if_pos ⟨hc.1,Qe (p-1) (by omega),hc.2⟩,if_neg (fun h=>h hc)]
  .rw[if_neg (fun h=>hc ⟨h.1,h.2.2⟩),if_pos hc,<-lV ho k];exact zY Qe n (p+1) (o++[k]) (by simp[ho]) (by omega)
theorem eF (b:av):aG b=(aU b b.places.toNat).map ai:=by
 rw[sJ];unfold aG;rw[show(fun _=>(0:Int))=ai []from rfl];exact zY (N:=b.places.toNat) (fun q hq=>by rw[Nat.testBit_two_pow_sub_one];simpa using hq) _ 0 [] rfl (by omega)
def U3 (b:av) (p:Nat) (o:List Int):Prop:=o.length=p/\∀(i:Nat) (x:Int),o[i]?=some x->x∈dx b i/\(0<i->¬Apart b.apart (ai o (i-1)) x)
theorem de:∀{p:Nat} {o:List Int},o∈aU b p->U3 b p o
 |0,o,h=>by
  simp[aU]at h;subst h;exact⟨rfl,fun i x h=>by simp at h⟩
 |p+1,o,h=>by
  classical
  simp only[aU,List.mem_flatMap]at h;obtain⟨o',CD,h⟩:=h;obtain⟨h1,h2⟩:=de CD;simp only[fM,List.mem_map,List.mem_filter,decide_eq_true_eq]at h;obtain⟨k,⟨hk,hc⟩,rfl⟩:=h;refine⟨by simp[h1],fun i x hi=>?_⟩;by_cases hip:i<p
  .rw[List.getElem?_append_left (by omega)]at hi;obtain⟨h3,h4⟩:=h2 i x hi;refine⟨h3,fun hp=>?_⟩;have e:ai (o'++[k]) (i-1)=ai o' (i-1):=by rw[lV h1,cr _ _ (by omega)]
   rw[e];exact h4 hp
  .have aA:=(List.getElem?_eq_some_iff.1 hi).1;simp at aA;obtain rfl:i=p:=by omega
   rw[<-h1]at hi;simp at hi;subst hi;refine⟨hk,fun hp=>?_⟩;have e:ai (o'++[k]) (i-1)=ai o' (i-1):=by rw[lV h1,cr _ _ (by omega)]
   rw[e];exact fun ha=>hc ⟨hp,ha⟩
theorem it (hv:Valid b) (h:o∈aU b b.places.toNat):bY b o:=by
 obtain⟨h1,h2⟩:=de h;have hp:=hv.places;refine⟨by omega,fun j x hj hx=>?_,fun j x hj hx=>?_⟩
 .obtain⟨i,hi,e,_⟩:=zX.1 (h2 j x hx).1;omega
 .obtain⟨hc,hf⟩:=h2 j x hx;obtain⟨i,hi,e,y,hy,hm⟩:=zX.1 hc;refine⟨⟨y,by rw[e];exact hy,hm⟩,fun h0 z hz=>?_⟩;have e2:ai o (j-1)=z:=by unfold ai;rw[hz];rfl
  rw[<-e2];exact hf h0
end Go.Proofs.Cz
