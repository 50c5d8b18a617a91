/- A part. Conditions: none. -/
import Derived.Test.YtddlcmejelobdaaGreatDoorT33
import Derived.Deep.RegionHeld3
import Derived.Deep.RegionLaw
set_option linter.all false
namespace Go.Proofs.Cz
open Go.RowKit
variable {W:World} {b:ai} {c:Array Value} {h:Array Obj} {n:Nat} {o:List Int} {t:TypeId}
theorem hQ {P:Program} {w:World} {ops:Array Oper} {o:Oper} {a:Act} {K:Act->World->Prop} {Q:Exit->Act->World->Prop} {E:Prop} (NS:o.guard=none) (s x:Operand) (t:TypeId)
 (ho:o.op=.call {callee:=.builtin .append,args:=#[s,x],argTypes:=#[t,t]})
 (base:Nat) (e:TypeId) (i:TypeInfo) (z:Value) (size bytes:Nat) (ht:P.underlying t=some (.slice e)) (hi:P.info? e=some i) (hz:i.zero=some z)
 (rM:i.size=size) (hby:i.bytes=bytes) (Y7:z.cells.size=size) (bQ:0<size)
 (v:Value) (n:Nat) (xs:List Value) (hs:a.eval s=v) (bO:w.ownsRow base e size v n xs)
 (ad:Addr) (m c:Nat) (news:List Value) (hx:a.eval x=.slice (some ad) m c) (hl:news.length=m*size) (zK:∀j u,news[j]?=some u->w.cell? (ad.add j)=some u) (h1:∀u∈news,u.oneCell'=true)
 (h63:n+m<=maxLen) (wZ:(n+m)*bytes<=140737488355328) (kS:base<=w.heap.size)
 (h:∀v' w',w'.ownsRow base e size v' (n+m) (xs++news)->w.grownBy w' v.ownBlock->K (a.put o.dst v') w'):
 if Region.wanted o (yielded ops a.tmps)=true then Oper.wp P o a w K Q else E:=by
 have hw:Region.wanted o (yielded ops a.tmps)=true:=by simp[Region.wanted,NS]
 rw[if_pos hw];exact wp_append_own w s x t ho base e i z size bytes ht hi hz rM hby Y7 bQ v n xs hs bO ad m c news hx hl zK h1 h63 wZ kS fun v' w' h2 h3 _=>h v' w' h2 h3
theorem aa.grow {O:List Nat} {W1 W2:World} {row:Option Nat} (h:aa O W W1) (hg:W1.grownBy W2 row) (hr:∀k,row=some k->W.heap.size<=k):aa O W W2:=
 ⟨hg.os.trans h.os,hg.tape.trans h.tape,hg.output.trans h.output,Nat.le_trans h.size hg.size,fun k hk hn=>(hg.block k (Nat.lt_of_lt_of_le hk h.size) (fun e=>by have:=hr k e.symm;omega)).trans (h.block k hk hn)⟩
theorem RP {a m c:Nat} (h:n≠a):some n≠(Value.slice (some ⟨a,0,none⟩) m c).ownBlock:=fun e=>by
 have h2:n=a:=Option.some.inj e;omega
theorem z8 (e:W.heap=h.push (.cells c t)) (hn:n=h.size):aD W n t c:=by
 unfold aD;rw[e,hn];exact Array.getElem?_push_size
theorem vn {X:Obj} (e:W.heap=(h.push (.cells c t)).push X) (hn:n=h.size):aD W n t c:=by
 unfold aD;rw[e,hn,Array.getElem?_push,if_neg (by simp)];exact Array.getElem?_push_size
theorem Gd {B g:Nat} {e:TypeId} {s:Nat} (h:aD W g e #[]) (hb:B<=g):W.ownsRow B e s (.slice (some ⟨g,0,none⟩) 0 0) 0 []:=⟨by simp,.inr ⟨g,0,#[],rfl,hb,h,Nat.le_refl _,Nat.zero_le _,by simp,by simp⟩⟩
def Good (b:ai) (bit:Nat->Bool) (p n:Nat) (f:Nat->Int):Prop:=∀q,p<=q->q<p+n->bit q=true->f q∈cR b q/\(0<q->bit (q-1)=true->¬Apart b.apart (f (q-1)) (f q))
theorem z9 {p k:Int}:k∈cR b p↔∃i:Nat,i<b.parts.length/\k=i/\∃x,b.parts[i]?=some x/\p∈x.fits:=uV
def aj (l:List Int):Nat->Int:=fun i=>(l[i]?).getD 0
theorem jc {p:Nat} (h:o.length=p) (k:Int):aj (o++[k])=upd (aj o) p k:=by
 funext i;unfold aj upd;by_cases hi:i=p
 .subst hi;rw[if_pos rfl,<-h];simp
 .rw[if_neg hi];by_cases h2:i<p
  .rw[List.getElem?_append_left (by omega)]
  .have e1:(o++[k])[i]?=none:=List.getElem?_eq_none (by simp;omega);have e2:o[i]?=none:=List.getElem?_eq_none (by omega);simp only[e1,e2]
open Classical in
noncomputable def iK (b:ai) (p:Nat) (o:List Int):List (List Int):=((cR b p).filter fun k=>decide (¬(0<p/\Apart b.apart (aj o (p-1)) k))).map fun k=>o++[k]
noncomputable def aU (b:ai):Nat->List (List Int)
 |0=>[[]]
 |i+1=>(aU b i).flatMap (iK b i)
noncomputable def sO (b:ai):Nat->Nat->List (List Int)->List (List Int)
 |0,_,L=>L
 |n+1,p,L=>sO b n (p+1) (L.flatMap (iK b p))
theorem pz (b:ai):∀(n p:Nat) (L:List (List Int)),sO b n p L=L.flatMap fun o=>sO b n p [o]
 |0,p,L=>by simp[sO]
 |n+1,p,L=>by
  simp only[sO];rw[pz b n (p+1),List.flatMap_assoc];congr 1;funext o;rw[pz b n (p+1) ([o].flatMap _)];simp
theorem vp (b:ai):∀(n p:Nat) (L:List (List Int)),sO b (n+1) p L=(sO b n p L).flatMap (iK b (p+n))
 |0,p,L=>rfl
 |n+1,p,L=>by
  rw[sO,vp b n (p+1)];rw[show p+1+n=p+(n+1) by omega];rfl
theorem sP (b:ai):∀n,aU b n=sO b n 0 [[]]
 |0=>rfl
 |n+1=>by rw[vp,<-sP b n,Nat.zero_add];rfl
theorem fP {α:Type} (c:Int->Prop) [DecidablePred c] (f:Int->List α):∀l:List Int,(l.filter fun k=>decide (c k)).flatMap f=l.flatMap fun k=>if c k then f k else []
 | []=>rfl
 |x::l=>by
  by_cases h:c x
  .simp[h,fP c f l]
  .simp[h,fP c f l]
theorem Aa {bit:Nat->Bool} {N:Nat} (RQ:∀q,q<N->bit q=true):∀(n p:Nat) (o:List Int),o.length=p->p+n=N->fill b bit n p (aj o)=(sO b n p [o]).map aj
 |0,p,o,_,_=>rfl
 |n+1,p,o,ho,hN=>by
  classical
  rw[fill,if_pos (RQ p (by omega)),sO,pz];simp only[List.flatMap_singleton,iK];rw[List.flatMap_map,List.map_flatMap,fP];refine congrArg (fun g=>List.flatMap g (cR b p)) (funext fun k=>?_);by_cases hc:0<p/\Apart b.apart (aj o (p-1)) k
  .rw[if_pos ⟨hc.1,RQ (p-1) (by omega),hc.2⟩,if_neg (fun h=>h hc)]
  .rw[if_neg (fun h=>hc ⟨h.1,h.2.2⟩),if_pos hc,<-jc ho k];exact Aa RQ n (p+1) (o++[k]) (by simp[ho]) (by omega)
theorem iL (b:ai):aM b=(aU b b.places.toNat).map aj:=by
 rw[sP];unfold aM;rw[show(fun _=>(0:Int))=aj []from rfl];exact Aa (N:=b.places.toNat) (fun q hq=>by rw[Nat.testBit_two_pow_sub_one];simpa using hq) _ 0 [] rfl (by omega)
def V9 (b:ai) (p:Nat) (o:List Int):Prop:=o.length=p/\∀(i:Nat) (x:Int),o[i]?=some x->x∈cR b i/\(0<i->¬Apart b.apart (aj o (i-1)) x)
theorem gq {b:ai}:∀{p:Nat} {o:List Int},o∈aU b p->V9 b p o
 |0,o,h=>by
  simp[aU]at h;subst h;exact⟨rfl,fun i x h=>by simp at h⟩
 |p+1,o,h=>by
  classical
  simp only[aU,List.mem_flatMap]at h;obtain⟨o',Sz,h⟩:=h;obtain⟨h1,h2⟩:=gq Sz;simp only[iK,List.mem_map,List.mem_filter,decide_eq_true_eq]at h;obtain⟨k,⟨hk,hc⟩,rfl⟩:=h;refine⟨by simp[h1],fun i x hi=>?_⟩;by_cases hip:i<p
  .rw[List.getElem?_append_left (by omega)]at hi;obtain⟨h3,h4⟩:=h2 i x hi;refine⟨h3,fun hp=>?_⟩;have e:aj (o'++[k]) (i-1)=aj o' (i-1):=by rw[jc h1,an _ _ (by omega)]
   rw[e];exact h4 hp
  .have ar:=(List.getElem?_eq_some_iff.1 hi).1;simp at ar;obtain rfl:i=p:=by omega
   rw[<-h1]at hi;simp at hi;subst hi;refine⟨hk,fun hp=>?_⟩;have e:aj (o'++[k]) (i-1)=aj o' (i-1):=by rw[jc h1,an _ _ (by omega)]
   rw[e];exact fun ha=>hc ⟨hp,ha⟩
theorem Ge (hv:Valid b) (h:o∈aU b b.places.toNat):eF b o:=by
 obtain⟨h1,h2⟩:=gq h;have hp:=hv.places;refine⟨by omega,fun j x hj hx=>?_,fun j x hj hx=>?_⟩
 .obtain⟨i,hi,e,_⟩:=z9.1 (h2 j x hx).1;omega
 .obtain⟨hc,hf⟩:=h2 j x hx;obtain⟨i,hi,e,y,hy,hm⟩:=z9.1 hc;refine⟨⟨y,by rw[e];exact hy,hm⟩,fun h0 z hz=>?_⟩;have e2:aj o (j-1)=z:=by unfold aj;rw[hz];rfl
  rw[<-e2];exact hf h0
end Go.Proofs.Cz
