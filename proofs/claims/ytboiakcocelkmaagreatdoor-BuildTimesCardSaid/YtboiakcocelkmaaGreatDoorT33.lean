/- A part. Conditions: none. -/
import Derived.Test.YtboiakcocelkmaaGreatDoorT32
import Derived.Deep.RegionHeld3
import Derived.Deep.RegionLaw
set_option linter.all false
namespace Go.Proofs.Cz
open Go.RowKit
variable {W:World} {b:ao} {c:Array Value} {h:Array Obj} {n:Nat} {o:List Int} {t:TypeId}
theorem dO {P:Program} {w:World} {ops:Array Oper} {o:Oper} {a:Act} {K:Act->World->Prop} {Q:Exit->Act->World->Prop} {E:Prop} (Km:o.guard=none) (s x:Operand) (t:TypeId)
 (ho:o.op=.call {callee:=.builtin .append,args:=#[s,x],argTypes:=#[t,t]})
 (base:Nat) (e:TypeId) (i:TypeInfo) (z:Value) (size bytes:Nat) (ht:P.underlying t=some (.slice e)) (hi:P.info? e=some i) (hz:i.zero=some z)
 (rK:i.size=size) (hby:i.bytes=bytes) (Yo:z.cells.size=size) (bX:0<size)
 (v:Value) (n:Nat) (xs:List Value) (hs:a.eval s=v) (bB:w.ownsRow base e size v n xs)
 (ad:Addr) (m c:Nat) (news:List Value) (hx:a.eval x=.slice (some ad) m c) (hl:news.length=m*size) (zG:∀j u,news[j]?=some u->w.cell? (ad.add j)=some u) (h1:∀u∈news,u.oneCell'=true)
 (h63:n+m<=maxLen) (xc:(n+m)*bytes<=140737488355328) (jz:base<=w.heap.size)
 (h:∀v' w',w'.ownsRow base e size v' (n+m) (xs++news)->w.grownBy w' v.ownBlock->K (a.put o.dst v') w'):
 if Region.wanted o (yielded ops a.tmps)=true then Oper.wp P o a w K Q else E:=by
 have hw:Region.wanted o (yielded ops a.tmps)=true:=by simp[Region.wanted,Km]
 rw[if_pos hw];exact wp_append_own w s x t ho base e i z size bytes ht hi hz rK hby Yo bX v n xs hs bB ad m c news hx hl zG h1 h63 xc jz fun v' w' h2 h3 _=>h v' w' h2 h3
theorem ac.grow {O:List Nat} {W1 W2:World} {row:Option Nat} (h:ac O W W1) (hg:W1.grownBy W2 row) (hr:∀k,row=some k->W.heap.size<=k):ac O W W2:=
 ⟨hg.os.trans h.os,hg.tape.trans h.tape,hg.output.trans h.output,Nat.le_trans h.size hg.size,fun k hk hn=>(hg.block k (Nat.lt_of_lt_of_le hk h.size) (fun e=>by have:=hr k e.symm;omega)).trans (h.block k hk hn)⟩
theorem CE {a m c:Nat} (h:n≠a):some n≠(Value.slice (some ⟨a,0,none⟩) m c).ownBlock:=fun e=>by
 have h2:n=a:=Option.some.inj e;omega
theorem jK (e:W.heap=h.push (.cells c t)) (hn:n=h.size):aF W n t c:=by
 unfold aF;rw[e,hn];exact Array.getElem?_push_size
theorem ic {X:Obj} (e:W.heap=(h.push (.cells c t)).push X) (hn:n=h.size):aF W n t c:=by
 unfold aF;rw[e,hn,Array.getElem?_push,if_neg (by simp)];exact Array.getElem?_push_size
theorem lS {B g:Nat} {e:TypeId} {s:Nat} (h:aF W g e #[]) (hb:B<=g):W.ownsRow B e s (.slice (some ⟨g,0,none⟩) 0 0) 0 []:=⟨by simp,.inr ⟨g,0,#[],rfl,hb,h,Nat.le_refl _,Nat.zero_le _,by simp,by simp⟩⟩
def Good (b:ao) (bit:Nat->Bool) (p n:Nat) (f:Nat->Int):Prop:=∀q,p<=q->q<p+n->bit q=true->f q∈df b q/\(0<q->bit (q-1)=true->¬Apart b.apart (f (q-1)) (f q))
theorem sQ {p k:Int}:k∈df b p↔∃i:Nat,i<b.parts.length/\k=i/\∃x,b.parts[i]?=some x/\p∈x.fits:=vb
def aa (l:List Int):Nat->Int:=fun i=>(l[i]?).getD 0
theorem i9 {p:Nat} (h:o.length=p) (k:Int):aa (o++[k])=upd (aa o) p k:=by
 funext i;unfold aa upd;by_cases hi:i=p
 .subst hi;rw[if_pos rfl,<-h];simp
 .rw[if_neg hi];by_cases h2:i<p
  .rw[List.getElem?_append_left (by omega)]
  .have e1:(o++[k])[i]?=none:=List.getElem?_eq_none (by simp;omega);have e2:o[i]?=none:=List.getElem?_eq_none (by omega);simp only[e1,e2]
open Classical in
noncomputable def gF (b:ao) (p:Nat) (o:List Int):List (List Int):=((df b p).filter fun k=>decide (¬(0<p/\Apart b.apart (aa o (p-1)) k))).map fun k=>o++[k]
noncomputable def aS (b:ao):Nat->List (List Int)
 |0=>[[]]
 |i+1=>(aS b i).flatMap (gF b i)
noncomputable def sR (b:ao):Nat->Nat->List (List Int)->List (List Int)
 |0,_,L=>L
 |n+1,p,L=>sR b n (p+1) (L.flatMap (gF b p))
theorem px (b:ao):∀(n p:Nat) (L:List (List Int)),sR b n p L=L.flatMap fun o=>sR b n p [o]
 |0,p,L=>by simp[sR]
 |n+1,p,L=>by
  simp only[sR];rw[px b n (p+1),List.flatMap_assoc];congr 1;funext o;rw[px b n (p+1) ([o].flatMap _)];simp
theorem vk (b:ao):∀(n p:Nat) (L:List (List Int)),sR b (n+1) p L=(sR b n p L).flatMap (gF b (p+n))
 |0,p,L=>rfl
 |n+1,p,L=>by
  rw[sR,vk b n (p+1)];rw[show p+1+n=p+(n+1) by omega];rfl
theorem sS (b:ao):∀n,aS b n=sR b n 0 [[]]
 |0=>rfl
 |n+1=>by rw[vk,<-sS b n,Nat.zero_add];rfl
theorem fK {α:Type} (c:Int->Prop) [DecidablePred c] (f:Int->List α):∀l:List Int,(l.filter fun k=>decide (c k)).flatMap f=l.flatMap fun k=>if c k then f k else []
 | []=>rfl
 |x::l=>by
  by_cases h:c x
  .simp[h,fK c f l]
  .simp[h,fK c f l]
theorem zS {bit:Nat->Bool} {N:Nat} (Q1:∀q,q<N->bit q=true):∀(n p:Nat) (o:List Int),o.length=p->p+n=N->fill b bit n p (aa o)=(sR b n p [o]).map aa
 |0,p,o,_,_=>rfl
 |n+1,p,o,ho,hN=>by
  classical
  rw[fill,if_pos (Q1 p (by omega)),sR,px];simp only[List.flatMap_singleton,gF];rw[List.flatMap_map,List.map_flatMap,fK];refine congrArg (fun g=>List.flatMap g (df b p)) (funext fun k=>?_);by_cases hc:0<p/\Apart b.apart (aa o (p-1)) k
  .rw[if_pos ⟨hc.1,Q1 (p-1) (by omega),hc.2⟩,if_neg (fun h=>h hc)]
  .rw[if_neg (fun h=>hc ⟨h.1,h.2.2⟩),if_pos hc,<-i9 ho k];exact zS Q1 n (p+1) (o++[k]) (by simp[ho]) (by omega)
theorem iB (b:ao):aR b=(aS b b.places.toNat).map aa:=by
 rw[sS];unfold aR;rw[show(fun _=>(0:Int))=aa []from rfl];exact zS (N:=b.places.toNat) (fun q hq=>by rw[Nat.testBit_two_pow_sub_one];simpa using hq) _ 0 [] rfl (by omega)
def Vy (b:ao) (p:Nat) (o:List Int):Prop:=o.length=p/\∀(i:Nat) (x:Int),o[i]?=some x->x∈df b i/\(0<i->¬Apart b.apart (aa o (i-1)) x)
theorem iC {b:ao}:∀{p:Nat} {o:List Int},o∈aS b p->Vy b p o
 |0,o,h=>by
  simp[aS]at h;subst h;exact⟨rfl,fun i x h=>by simp at h⟩
 |p+1,o,h=>by
  classical
  simp only[aS,List.mem_flatMap]at h;obtain⟨o',Gu,h⟩:=h;obtain⟨h1,h2⟩:=iC Gu;simp only[gF,List.mem_map,List.mem_filter,decide_eq_true_eq]at h;obtain⟨k,⟨hk,hc⟩,rfl⟩:=h;refine⟨by simp[h1],fun i x hi=>?_⟩;by_cases hip:i<p
  .rw[List.getElem?_append_left (by omega)]at hi;obtain⟨h3,h4⟩:=h2 i x hi;refine⟨h3,fun hp=>?_⟩;have e:aa (o'++[k]) (i-1)=aa o' (i-1):=by rw[i9 h1,bR _ _ (by omega)]
   rw[e];exact h4 hp
  .have az:=(List.getElem?_eq_some_iff.1 hi).1;simp at az;obtain rfl:i=p:=by omega
   rw[<-h1]at hi;simp at hi;subst hi;refine⟨hk,fun hp=>?_⟩;have e:aa (o'++[k]) (i-1)=aa o' (i-1):=by rw[i9 h1,bR _ _ (by omega)]
   rw[e];exact fun ha=>hc ⟨hp,ha⟩
theorem FT (hv:Valid b) (h:o∈aS b b.places.toNat):dp b o:=by
 obtain⟨h1,h2⟩:=iC h;have hp:=hv.places;refine⟨by omega,fun j x hj hx=>?_,fun j x hj hx=>?_⟩
 .obtain⟨i,hi,e,_⟩:=sQ.1 (h2 j x hx).1;omega
 .obtain⟨hc,hf⟩:=h2 j x hx;obtain⟨i,hi,e,y,hy,hm⟩:=sQ.1 hc;refine⟨⟨y,by rw[e];exact hy,hm⟩,fun h0 z hz=>?_⟩;have e2:aa o (j-1)=z:=by unfold aa;rw[hz];rfl
  rw[<-e2];exact hf h0
end Go.Proofs.Cz
