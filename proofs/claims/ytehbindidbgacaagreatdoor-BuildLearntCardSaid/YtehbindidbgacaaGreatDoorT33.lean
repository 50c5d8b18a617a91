/- A part. Conditions: none. -/
import Derived.Test.YtehbindidbgacaaGreatDoorT32
import Derived.Deep.RegionHeld3
import Derived.Deep.RegionLaw
set_option linter.all false
namespace Go.Proofs.Cz
open Go.RowKit
variable {W:World} {b:ap} {c:Array Value} {h:Array Obj} {n:Nat} {o:List Int} {t:TypeId}
theorem dk {P:Program} {w:World} {ops:Array Oper} {o:Oper} {a:Act} {K:Act->World->Prop} {Q:Exit->Act->World->Prop} {E:Prop} (IG:o.guard=none) (s x:Operand) (t:TypeId)
 (ho:o.op=.call {callee:=.builtin .append,args:=#[s,x],argTypes:=#[t,t]})
 (base:Nat) (e:TypeId) (i:TypeInfo) (z:Value) (size bytes:Nat) (ht:P.underlying t=some (.slice e)) (hi:P.info? e=some i) (hz:i.zero=some z)
 (sA:i.size=size) (hby:i.bytes=bytes) (hzs:z.cells.size=size) (bW:0<size)
 (v:Value) (n:Nat) (xs:List Value) (hs:a.eval s=v) (bN:w.ownsRow base e size v n xs)
 (ad:Addr) (m c:Nat) (news:List Value) (hx:a.eval x=.slice (some ad) m c) (hl:news.length=m*size) (AG:∀j u,news[j]?=some u->w.cell? (ad.add j)=some u) (h1:∀u∈news,u.oneCell'=true)
 (Qc:n+m<=maxLen) (ye:(n+m)*bytes<=140737488355328) (jT:base<=w.heap.size)
 (h:∀v' w',w'.ownsRow base e size v' (n+m) (xs++news)->w.grownBy w' v.ownBlock->K (a.put o.dst v') w'):
 if Region.wanted o (yielded ops a.tmps)=true then Oper.wp P o a w K Q else E:=by
 have hw:Region.wanted o (yielded ops a.tmps)=true:=by simp[Region.wanted,IG]
 rw[zAI hw];exact wp_append_own w s x t ho base e i z size bytes ht hi hz sA hby hzs bW v n xs hs bN ad m c news hx hl AG h1 Qc ye jT λv' w' h2 h3 _=>h v' w' h2 h3
theorem ab.grow {O:List Nat} {W1 W2:World} {row:Option Nat} (h:ab O W W1) (hg:W1.grownBy W2 row) (hr:∀k,row=some k->W.heap.size<=k):ab O W W2:=
 ⟨hg.os.trans h.os,hg.tape.trans h.tape,hg.output.trans h.output,zAP h.size hg.size,λk hk hn=>(hg.block k (zAV hk h.size) (λe=>by have:=hr k e.symm;omega)).trans (h.block k hk hn)⟩
theorem DI {a m c:Nat} (h:n≠a):some n≠(Value.slice (some ⟨a,0,none⟩) m c).ownBlock:=λe=>by
 have h2:n=a:=zAY e;omega
theorem oS (e:W.heap=h.push (.cells c t)) (hn:n=h.size):aA W n t c:=by
 unfold aA;rw[e,hn];exact Array.getElem?_push_size
theorem mE {X:Obj} (e:W.heap=(h.push (.cells c t)).push X) (hn:n=h.size):aA W n t c:=by
 unfold aA;rw[e,hn,zBQ,zAH (by simp)];exact Array.getElem?_push_size
theorem wg {B g:Nat} {e:TypeId} {s:Nat} (h:aA W g e #[]) (hb:B<=g):W.ownsRow B e s (.slice (some ⟨g,0,none⟩) 0 0) 0 []:=⟨by simp,.inr ⟨g,0,#[],rfl,hb,h,zAC _,zAR _,by simp,by simp⟩⟩
def Good (b:ap) (bit:Nat->Bool) (p n:Nat) (f:Nat->Int):Prop:=∀q,p<=q->q<p+n->bit q=true->f q∈db b q/\(0<q->bit (q-1)=true->¬Apart b.apart (f (q-1)) (f q))
theorem AW {p k:Int}:k∈db b p↔∃i:Nat,i<b.parts.length/\k=i/\∃x,b.parts[i]?=some x/\p∈x.fits:=vT
def ak (l:List Int):Nat->Int:=λi=>(l[i]?).getD 0
theorem lX {p:Nat} (h:o.length=p) (k:Int):ak (o++[k])=upd (ak o) p k:=by
 funext i;unfold ak upd;by_cases hi:i=p
 .subst hi;rw[zAI rfl,<-h];simp
 .rw[zAH hi];by_cases h2:i<p
  .rw[zCR (by omega)]
  .have e1:(o++[k])[i]?=none:=zDA (by simp;omega);have e2:o[i]?=none:=zDA (by omega);simp only[e1,e2]
open Classical in
noncomputable def iX (b:ap) (p:Nat) (o:List Int):List (List Int):=((db b p).filter λk=>decide (¬(0<p/\Apart b.apart (ak o (p-1)) k))).map λk=>o++[k]
noncomputable def aZ (b:ap):Nat->List (List Int)
 |0=>[[]]
 |i+1=>(aZ b i).flatMap (iX b i)
noncomputable def tF (b:ap):Nat->Nat->List (List Int)->List (List Int)
 |0,_,L=>L
 |n+1,p,L=>tF b n (p+1) (L.flatMap (iX b p))
theorem pW (b:ap):∀(n p:Nat) (L:List (List Int)),tF b n p L=L.flatMap λo=>tF b n p [o]
 |0,p,L=>by simp[tF]
 |n+1,p,L=>by
  simp only[tF];rw[pW b n (p+1),List.flatMap_assoc];congr 1;funext o;rw[pW b n (p+1) ([o].flatMap _)];simp
theorem wh (b:ap):∀(n p:Nat) (L:List (List Int)),tF b (n+1) p L=(tF b n p L).flatMap (iX b (p+n))
 |0,p,L=>rfl
 |n+1,p,L=>by
  rw[tF,wh b n (p+1)];rw[show p+1+n=p+(n+1) by omega];rfl
theorem tG (b:ap):∀n,aZ b n=tF b n 0 [[]]
 |0=>rfl
 |n+1=>by rw[wh,<-tG b n,zDG];rfl
theorem fY {α:Type} (c:Int->Prop) [DecidablePred c] (f:Int->List α):∀l:List Int,(l.filter λk=>decide (c k)).flatMap f=l.flatMap λk=>if c k then f k else []
 | []=>rfl
 |x::l=>by
  by_cases h:c x
  .simp[h,fY c f l]
  .simp[h,fY c f l]
theorem AX {bit:Nat->Bool} {N:Nat} (To:∀q,q<N->bit q=true):∀(n p:Nat) (o:List Int),o.length=p->p+n=N->fill b bit n p (ak o)=(tF b n p [o]).map ak
 |0,p,o,_,_=>rfl
 |n+1,p,o,ho,hN=>by
  classical
  rw[fill,zAI (To p (by omega)),tF,pW];simp only[List.flatMap_singleton,iX];rw[List.flatMap_map,List.map_flatMap,fY];refine zBK (λg=>List.flatMap g (db b p)) (funext λk=>?_);by_cases hc:0<p/\Apart b.apart (ak o (p-1)) k
  .rw[zAI ⟨hc.1,To (p-1) (by omega),hc.2⟩,zAH (λh=>h hc)]
  .rw[zAH (λh=>hc ⟨h.1,h.2.2⟩),zAI hc,<-lX ho k];exact AX To n (p+1) (o++[k]) (by simp[ho]) (by omega)
theorem iY (b:ap):aB b=(aZ b b.places.toNat).map ak:=by
 rw[tG];unfold aB;rw[show(λ_=>(0:Int))=ak []from rfl];exact AX (N:=b.places.toNat) (λq hq=>by rw[Nat.testBit_two_pow_sub_one];simpa using hq) _ 0 [] rfl (by omega)
def XX (b:ap) (p:Nat) (o:List Int):Prop:=o.length=p/\∀(i:Nat) (x:Int),o[i]?=some x->x∈db b i/\(0<i->¬Apart b.apart (ak o (i-1)) x)
theorem iZ {b:ap}:∀{p:Nat} {o:List Int},o∈aZ b p->XX b p o
 |0,o,h=>by
  simp[aZ]at h;subst h;exact⟨rfl,λi x h=>by simp at h⟩
 |p+1,o,h=>by
  classical
  simp only[aZ,zEY]at h;obtain⟨o',LQ,h⟩:=h;obtain⟨h1,h2⟩:=iZ LQ;simp only[iX,zCL,zCX,zBZ]at h;obtain⟨k,⟨hk,hc⟩,rfl⟩:=h;refine⟨by simp[h1],λi x hi=>?_⟩;by_cases hip:i<p
  .rw[zCR (by omega)]at hi;obtain⟨h3,h4⟩:=h2 i x hi;refine⟨h3,λhp=>?_⟩;have e:ak (o'++[k]) (i-1)=ak o' (i-1):=by rw[lX h1,bS _ _ (by omega)]
   rw[e];exact h4 hp
  .have az:=(zAK.1 hi).1;simp at az;obtain rfl:i=p:=by omega
   rw[<-h1]at hi;simp at hi;subst hi;refine⟨hk,λhp=>?_⟩;have e:ak (o'++[k]) (i-1)=ak o' (i-1):=by rw[lX h1,bS _ _ (by omega)]
   rw[e];exact λha=>hc ⟨hp,ha⟩
theorem wi (hv:Valid b) (h:o∈aZ b b.places.toNat):cr b o:=by
 obtain⟨h1,h2⟩:=iZ h;have hp:=hv.places;refine⟨by omega,λj x hj hx=>?_,λj x hj hx=>?_⟩
 .obtain⟨i,hi,e,_⟩:=AW.1 (h2 j x hx).1;omega
 .obtain⟨hc,hf⟩:=h2 j x hx;obtain⟨i,hi,e,y,hy,hm⟩:=AW.1 hc;refine⟨⟨y,by rw[e];exact hy,hm⟩,λh0 z hz=>?_⟩;have e2:ak o (j-1)=z:=by unfold ak;rw[hz];rfl
  rw[<-e2];exact hf h0
end Go.Proofs.Cz
