/- A part. Conditions: none. -/
import Derived.Test.YtddlcmejelobdaaGreatDoorT33
import Derived.Deep.RegionHeld3
import Derived.Deep.RegionLaw
set_option linter.all false
noncomputable section
namespace Go.Proofs.Cz
open Go.RowKit
variable {W:nq} {b:ab} {c:Array fu} {h:Array Obj} {n:Nat} {o:List Int} {t:a00}
def iW {P:un} {w:nq} {ops:Array Oper} {o:Oper} {a:Act} {K:Act->nq->Prop} {Q:Exit->Act->nq->Prop} {E:Prop} (S3:o.guard=none) (s x:Operand) (t:a00)
 (ho:o.op=.call {callee:=.builtin .append,args:=#[s,x],argTypes:=#[t,t]})
 (base:Nat) (e:a00) (i:TypeInfo) (z:fu) (size bytes:Nat) (ht:P.underlying t=some (.slice e)) (hi:P.info? e=some i) (hz:i.zero=some z)
 (uE:i.size=size) (hby:i.bytes=bytes) (hzs:z.cells.size=size) (cr:0<size)
 (v:fu) (n:Nat) (xs:List fu) (hs:a.eval s=v) (bQ:w.ownsRow base e size v n xs)
 (ad:Addr) (m c:Nat) (news:List fu) (hx:a.eval x=.slice (some ad) m c) (hl:news.length=m*size) (Dp:∀j u,news[j]?=some u->w.cell? (ad.add j)=some u) (h1:∀u∈news,u.oneCell'=true)
 (h63:n+m<=maxLen) (AD:(n+m)*bytes<=140737488355328) (mK:base<=w.heap.size)
 (h:∀v' w',w'.ownsRow base e size v' (n+m) (xs++news)->w.grownBy w' v.ownBlock->K (a.put o.dst v') w'):
 if Region.wanted o (yielded ops a.tmps)=true then Oper.wp P o a w K Q else E:=by
 have hw:Region.wanted o (yielded ops a.tmps)=true:=by simp[Region.wanted,S3]
 rw[zAF hw];exact wp_append_own w s x t ho base e i z size bytes ht hi hz uE hby hzs cr v n xs hs bQ ad m c news hx hl Dp h1 h63 AD mK λv' w' h2 h3 _=>h v' w' h2 h3
def aa.grow {O:List Nat} {W1 W2:nq} {row:Option Nat} (h:aa O W W1) (hg:W1.grownBy W2 row) (hr:∀k,row=some k->W.heap.size<=k):aa O W W2:=
 ⟨hg.os.trans h.os,hg.tape.trans h.tape,hg.output.trans h.output,zAP h.size hg.size,λk hk hn=>(hg.block k (zAY hk h.size) (λe=>by have:=hr k e.symm;omega)).trans (h.block k hk hn)⟩
def Xg {a m c:Nat} (h:n≠a):some n≠(Value.slice (some ⟨a,0,none⟩) m c).ownBlock:=λe=>by
 have h2:n=a:=zAV e;omega
def DF (e:W.heap=h.push (.cells c t)) (hn:n=h.size):aA W n t c:=by
 unfold aA;rw[e,hn];exact Array.getElem?_push_size
def yQ {X:Obj} (e:W.heap=(h.push (.cells c t)).push X) (hn:n=h.size):aA W n t c:=by
 unfold aA;rw[e,hn,zBS,zAG (by simp)];exact Array.getElem?_push_size
def Kt {B g:Nat} {e:a00} {s:Nat} (h:aA W g e #[]) (hb:B<=g):W.ownsRow B e s (.slice (some ⟨g,0,none⟩) 0 0) 0 []:=⟨by simp,.inr ⟨g,0,#[],rfl,hb,h,zAB _,zAM _,by simp,by simp⟩⟩
def Good (b:ab) (bit:Nat->Bool) (p n:Nat) (f:Nat->Int):Prop:=∀q,p<=q->q<p+n->bit q=true->f q∈df b q/\(0<q->bit (q-1)=true->¬Apart b.aL (f (q-1)) (f q))
def qC (b:ab) (bit:Nat->Bool):∀(n p:Nat) (m:Nat->Int),fill b bit n p m≠ []↔∃f,(∀q,q<p->f q=m q)/\Good b bit p n f
 |0,p,m=>by
  refine⟨λ_=>⟨m,λ_ _=>rfl,λq h1 h2=>by omega⟩,λ_=>by simp[fill]⟩
 |n+1,p,m=>by
  rw[fill];by_cases hp:bit p=true
  .rw[zAF hp];constructor
   .intro h;obtain⟨x,hx⟩:=zEQ _ h;obtain⟨k,hk,hx⟩:=zDF.1 hx;split at hx
    .simp at hx
    .rename_i XL;obtain⟨f,h1,h2⟩:=(qC b bit n (p+1) (upd m p k)).1 (List.ne_nil_of_mem hx);have hfp:f p=k:=by rw[h1 p (by omega),bO]
     refine⟨f,λq hq=>by rw[h1 q (by omega),az _ _ (by omega)],λq uh cR hb=>?_⟩;by_cases e:q=p
     .subst e;rw[hfp];refine⟨hk,λh0 bq ha=>XL ⟨h0,bq,?_⟩⟩;rwa [h1 (q-1) (by omega),az _ _ (by omega)]at ha
     .exact h2 q (by omega) (by omega) hb
   .rintro⟨f,h1,h2⟩;obtain⟨hk,XL⟩:=h2 p (zAB _) (by omega) hp
    have h3:fill b bit n (p+1) (upd m p (f p))≠ []:=(qC b bit n (p+1) _).2 ⟨f,λq hq=>by
     by_cases e:q=p
     .subst e;rw[bO]
     .rw[az _ _ e,h1 q (by omega)],λq uh cR=>h2 q (by omega) (by omega)⟩
    obtain⟨x,hx⟩:=zEQ _ h3;refine List.ne_nil_of_mem (a:=x) (zDF.2 ⟨f p,hk,?_⟩);rw[zAG]
    .exact hx
    .rintro⟨h0,bq,ha⟩;refine XL h0 bq ?_;rwa [h1 (p-1) (by omega)]
  .rw[zAG hp];refine(qC b bit n (p+1) m).trans ⟨?_,?_⟩
   .rintro⟨f,h1,h2⟩;refine⟨f,λq hq=>h1 q (by omega),λq uh cR hb=>?_⟩;by_cases e:q=p
    .subst e;exact absurd hb hp
    .exact h2 q (by omega) (by omega) hb
   .rintro⟨f,h1,h2⟩;refine⟨upd f p (m p),λq hq=>?_,λq uh cR hb=>?_⟩
    .by_cases e:q=p
     .subst e;rw[bO]
     .rw[az _ _ e,h1 q (by omega)]
    .obtain⟨h3,h4⟩:=h2 q (by omega) (by omega) hb;rw[az _ _ (by omega:q≠p)];refine⟨h3,λh0 bq=>?_⟩;by_cases e:q-1=p
     .rw[e]at bq;exact absurd bq hp
     .rw[az _ _ e];exact h4 h0 bq
def vH (m:Nat):∀(k q:Nat),((q:Int)∈aQ m k)↔q<k/\m.testBit q=true
 |0,q=>by simp[aQ]
 |k+1,q=>by
  rw[aQ,zCH,vH m k q];constructor
  .rintro(h|h)
   .exact⟨by omega,h.2⟩
   .split at h
    .rename_i hb;simp at h;have:q=k:=by omega
     subst this;exact⟨by omega,hb⟩
    .simp at h
  .rintro⟨h1,h2⟩;by_cases e:q=k
   .subst e;right;rw[zAF h2];simp
   .exact .inl ⟨by omega,h2⟩
def nf {p k:Int}:k∈df b p↔∃i:Nat,i<b.ptz.length/\k=i/\∃x,b.ptz[i]?=some x/\p∈x.fits:=rL
def ac (l:List Int):Nat->Int:=λi=>(l[i]?).getD 0
def jV {p:Nat} (h:o.length=p) (k:Int):ac (o++[k])=upd (ac o) p k:=by
 funext i;unfold ac upd;by_cases hi:i=p
 .subst hi;rw[zAF rfl,<-h];simp
 .rw[zAG hi];by_cases h2:i<p
  .rw[zCV (by omega)]
  .have e1:(o++[k])[i]?=none:=zCZ (by simp;omega);have e2:o[i]?=none:=zCZ (by omega);simp only[e1,e2]
open Classical in
def gz (b:ab) (p:Nat) (o:List Int):List (List Int):=((df b p).filter λk=>decide (¬(0<p/\Apart b.aL (ac o (p-1)) k))).map λk=>o++[k]
def aM (b:ab):Nat->List (List Int)
 |0=>[[]]
 |i+1=>(aM b i).flatMap (gz b i)
def vI (b:ab):Nat->Nat->List (List Int)->List (List Int)
 |0,_,L=>L
 |n+1,p,L=>vI b n (p+1) (L.flatMap (gz b p))
def rP (b:ab):∀(n p:Nat) (L:List (List Int)),vI b n p L=L.flatMap λo=>vI b n p [o]
 |0,p,L=>by simp[vI]
 |n+1,p,L=>by
  simp only[vI];rw[rP b n (p+1),List.flatMap_assoc];congr 1;funext o;rw[rP b n (p+1) ([o].flatMap _)];simp
def yR (b:ab):∀(n p:Nat) (L:List (List Int)),vI b (n+1) p L=(vI b n p L).flatMap (gz b (p+n))
 |0,p,L=>rfl
 |n+1,p,L=>by
  rw[vI,yR b n (p+1)];rw[show p+1+n=p+(n+1) by omega];rfl
def vJ (b:ab):∀n,aM b n=vI b n 0 [[]]
 |0=>rfl
 |n+1=>by rw[yR,<-vJ b n,zDN];rfl
def gR {α:Type} (c:Int->Prop) [DecidablePred c] (f:Int->List α):∀l:List Int,(l.filter λk=>decide (c k)).flatMap f=l.flatMap λk=>if c k then f k else []
 | []=>rfl
 |x::l=>by
  by_cases h:c x
  .simp[h,gR c f l]
  .simp[h,gR c f l]
def DG {bit:Nat->Bool} {N:Nat} (Xh:∀q,q<N->bit q=true):∀(n p:Nat) (o:List Int),o.length=p->p+n=N->fill b bit n p (ac o)=(vI b n p [o]).map ac
 |0,p,o,_,_=>rfl
 |n+1,p,o,ho,hN=>by
  classical
  rw[fill,zAF (Xh p (by omega)),vI,rP];simp only[List.flatMap_singleton,gz];rw[List.flatMap_map,List.map_flatMap,gR];refine zBB (λg=>List.flatMap g (df b p)) (funext λk=>?_);by_cases hc:0<p/\Apart b.aL (ac o (p-1)) k
  .rw[zAF ⟨hc.1,Xh (p-1) (by omega),hc.2⟩,zAG (λh=>h hc)]
  .rw[zAG (λh=>hc ⟨h.1,h.2.2⟩),zAF hc,<-jV ho k];exact DG Xh n (p+1) (o++[k]) (by simp[ho]) (by omega)
def fp (b:ab):aB b=(aM b b.ah.toNat).map ac:=by
 rw[vJ];unfold aB;rw[show(λ_=>(0:Int))=ac []from rfl];exact DG (N:=b.ah.toNat) (λq hq=>by rw[Nat.testBit_two_pow_sub_one];simpa using hq) _ 0 [] rfl (by omega)
def zbo (b:ab) (p:Nat) (o:List Int):Prop:=o.length=p/\∀(i:Nat) (x:Int),o[i]?=some x->x∈df b i/\(0<i->¬Apart b.aL (ac o (i-1)) x)
def fq {b:ab}:∀{p:Nat} {o:List Int},o∈aM b p->zbo b p o
 |0,o,h=>by
  simp[aM]at h;subst h;exact⟨rfl,λi x h=>by simp at h⟩
 |p+1,o,h=>by
  classical
  simp only[aM,zDF]at h;obtain⟨o',BQ,h⟩:=h;obtain⟨h1,h2⟩:=fq BQ;simp only[gz,zBO,zCG,zBP]at h;obtain⟨k,⟨hk,hc⟩,rfl⟩:=h;refine⟨by simp[h1],λi x hi=>?_⟩;by_cases hip:i<p
  .rw[zCV (by omega)]at hi;obtain⟨h3,h4⟩:=h2 i x hi;refine⟨h3,λhp=>?_⟩;have e:ac (o'++[k]) (i-1)=ac o' (i-1):=by rw[jV h1,az _ _ (by omega)]
   rw[e];exact h4 hp
  .have av:=(zAT.1 hi).1;simp at av;obtain rfl:i=p:=by omega
   rw[<-h1]at hi;simp at hi;subst hi;refine⟨hk,λhp=>?_⟩;have e:ac (o'++[k]) (i-1)=ac o' (i-1):=by rw[jV h1,az _ _ (by omega)]
   rw[e];exact λha=>hc ⟨hp,ha⟩
def ik (hv:Valid b) (h:o∈aM b b.ah.toNat):cO b o:=by
 obtain⟨h1,h2⟩:=fq h;have hp:=hv.ah;refine⟨by omega,λj x hj hx=>?_,λj x hj hx=>?_⟩
 .obtain⟨i,hi,e,_⟩:=nf.1 (h2 j x hx).1;omega
 .obtain⟨hc,hf⟩:=h2 j x hx;obtain⟨i,hi,e,y,hy,hm⟩:=nf.1 hc;refine⟨⟨y,by rw[e];exact hy,hm⟩,λh0 z hz=>?_⟩;have e2:ac o (j-1)=z:=by unfold ac;rw[hz];rfl
  rw[<-e2];exact hf h0
end Go.Proofs.Cz
end
