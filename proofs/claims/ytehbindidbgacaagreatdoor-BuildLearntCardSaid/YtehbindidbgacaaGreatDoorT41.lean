/- A part. Conditions: none. -/
import Derived.Test.YtehbindidbgacaaGreatDoorT40
set_option linter.all false
namespace Go.Proofs.Cz
open Go.RowKit
variable {A:World} {B cap g i n s:Nat} {L:List (Part×Value)} {O:List Nat} {e:TypeId} {l:List Int} {o:Obj} {u v:Value} {x:Part×Value} {xs:List Value}
def retime (l:List Part) (i:Nat) (lo hi:Int):List Part:=match l[i]? with|some x=>l.set i {x with lo:=lo,hi:=hi}|none=>l
def dK (b:ap) (i:Nat) (lo hi:Int):ap:={b with parts:=retime b.parts i lo hi}
theorem gJ (l:List Part) (i:Nat) (lo hi:Int):(retime l i lo hi).length=l.length:=by unfold retime;split<;>simp
def OG (w:World) (b:ap) (e:Ending) (w':World):Prop:=(∃u,e=.returned u/\ar w' u b)/\Below w.heap.size w w'
theorem bC {w:World} {t:TypeId} {cs:Array Value} (h:w.alloc (.cells cs t)=A):aA A w.heap.size t cs:=by rw[<-h];exact aA.new _ _ _
theorem aF {w:World} (h:w.alloc o=A):ab [] w A:=by rw[<-h];exact ab.alloc _ _ _
theorem dt {w:World} (h:w.alloc o=A):A.heap.size=w.heap.size+1:=by rw[<-h];simp
abbrev i7:Array Value:=#[.int .i64 0,.int .i64 0,.slice none 0 0,.slice none 0 0,.slice none 0 0]
theorem K6 {W:World} {t:Nat} {c0 c1 c2 c3 c4:Value} (v0 v1 v2 v3 v4:Value) (h:aA W g t #[c0,c1,c2,c3,c4]):
 aA (((((W.setCell ⟨g,0,none⟩ v0).setCell ⟨g,1,none⟩ v1).setCell ⟨g,2,none⟩ v2).setCell ⟨g,3,none⟩ v3).setCell ⟨g,4,none⟩ v4) g t #[v0,v1,v2,v3,v4]/\
 ab [g] W (((((W.setCell ⟨g,0,none⟩ v0).setCell ⟨g,1,none⟩ v1).setCell ⟨g,2,none⟩ v2).setCell ⟨g,3,none⟩ v3).setCell ⟨g,4,none⟩ v4):=
 ⟨((((h.set 0 v0).set 1 v1).set 2 v2).set 3 v3).set 4 v4,
  ((((ab.set W (by simp) v0).trans' (ab.set _ (by simp) v1)).trans' (ab.set _ (by simp) v2)).trans' (ab.set _ (by simp) v3)).trans' (ab.set _ (by simp) v4)⟩
theorem K7 (lo hi:Int) (hx:L[i]?=some x):(L.set i ({x.1 with lo:=lo,hi:=hi},x.2)).map Prod.fst=retime (L.map Prod.fst) i lo hi:=by
 unfold retime;rw[zCV,hx,List.map_set];rfl
theorem K8 {w:World} (h:w.ownsRow B e 6 (.slice (some ⟨g,0,none⟩) n cap) n (L.flatMap cL)) (hx:L[i]?=some x) (lo hi:Int):
 ((w.setCell ⟨g,i*6+3,none⟩ (.int .i64 lo)).setCell ⟨g,i*6+4,none⟩ (.int .i64 hi)).ownsRow B e 6 (.slice (some ⟨g,0,none⟩) n cap) n ((L.set i ({x.1 with lo:=lo,hi:=hi},x.2)).flatMap cL)/\ab [g] w ((w.setCell ⟨g,i*6+3,none⟩ (.int .i64 lo)).setCell ⟨g,i*6+4,none⟩ (.int .i64 hi)):=by
 have h1:=h.stored (i*6+3) (.int .i64 lo);have h2:=h1.1.stored (i*6+4) (.int .i64 hi);have Qk:=(zAK.1 hx).1;have e1:(L.flatMap cL).set (i*6+3) (.int .i64 lo)=(L.set i ({x.1 with lo:=lo},x.2)).flatMap cL:=lZ eQ L i 3 x _ _ hx (by omega) rfl
 have e2:((L.set i ({x.1 with lo:=lo},x.2)).flatMap cL).set (i*6+4) (.int .i64 hi)=(L.set i ({x.1 with lo:=lo,hi:=hi},x.2)).flatMap cL:=by
  rw[lZ eQ _ i 4 ({x.1 with lo:=lo},x.2) ({x.1 with lo:=lo,hi:=hi},x.2) _ (zEO Qk) (by omega) rfl,List.set_set]
 rw[e1]at h2;rw[e2]at h2;exact⟨h2.1,(ab.grown h1.2 (O:=[g]) (by simp)).trans' (ab.grown h2.2 (O:=[g]) (by simp))⟩
theorem fZ {w:World} (h:w.ownsRow B e 6 (.slice (some ⟨g,0,none⟩) n cap) n (L.flatMap cL)) (hx:L[i]?=some x) (hn:L.length=n) (r:Nat) (hr:r<6) (hu:(cL x)[r]?=some u):
 w.cell? ⟨g,i*6+r,none⟩=some u:=by
 have Qk:=(zAK.1 hx).1;exact(h.cellAt (i*6+r) (by omega)).trans ((iy eQ L i r x hx hr).trans hu)
def nJ (O:List Nat) (W:World) (v:Value) (l:List Int):Prop:=∀X,ab O W X->am X v l
theorem nJ.on {W X:World} (h:nJ O W v l) (k:ab O W X):nJ O X v l:=λY hY=>h Y (k.trans' hY)
theorem nJ.old {w W:World} (h:am w v l) (k:Below w.heap.size w W) (hg:∀o∈O,w.heap.size<=o):nJ O W v l:=λX hX=>
 h.later λj hj=>(hX.block j (zAV hj k.size) (λhm=>by have:=hg j hm;omega)).trans (k.block j hj)
theorem nJ.now {W:World} (h:nJ O W v l):am W v l:=h W (ab.refl _ _)
theorem yD {W:World} {c:Nat} (h:W.ownsRow B e s (.slice (some ⟨g,0,none⟩) n c) n xs):∃cur,W.heap[g]?=some (.cells cur e (0,0)):=by
 obtain⟨_,⟨h1,_⟩|⟨g',cap,cur,h1,_,hg,_⟩⟩:=h
 .cases h1
 .cases h1;exact⟨cur,hg⟩
theorem fA {W X:World} (h:W.ownsRow B e s v n xs) (ht:∀o∈O,o<B\/∃cu e',W.heap[o]?=some (.cells cu e' (0,0))/\e≠e') (k:ab O W X):X.ownsRow B e s v n xs:=by
 refine aR h λj hj=>k.block j (au h j hj).2 λhm=>?_;rcases ht j hm with h1|⟨cu,e',h1,h2⟩
 .have:=(au h j hj).1;omega
 .obtain⟨_,⟨rfl,_⟩|⟨g',cap,c,rfl,_,hg,_⟩⟩:=h
  .cases hj
  .cases hj;rw[h1]at hg;cases hg;exact h2 rfl
theorem nJ.new {W:World} (h:W.ownsRow B 3 1 v l.length (l.map (Value.int .i64))) (ht:∀o∈O,o<B\/∃cu e',W.heap[o]?=some (.cells cu e' (0,0))/\3≠e'):nJ O W v l:=λX hX=>
 am.eD (fA h ht hX)
theorem mH {w:World} {L:List (bH×Value)} {x:bH×Value} (h:w.ownsRow B e 3 (.slice (some ⟨g,0,none⟩) n cap) n (L.flatMap cj)) (hx:L[i]?=some x) (hn:L.length=n) (r:Nat) (hr:r<3) (hu:(cj x)[r]?=some u):
 w.cell? ⟨g,i*3+r,none⟩=some u:=by
 have Qk:=(zAK.1 hx).1;exact(h.cellAt (i*3+r) (by omega)).trans ((iy kF L i r x hx hr).trans hu)
theorem me {α β:Type}:∀(L:List (α×β)) (i:Nat) (x:α×β) (f:β),L[i]?=some x->(L.set i (x.1,f)).map Prod.fst=L.map Prod.fst
 |y::L,0,x,f,h=>by simp at h;subst h;rfl
 |y::L,i+1,x,f,h=>by
  rw[zAU,List.map_cons,List.map_cons,me L i x f (by simpa using h)]
 | [],_,_,_,h=>by simp at h
structure ga (w:World) (b:ap) (g2 k2:Nat) (p3:Option Addr) (k3:Nat) (p4:Option Addr) (k4 g4:Nat) (d2 d4:Nat) (L2:List (Part×Value)) (L4:List (bH×Value)) (W:World):Prop where
 below:Below w.heap.size w W
 bx:aA W w.heap.size 26 #[.int .i64 b.ac,.int .i64 b.places,.slice (some ⟨g2,0,none⟩) b.parts.length k2,.slice p3 b.apart.length k3,.slice p4 b.aa.length k4]
 br:aA W (w.heap.size+1) 26 i7
 rp:W.ownsRow (w.heap.size+2) 77 6 (.slice (some ⟨g2,0,none⟩) b.parts.length k2) b.parts.length (L2.flatMap cL)
 ra:W.ownsRow (w.heap.size+2) 125 2 (.slice p3 b.apart.length k3) b.apart.length (b.apart.flatMap ma)
 rt:W.ownsRow (w.heap.size+2) 65 3 (.slice p4 b.aa.length k4) b.aa.length (L4.flatMap cj)
 h4:(g4=w.heap.size+1/\b.aa.length=0)\/p4=some ⟨g4,0,none⟩
 e2:L2.map Prod.fst=b.parts
 e4:L4.map Prod.fst=b.aa
 f2:∀x∈L2,nJ [w.heap.size+1,g2,g4] W x.2 x.1.fits
 f4:∀x∈L4,nJ [w.heap.size+1,g2,g4] W x.2 x.1.parts
 o2:∀(j:Nat) (x:Part×Value),j<d2->L2[j]?=some x->W.ownsRow (w.heap.size+2) 3 1 x.2 x.1.fits.length (x.1.fits.map (Value.int .i64))
 o4:∀(j:Nat) (x:bH×Value),j<d4->L4[j]?=some x->W.ownsRow (w.heap.size+2) 3 1 x.2 x.1.parts.length (x.1.parts.map (Value.int .i64))
def Hg (w w':World) (u:Value) (b:ap):Prop:=∀(X:World) (O:List Nat),(∀o∈O,o<w.heap.size)->ab O w' X->ar X u b
section
variable {w W X:World} {b:ap} {g2 k2 k3 k4 g4 d2 d4:Nat} {p3 p4:Option Addr} {L2:List (Part × Value)} {L4:List (bH × Value)}
theorem ga.n2 (h:ga w b g2 k2 p3 k3 p4 k4 g4 d2 d4 L2 L4 W):L2.length=b.parts.length:=by rw[<-h.e2,zBY]
theorem ga.n4 (h:ga w b g2 k2 p3 k3 p4 k4 g4 d2 d4 L2 L4 W):L4.length=b.aa.length:=by rw[<-h.e4,zBY]
theorem ga.tags (h:ga w b g2 k2 p3 k3 p4 k4 g4 d2 d4 L2 L4 W):(∃cu,W.heap[g2]?=some (.cells cu 77 (0,0)))/\(∃cu e,W.heap[g4]?=some (.cells cu e (0,0))/\(e=26\/e=65))/\∃cu,W.heap[w.heap.size+1]?=some (.cells cu 26 (0,0)):=by
 refine⟨yD h.rp,?_,⟨_,h.br⟩⟩;rcases h.h4 with⟨rfl,_⟩|e
 .exact⟨_,_,h.br,.inl rfl⟩
 .have:=h.rt;rw[e]at this;obtain⟨cu,hc⟩:=yD this;exact⟨cu,_,hc,.inr rfl⟩
theorem ga.no3 (h:ga w b g2 k2 p3 k3 p4 k4 g4 d2 d4 L2 L4 W) (B:Nat):∀o∈ [w.heap.size+1,g2,g4],o<B\/∃cu e',W.heap[o]?=some (.cells cu e' (0,0))/\3≠e':=λo ho=>by
 obtain⟨⟨c1,h1⟩,⟨c2,e2,h2,he⟩,c3,h3⟩:=h.tags;simp at ho;rcases ho with rfl|rfl|rfl
 .exact .inr ⟨_,_,h3,by decide⟩
 .exact .inr ⟨_,_,h1,by decide⟩
 .exact .inr ⟨_,_,h2,by rcases he with rfl|rfl<;>decide⟩
theorem ga.later (h:ga w b g2 k2 p3 k3 p4 k4 g4 d2 d4 L2 L4 W) (k:Below W.heap.size W X):ga w b g2 k2 p3 k3 p4 k4 g4 d2 d4 L2 L4 X:=
 have r:∀{e s:Nat} {v:Value} {n:Nat} {xs:List Value},W.ownsRow (w.heap.size+2) e s v n xs->X.ownsRow (w.heap.size+2) e s v n xs:=λh=>aR h λj hj=>k.block j (au h j hj).2;⟨h.below.trans (k.mono h.below.size),h.bx.below k h.bx.lt,h.br.below k h.br.lt,r h.rp,r h.ra,r h.rt,h.h4,h.e2,h.e4,λx hx=>(h.f2 x hx).on (ab.of k),λx hx=>(h.f4 x hx).on (ab.of k),λj x hj hx=>r (h.o2 j x hj hx),λj x hj hx=>r (h.o4 j x hj hx)⟩
theorem ga.ge2 (h:ga w b g2 k2 p3 k3 p4 k4 g4 d2 d4 L2 L4 W):w.heap.size+2<=g2/\g2<W.heap.size:=au h.rp g2 rfl
theorem ga.fit (h:ga w b g2 k2 p3 k3 p4 k4 g4 d2 d4 L2 L4 W) (hd:d2=i) (hx:L2[i]?=some x) (hn:W.ownsRow (w.heap.size+2) 3 1 v x.1.fits.length (x.1.fits.map (Value.int .i64))):
 ga w b g2 k2 p3 k3 p4 k4 g4 (i+1) d4 (L2.set i (x.1,v)) L4 (W.setCell ⟨g2,i*6+5,none⟩ v):=by
 have h1:=h.rp.stored (i*6+5) v;rw[lZ eQ L2 i 5 x (x.1,v) _ hx (by omega) rfl]at h1;have hk:ab [g2] W (W.setCell ⟨g2,i*6+5,none⟩ v):=ab.grown h1.2 (by simp);have iR:ab [w.heap.size+1,g2,g4] W (W.setCell ⟨g2,i*6+5,none⟩ v):=hk.mono (by simp);obtain⟨⟨c1,t1⟩,_⟩:=h.tags;have hg:=h.ge2;refine⟨h.below.trans (hk.below (by simp;omega) h.below.size),hk.box h.bx (by simp;omega),hk.box h.br (by simp;omega),h1.1,fA h.ra (λo ho=>?_) hk,fA h.rt (λo ho=>?_) hk,h.h4,by rw[me L2 i x v hx];exact h.e2,h.e4,λy hy=>?_,λy hy=>(h.f4 y hy).on iR,λj y hj hy=>?_,λj y hj hy=>fA (h.o4 j y hj hy) (λo ho=>by simp at ho;subst ho;exact .inr ⟨_,_,t1,by decide⟩) hk⟩
 .simp at ho;subst ho;exact .inr ⟨_,_,t1,by decide⟩
 .simp at ho;subst ho;exact .inr ⟨_,_,t1,by decide⟩
 .rcases zFI hy with hy|rfl
  .exact(h.f2 y hy).on iR
  .exact(nJ.new hn (h.no3 _)).on iR
 .by_cases e:i=j
  .subst e;rw[zEO (zAK.1 hx).1]at hy;cases hy;exact fA hn (λo ho=>by simp at ho;subst ho;exact .inr ⟨_,_,t1,by decide⟩) hk
  .rw[zGA e]at hy;exact fA (h.o2 j y (by omega) hy) (λo ho=>by simp at ho;subst ho;exact .inr ⟨_,_,t1,by decide⟩) hk
theorem ga.zd5 (h:ga w b g2 k2 p3 k3 p4 k4 g4 d2 d4 L2 L4 W) {x:bH×Value} (hd:d4=i) (hx:L4[i]?=some x) (hn:W.ownsRow (w.heap.size+2) 3 1 v x.1.parts.length (x.1.parts.map (Value.int .i64))):
 p4=some ⟨g4,0,none⟩/\ga w b g2 k2 p3 k3 p4 k4 g4 d2 (i+1) L2 (L4.set i (x.1,v)) (W.setCell ⟨g4,i*3,none⟩ v):=by
 have hi:=(zAK.1 hx).1;have UC:=h.n4
 have e:p4=some ⟨g4,0,none⟩:=by
  rcases h.h4 with⟨_,e⟩|e
  .omega
  .exact e
 subst e;have h1:=h.rt.stored (i*3+0) v;rw[lZ kF L4 i 0 x (x.1,v) _ hx (by omega) rfl]at h1;have hk:ab [g4] W (W.setCell ⟨g4,i*3,none⟩ v):=ab.grown h1.2 (by simp);have iR:ab [w.heap.size+1,g2,g4] W (W.setCell ⟨g4,i*3,none⟩ v):=hk.mono (by simp);obtain⟨c1,t1⟩:=yD h.rt;have hg:=au h.rt g4 rfl;refine⟨rfl,h.below.trans (hk.below (by simp;omega) h.below.size),hk.box h.bx (by simp;omega),hk.box h.br (by simp;omega),fA h.rp (λo ho=>?_) hk,fA h.ra (λo ho=>?_) hk,h1.1,.inr rfl,h.e2,by rw[me L4 i x v hx];exact h.e4,λy hy=>(h.f2 y hy).on iR,λy hy=>?_,λj y hj hy=>fA (h.o2 j y hj hy) (λo ho=>by simp at ho;subst ho;exact .inr ⟨_,_,t1,by decide⟩) hk,λj y hj hy=>?_⟩
 .simp at ho;subst ho;exact .inr ⟨_,_,t1,by decide⟩
 .simp at ho;subst ho;exact .inr ⟨_,_,t1,by decide⟩
 .rcases zFI hy with hy|rfl
  .exact(h.f4 y hy).on iR
  .exact(nJ.new hn (h.no3 _)).on iR
 .by_cases e:i=j
  .subst e;rw[zEO (zAK.1 hx).1]at hy;cases hy;exact fA hn (λo ho=>by simp at ho;subst ho;exact .inr ⟨_,_,t1,by decide⟩) hk
  .rw[zGA e]at hy;exact fA (h.o4 j y (by omega) hy) (λo ho=>by simp at ho;subst ho;exact .inr ⟨_,_,t1,by decide⟩) hk
theorem ga.book (h:ga w b g2 k2 p3 k3 p4 k4 g4 d2 d4 L2 L4 W) (h2:d2=b.parts.length) (h4:d4=b.aa.length) (k:ab [w.heap.size+1] W X):
 Hg w X (.agg #[.int .i64 b.ac,.int .i64 b.places,.slice (some ⟨g2,0,none⟩) b.parts.length k2,.slice p3 b.apart.length k3,.slice p4 b.aa.length k4]) b:=λY O hO kY=>by
 have kk:ab ((w.heap.size+1)::O) W Y:=(k.mono (by simp)).trans' (kY.mono λo ho=>.inl (by simp[ho]))
 have r:∀{e s:Nat} {v:Value} {n:Nat} {xs:List Value},W.ownsRow (w.heap.size+2) e s v n xs->Y.ownsRow (w.heap.size+2) e s v n xs:=λh=>fA h (λo ho=>.inl (by
  rcases zAS.1 ho with rfl|ho
  .omega
  .have:=hO o ho;omega)) kk
 have q2:=r h.rp;have q3:=r h.ra;have q4:=r h.rt;have n2:=h.n2;have n4:=h.n4;rw[<-n2]at q2;rw[<-n4]at q4
 have s2:=bM.mc q2 λx hx=>by
  obtain⟨j,hj⟩:=zDE hx;exact am.eD (r (h.o2 j x (by have:=(zAK.1 hj).1;omega) hj))
 have s4:=bL.mc q4 λx hx=>by
  obtain⟨j,hj⟩:=zDE hx;exact am.eD (r (h.o4 j x (by have:=(zAK.1 hj).1;omega) hj))
 rw[h.e2,n2]at s2;rw[h.e4,n4]at s4;exact⟨_,_,_,rfl,s2,da.mc q3,s4⟩
end
end Go.Proofs.Cz
