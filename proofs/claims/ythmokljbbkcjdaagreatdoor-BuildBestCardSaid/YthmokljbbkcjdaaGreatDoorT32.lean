/- A part. Conditions: none. -/
import Derived.Test.YthmokljbbkcjdaaGreatDoorT31
import Derived.WalkMore
set_option linter.all false
set_option maxHeartbeats 8000000
set_option maxRecDepth 100000
namespace Go.Proofs.Cz
open Go.RowKit
variable {a b:List Int} {k:Nat} {x:Int}
def lexLt:List Int->List Int->Bool
 |_,[]=>false
 | [],_::_=>true
 |x::a,y::b=>decide (x<y)||(decide (x=y)&&lexLt a b)
def gi (a b:List Int) (k:Nat):Prop:=∀j,j<k->a[j]?=b[j]?
theorem gi.zero (a b:List Int):gi a b 0:=fun j h=>by omega
theorem gi.succ (h:gi a b k) (ha:a[k]?=some x) (hb:b[k]?=some x):gi a b (k+1):=fun j hj=>by
 by_cases e:j=k
 .subst e;rw[ha,hb]
 .exact h j (by omega)
theorem gi.tail {y:Int} (h:gi (x::a) (y::b) (k+1)):x=y/\gi a b k:=
 ⟨by simpa using h 0 (by omega),fun j hj=>by simpa using h (j+1) (by omega)⟩
theorem zH:∀{a b:List Int} {k:Nat} {x y:Int},gi a b k->a[k]?=some x->b[k]?=some y->x≠y->lexLt a b=decide (x<y)
 |u::a,v::b,0,x,y,_,ha,hb,br=>by
  simp at ha hb;subst ha hb;simp[lexLt,br]
 |u::a,v::b,k+1,x,y,h,ha,hb,br=>by
  obtain⟨rfl,h2⟩:=h.tail;have:=zH h2 (by simpa using ha) (by simpa using hb) br;simp[lexLt,this]
 | [],_,_,_,_,_,ha,_,_=>by simp at ha
 |_::_,[],_,_,_,_,_,hb,_=>by simp at hb
theorem zI:∀{a b:List Int} {k:Nat},gi a b k->b.length<=k->lexLt a b=false
 |_,[],_,_,_=>by simp[lexLt]
 | [],v::b,k,h,hb=>by
   have h1:k≠0:=by intro e;subst e;simp at hb
   have:=h 0 (by omega);simp at this
 |u::a,v::b,0,_,hb=>by simp at hb
 |u::a,v::b,k+1,h,hb=>by
  obtain⟨rfl,h2⟩:=h.tail;have:=zI h2 (by simpa using hb);simp[lexLt,this]
theorem Dx:∀{a b:List Int} {k:Nat},gi a b k->k=a.length->lexLt a b=decide (a.length<b.length)
 | [],[],_,_,_=>by simp[lexLt]
 | [],v::b,_,_,_=>by simp[lexLt]
 |u::a,[],k,h,e=>by simp[lexLt]
 |u::a,v::b,0,_,e=>by simp at e
 |u::a,v::b,k+1,h,e=>by
  obtain⟨rfl,h2⟩:=h.tail;have:=Dx h2 (by simpa using e);simp[lexLt,this]
def qz (w:World) (v:Value) (e:Ending) (w':World):Prop:=e=.returned v/\∃n,w'=w.drewN n
theorem qz.of {w w':World} {x y:Bool} (h:y=x) (hw:∃n,w'=w.drewN n):qz w (.bool y) (.returned (.bool x)) w':=⟨by rw[h],hw⟩
theorem iQ (w:World) (v1 v2:Value) (l1 l2:List Int) (h1:az w v1 l1) (h2:az w v2 l2):Calls ZP 39 #[v1,v2] w (qz w (.bool (lexLt l1 l2))):=by
 obtain⟨a1,c1,h1,e1⟩:=h1;obtain⟨a2,c2,h2,e2⟩:=h2;have H1:Hid (cn w v1 l1.length a1 c1/\_):=⟨h1,e1⟩
 have H2:Hid (cn w v2 l2.length a2 c2/\_):=⟨h2,e2⟩
 obtain⟨rfl,k1,m1,n1,r1⟩:=h1;obtain⟨rfl,k2,m2,n2,r2⟩:=h2;unfold maxLen at m1 m2;clear e1 e2 n1 r1 n2 r2;go_enter ZF39,Tryz.ntmps39
 go_wp2
 go_loopw [5] (fun i w1=>∃k:Nat,k<=l1.length/\k<=l2.length/\i=.int .i64 k/\Hid (gi l1 l2 k)/\∃n,w1=w.drewN n) (fun i _=>l1.length-(intOf i).toNat)
 case atStart=>exact⟨0,Nat.zero_le _,Nat.zero_le _,rfl,gi.zero _ _,0,rfl⟩
 case round=>
  obtain⟨k,hk,Yt,rfl,hS,n0,rfl⟩:=hrel;by_cases aA:k<l1.length
  .obtain⟨⟨blk,off,sp⟩,y,rfl,hy,y0⟩:=H1.o.1.elem H1.o.2 aA;obtain rfl:sp=none:=y0.1;have g0:=y0.2;have HY:=hid hy;simp only at g0;clear y0 hy;have YM:(k:Int)<(l1.length:Int):=by omega
   by_cases tN:k<l2.length
   .obtain⟨⟨zhr,zhs,ic⟩,y2,rfl,hy2,y1⟩:=H2.o.1.elem H2.o.2 tN;obtain rfl:ic=none:=y1.1;have g1:=y1.2;have HY2:=hid hy2;simp only at g1;clear y1 hy2;have hi2:(k:Int)<(l2.length:Int):=by omega
    by_cases hc:y=y2
    .subst hc;go_wp2
     go_quiet (fail)
     go_wp2
     go_round
     case rel=>exact⟨k+1,by omega,by omega,by go_num,hS.o.succ HY.o HY2.o,_,rfl⟩
     case measure=>simp[intOf];omega
    .have HNE:Hid (y≠y2):=hc;have Xg:(y==y2)=false:=by simpa using hc
     go_wp2
     go_quiet (fail)
     go_wp2
     go_quiet (fail)
     go_wp2
     go_ret;exact qz.of (zH hS.o HY.o HY2.o HNE.o) (by simp only[World.drewN_drewN];exact⟨_,rfl⟩)
   .have e2:k=l2.length:=by omega
    subst e2;go_wp2
    go_ret;exact qz.of ((zI hS.o (Nat.le_refl _)).trans (by simp;omega)) ⟨_,rfl⟩
  .have e:k=l1.length:=by omega
   subst e;go_wp2
   go_ret;exact qz.of ((Dx hS.o rfl).trans (by simp)) ⟨_,rfl⟩
end Go.Proofs.Cz
namespace Go.Proofs.Cz
end Go.Proofs.Cz
namespace Go.Proofs.Cz
open Go.RowKit
variable {A W W0 w w':World} {B K T c2 g g1 g2 g3 g4 i k n:Nat} {J:List (Nat->Int)->List Nat->World->Prop} {Jx:World->Prop} {O:List Nat} {a2:Option Addr} {ag:(Nat->Int)->Bool} {b:av} {cs:Array Value} {l:List Part} {p:Int} {t:TypeId} {v3 v4:Value} {α:Type}
theorem ik {B':Nat} {e:TypeId} {s:Nat} {v:Value} {xs:List Value} (h:w.ownsRow B e s v n xs) (hB:B'<=B):w.ownsRow B' e s v n xs:=by
 obtain⟨h1,h|⟨g,cap,cur,rfl,hg,r⟩⟩:=h
 .exact⟨h1,.inl h⟩
 .exact⟨h1,.inr ⟨g,cap,cur,rfl,by omega,r⟩⟩
theorem aF.below (h:aF A g t cs) (k:Below B A w') (hg:g<B):aF w' g t cs:=(k.block g hg).trans h
theorem hidb (h:Hid (aF A g t cs)) (k:Below A.heap.size A w'):Hid (aF w' g t cs):=h.out.below k h.out.lt
theorem kE {P:Nat} (h:aF w P t cs):∀j u,cs.toList[j]?=some u->w.cell? ((⟨P,0,none⟩:Addr).add j)=some u:=fun j u hu=>by
 have Bn:(⟨P,0,none⟩:Addr).add j=⟨P,j,none⟩:=by unfold Addr.add;split<;>simp_all
 rw[Bn];exact h.cell j (by simpa using hu)
theorem B9 {l:List Int} {n:Int}:sk l n↔(∀y∈l,0<=y/\y<=n-1)/\l.Pairwise (·<·):=by
 constructor
 .intro h;refine⟨fun y hy=>?_,?_⟩
  .obtain⟨j,hj,rfl⟩:=List.getElem_of_mem hy;have:=h j _ hj (List.getElem?_eq_getElem hj);exact⟨this.1,this.2.1⟩
  .rw[List.pairwise_iff_getElem]
   have step:∀(d i:Nat) (hi:i<l.length) (hj:i+d+1<l.length),l[i]<l[i+d+1]:=by
    intro d;induction d with
    |zero=>exact fun i hi hj=>(h (i+1) _ hj (List.getElem?_eq_getElem hj)).2.2 _ (by omega) (List.getElem?_eq_getElem hi)
    |succ d ih=>
     intro i hi hj;have h1:=ih i hi (by omega);have h2:=(h (i+(d+1)+1) _ hj (List.getElem?_eq_getElem hj)).2.2 (l[i+d+1]'(by omega)) (by omega) (List.getElem?_eq_getElem (by omega));omega
   intro i j hi hj oX;obtain⟨d,rfl⟩:∃d,j=i+d+1:=⟨j-i-1,by omega⟩
   exact step d i hi hj
 .rintro⟨h1,h2⟩ j y hj hy;have hm:=h1 y (List.mem_of_getElem? hy);refine⟨hm.1,hm.2,fun z hz pG=>?_⟩;rw[List.pairwise_iff_getElem]at h2;obtain⟨nj,rfl⟩:=List.getElem?_eq_some_iff.1 hy;obtain⟨MM,rfl⟩:=List.getElem?_eq_some_iff.1 pG;exact h2 (j-1) j MM nj (by omega)
theorem pS {x:Int}:∀{k:Nat},x∈dw p l k↔∃i:Nat,i<k/\x=i/\∃y,l[i]?=some y/\p∈y.fits
 |0=>by simp[dw]
 |k+1=>by
  rw[dw,List.mem_append,pS];constructor
  .rintro(⟨i,hi,h⟩|h)
   .exact⟨i,by omega,h⟩
   .cases hk:l[k]? with
    |none=>simp[hk]at h
    |some y=>
     simp only[hk]at h;split at h
     .simp at h;exact⟨k,by omega,h,y,hk,by assumption⟩
     .simp at h
  .rintro⟨i,hi,rfl,y,hy,hp⟩;by_cases e:i=k
   .subst e;right;simp[hy,hp]
   .exact .inl ⟨i,by omega,rfl,y,hy,hp⟩
theorem oK:∀k:Nat,(dw p l k).Pairwise (·<·)
 |0=>List.Pairwise.nil
 |k+1=>by
  rw[dw,List.pairwise_append];refine⟨oK k,?_,?_⟩
  .split
   .split<;>simp
   .simp
  .intro a ha b hb;obtain⟨i,hi,rfl,_⟩:=pS.1 ha
   have:b=k:=by
    split at hb
    .split at hb
     .simpa using hb
     .simp at hb
    .simp at hb
   omega
def tick (t:Nat->Int):Array Value:=#[.int .i64 (t 0),.int .i64 (t 1),.int .i64 (t 2),.int .i64 (t 3),.int .i64 (t 4)]
theorem gN {p:Nat} (hp:p<5) (t:Nat->Int):(tick t)[p]?=some (.int .i64 (t p)):=by
 match p,hp with
 |0,_=>rfl
 |1,_=>rfl
 |2,_=>rfl
 |3,_=>rfl
 |4,_=>rfl
def bW (m t:Nat->Int):Nat->Int
 |0=>0
 |k+1=>bW m t k+t (m k).toNat
theorem uO {m t:Nat->Int} (ht:∀i,0<=t i/\t i<=20):∀k,0<=bW m t k/\bW m t k<=20*k
 |0=>by simp[bW]
 |k+1=>by
  have h1:=uO (m:=m) ht k;have h2:=ht (m k).toNat;unfold bW;omega
theorem zJ (w:World) (v2 v3 v4:Value) (b:av) (N:Nat) (hN:b.places=N) (lT:N<=4) (m t:Nat->Int) (hm:∀i,i<N->0<=m i/\m i<5) (ht:∀i,0<=t i/\t i<=20):
 Calls ZP 102 #[.agg #[.int .i64 b.an,.int .i64 b.places,v2,v3,v4],.agg (bD m),.agg (tick t)] w (dd w (.int .i64 (bW m t N))):=by
 rw[hN];obtain⟨A1,bB⟩:=ex1 (w.alloc (.cells #[.int .i64 b.an,.int .i64 N,v2,v3,v4] 79));obtain⟨A2,cu⟩:=ex1 (A1.alloc (.cells (bD m) 91));obtain⟨A3,gM⟩:=ex1 (A2.alloc (.cells (tick t) 111));have eS:=snew bB;have kM:=snew2 cu eS
 have b1:aF A3 w.heap.size 79 #[.int .i64 b.an,.int .i64 N,v2,v3,v4]:=by
  rw[<-gM];refine(aa.alloc [] _ _).box ?_ (by simp);rw[<-cu];refine(aa.alloc [] _ _).box ?_ (by simp);rw[<-bB];exact aF.new _ _ _
 have B2:Hid (aF A3 (w.heap.size+1) 91 (bD m)):=by
  rw[<-gM];refine(aa.alloc [] _ _).box ?_ (by simp);rw[<-cu,<-eS];exact aF.new _ _ _
 have B3:=bnew2 gM kM;have HW:=wnew3 bB cu gM;obtain⟨-,z1⟩:=b1.c2;simp only[bD,tick]at cu gM⊢;clear b1 hN;go_enter ZF102,Tryz.ntmps102
 go_wp2
 clear bB cu gM eS kM;go_loop [12,8,7] (fun i _ s=>∃k:Nat,k<=N/\i=.int .i64 k/\s=.int .i64 (bW m t k)) (fun i _ _=>N-(intOf i).toNat)
 case atStart=>exact⟨0,Nat.zero_le _,rfl,rfl⟩
 case round=>
  obtain⟨k,hk,rfl,rfl⟩:=hrel;by_cases aA:k<N
  .have lg:k<4:=by omega
   have c2:A3.cell? ⟨w.heap.size+1,k,none⟩=some (.int .i64 (m k)):=B2.o.cell k (gA lg _);obtain⟨j,hj⟩:∃j:Nat,m k=(j:Int):=⟨(m k).toNat,by have:=(hm k aA).1;omega⟩
   have XG:j<5:=by have:=(hm k aA).2;omega
   rw[hj]at c2;have c3:A3.cell? ⟨w.heap.size+1+1,j,none⟩=some (.int .i64 (t j)):=B3.o.cell j (gN XG _);have hb:=uO (m:=m) ht k;have iA:=ht j;have HS:Hid (bW m t (k+1)=bW m t k+t j):=by show bW m t k+t (m k).toNat=_;rw[hj];simp
   go_wp2
   go_round
   case rel=>exact⟨k+1,by omega,by go_num,by rw[HS.o]⟩
   case measure=>simp[intOf];omega
  .have e:k=N:=by omega
   subst e;go_wp2
   go_ret;exact⟨rfl,HW.o⟩
attribute [local go_sem] Oper.semAt_some
def span (lo:Int):Nat->List Int
 |0=>[]
 |n+1=>lo::span (lo+1) n
def ei (ag:(Nat->Int)->Bool) (l:List Part):Nat->Nat->(Nat->Int)->List (Nat->Int)
 |0,_,t=>if ag t then [t]else []
 |n+1,i,t=>match l[i]? with
  |some x=>(span x.lo (x.hi+1-x.lo).toNat).flatMap fun k=>ei ag l n (i+1) (upd t i k)
  |none=>[]
structure tQ (W0 W:World) (b:av) (v2 v3 v4 y:Value) (g1 g2 g3 g4:Nat) (O:List Nat):Prop where
 b1:aF W g1 79 #[.int .i64 b.an,.int .i64 b.places,v2,v3,v4]
 b3:aF W g3 153 #[y]
 b4:aF W g4 80 #[.func (.func 113) #[] #[ptr g1,ptr g2,ptr g3,ptr g4]]
 n1:g1∉O
 n2:g2∉O
 n3:g3∉O
 n4:g4∉O
 d1:g1≠g2
 d3:g3≠g2
 d4:g4≠g2
 ge:W0.heap.size<=g2
 old:Below W0.heap.size W0 W
 UI:∀k∈O,W0.heap.size<=k
theorem tQ.on {W':World} {v2 y:Value} {O':List Nat} (h:tQ W0 W b v2 v3 v4 y g1 g2 g3 g4 O) (h2:g2<W.heap.size)
 (hk:aa (g2::O) W W') (hO:∀k∈O',k∈O\/W.heap.size<=k):tQ W0 W' b v2 v3 v4 y g1 g2 g3 g4 O':=by
 have l1:=h.b1.lt;have l3:=h.b3.lt;have l4:=h.b4.lt
 have hW:=h.old.size
 refine⟨hk.box h.b1 (by simp[h.d1,h.n1]),hk.box h.b3 (by simp[h.d3,h.n3]),hk.box h.b4 (by simp[h.d4,h.n4]),?_,?_,?_,?_,h.d1,h.d3,h.d4,h.ge,
  h.old.trans (hk.below (fun k hx=>by rcases List.mem_cons.1 hx with rfl|hx;exact h.ge;exact h.UI k hx) hW),fun k hx=>(hO k hx).elim (h.UI k) (fun hx=>by omega)⟩
 .intro hx;exact(hO _ hx).elim h.n1 (fun hx=>by omega)
 .intro hx;exact(hO _ hx).elim h.n2 (fun hx=>by omega)
 .intro hx;exact(hO _ hx).elim h.n3 (fun hx=>by omega)
 .intro hx;exact(hO _ hx).elim h.n4 (fun hx=>by omega)
def sE (J:List (Nat->Int)->List Nat->World->Prop) (Jx:World->Prop) (g2 P i:Nat) (L:List (Nat->Int)) (t:Nat->Int) (ms:List (Nat->Int)) (O:List Nat) (W:World) (e:Ending) (W':World):Prop:=
 (e=.returned (.bool true)/\∃t',(∀j,j<i->t' j=t j)/\(∀j,P<=j->t' j=0)/\aF W' g2 111 (tick t')/\∃O',(∀k∈O',k∈O\/W.heap.size<=k)/\J (ms++L) O' W'/\aa (g2::O) W W')\/
 (e=.returned (.bool false)/\L≠ []/\Jx W'/\aa (g2::O) W W')
abbrev xk (W0:World) (l K:Nat) (J:List (Nat->Int)->List Nat->World->Prop) (Jx:World->Prop):Prop:=
 BV ZP W0.heap.size [] l (fun t=>.agg (tick t)) K J Jx
theorem Ca {l:Nat} {t:Nat->Int} {ms:List (Nat->Int)}
 (hi:i=b.parts.length) (hz:∀j,b.parts.length<=j->t j=0)
 (iK:∀X,Below W0.heap.size W0 X->Calls ZP 114 #[.agg #[.int .i64 b.an,.int .i64 b.places,.slice a2 b.parts.length c2,v3,v4],.agg (tick t)] X (dd X (.bool (ag t))))
 (hR:xk W0 l K J Jx) (hI:tQ W0 W b (.slice a2 b.parts.length c2) v3 v4 (.func (.yield l) #[] #[]) g1 g2 g3 g4 O) (h2:aF W g2 111 (tick t)) (hJ:J ms O W) (hlen:ms.length+(if ag t then 1 else 0)<=K):
 Calls ZP 113 #[.int .i64 i,ptr g1,ptr g2,ptr g3,ptr g4] W (sE J Jx g2 b.parts.length i (if ag t then [t]else []) t ms O W):=by
 obtain⟨y0,y1,y2,y3,y4⟩:=hI.b1.c5;obtain⟨x0,x1,x2,x3,x4⟩:=h2.c5;have HI:=hid hI;have H2:=hid h2;have HZ:=hid hz;have hC:=iK W hI.old;clear hI h2 hz iK;subst hi;cases he:ag t with
 |false=>
  rw[he]at hC;simp only[tick]at hC;go_enter ZF113,Tryz.ntmps113
  go_wp2_with(go_at_call 114
              refine hC.mono ?_;rintro e w1 ⟨rfl,bN⟩;have HB:=hid bN;clear bN)
  go_ret;exact .inl ⟨rfl,t,fun _ _=>rfl,HZ.o,(aa.of (O:=[]) HB.o).box H2.o (by simp),O,fun _ h=>.inl h,by simpa using hR.stay hJ HB.o.size (fun k hk=>HB.o.block k (hR.own hJ k hk).2.1),.of HB.o⟩
 |true=>
  rw[he]at hC;simp only[tick]at hC;have HL:Hid (ms.length<K):=(by simp[he]at hlen;exact(by omega:ms.length<K))
  have HJ:Hid (J ms O W):=hJ;clear hlen hJ;refine(callsIn_wide (n:=0)).1 ?_;refine callsIn_of_wp ZF113 rfl trivial ?_
  simp only[Tryz.ntmps113,List.size_toArray,List.length_cons,List.length_nil,Nat.reduceAdd,Nat.reduceSub,Array.replicate_succ,
   Array.replicate_zero,List.push_toArray,List.append_toArray,List.nil_append,List.cons_append]
  gi_wp2_with(refine⟨trivial,rfl,?_⟩
              gi_at_call 114
              refine(callsIn_wide.2 hC).mono ?_;rintro e w1 ⟨rfl,bN⟩;have HB:=hid bN;have HJ1:Hid (J ms O w1):=hR.stay HJ.o bN.size (fun k hk=>bN.block k (hR.own HJ.o k hk).2.1);have UJ:Hid (tQ W0 w1 b (.slice a2 b.parts.length c2) v3 v4 (.func (.yield l) #[] #[]) g1 g2 g3 g4 O):=HI.o.on H2.o.lt (.of bN) (fun _ h=>.inl h);have H21:Hid (aF w1 g2 111 (tick t)):=(aa.of (O:=[]) bN).box H2.o (by simp);obtain⟨fn,tmps,assign,body,hy,hr⟩:=hR.yield ms t O w1 HJ1.o HL.o;simp only[tick]at hy;have q0:=UJ.o.b3.c1;obtain⟨x0,x1,x2,x3,x4⟩:=H21.o.c5;clear bN hC)
  refine⟨rfl,hr.mono ?_⟩;rintro e W' (⟨rfl,O',LN,hJ',hk⟩|⟨rfl,hx,hk⟩)
  .gi_wp2
   go_ret;refine .inl ⟨rfl,t,fun _ _=>rfl,HZ.o,hk.box H21.o UJ.o.n2,O',(fun k h=>(LN k h).imp id (fun h=>Nat.le_trans HB.o.size h)),by simpa using hJ',((aa.of (O:=O) HB.o).trans' hk).mono fun x hx=>.inl (List.mem_cons_of_mem _ hx)⟩
  .gi_wp2
   go_ret;exact .inr ⟨rfl,(by simp),hx,((aa.of (O:=O) HB.o).trans' hk).mono fun x hx=>.inl (List.mem_cons_of_mem _ hx)⟩
theorem mv {t:Nat->Int} {x:Part} (hx:l[i]?=some x):
 ei ag l (n+1) i t=(span x.lo (x.hi+1-x.lo).toNat).flatMap fun k=>ei ag l n (i+1) (upd t i k):=by rw[ei,hx]
theorem uP:∀(n i:Nat) (t t':Nat->Int),i+n=l.length->(∀j,j<i->t' j=t j)->(∀j,l.length<=j->t j=0)->(∀j,l.length<=j->t' j=0)->
 ei ag l n i t'=ei ag l n i t
 |0,i,t,t',hn,h1,h2,h3=>by
  have:t'=t:=by
   funext j;by_cases hj:j<i
   .exact h1 j hj
   .rw[h2 j (by omega),h3 j (by omega)]
  rw[this]
 |n+1,i,t,t',hn,h1,h2,h3=>by
  have hx:l[i]?=some l[i]:=List.getElem?_eq_getElem (by omega);rw[mv hx,mv hx];congr 1;funext k;refine uP n (i+1) _ _ (by omega) (fun j hj=>?_) (fun j hj=>?_) (fun j hj=>?_)
  .by_cases e:j=i
   .subst e;rw[gG,gG]
   .rw[cr _ _ e,cr _ _ e];exact h1 j (by omega)
  .rw[cr _ _ (by omega)];exact h2 j hj
  .rw[cr _ _ (by omega)];exact h3 j hj
theorem my (lo:Int):∀n:Nat,span lo (n+1)=span lo n++[lo+n]
 |0=>by simp[span]
 |n+1=>by
  have:=my (lo+1) n;show lo::span (lo+1) (n+1)=_;rw[this];show _=lo::(span (lo+1) n)++_;rw[List.cons_append];congr 3;push_cast
  omega
theorem zK {p:Nat} (hp:p<5) (t:Nat->Int) (k:Int):(tick t).setIfInBounds p (.int .i64 k)=tick (upd t p k):=by
 match p,hp with
 |0,_=>simp[tick,upd]
 |1,_=>simp[tick,upd]
 |2,_=>simp[tick,upd]
 |3,_=>simp[tick,upd]
 |4,_=>simp[tick,upd]
theorem uQ (lo:Int) (k:Nat):∀d:Nat,∃r,span lo (k+d)=span lo k++r
 |0=>⟨[],by simp⟩
 |d+1=>by
  obtain⟨r,h⟩:=uQ lo k d;exact⟨r++[lo+(k+d:Nat)],by rw[<-Nat.add_assoc,my,h,List.append_assoc]⟩
theorem uR (lo:Int) (f:Int->List α) (h:k<T):((span lo k).flatMap f).length+(f (lo+k)).length<=((span lo T).flatMap f).length:=by
 obtain⟨r,e⟩:=uQ lo (k+1) (T-(k+1));rw[show k+1+(T-(k+1))=T by omega]at e;rw[e,List.flatMap_append,List.length_append,my,List.flatMap_append,List.length_append];simp
theorem LQ (lo:Int) (f:Int->List α) (h:k<T) (hf:f (lo+k)≠ []):(span lo T).flatMap f≠ []:=fun e=>by
 have h1:=uR lo f h;rw[e,List.length_nil]at h1;have:=List.length_pos_iff.2 hf;omega
theorem Ff {l:Nat}
 (hb:aD W0 (.agg #[.int .i64 b.an,.int .i64 b.places,.slice a2 b.parts.length c2,v3,v4]) b) (hv:Valid b)
 (iK:∀X t,Below W0.heap.size W0 X->Calls ZP 114 #[.agg #[.int .i64 b.an,.int .i64 b.places,.slice a2 b.parts.length c2,v3,v4],.agg (tick t)] X (dd X (.bool (ag t))))
 (hR:xk W0 l K J Jx):
 ∀(n i:Nat),i+n=b.parts.length->∀(t:Nat->Int) (ms:List (Nat->Int)) (O:List Nat) (W:World),(∀j,b.parts.length<=j->t j=0)->
  tQ W0 W b (.slice a2 b.parts.length c2) v3 v4 (.func (.yield l) #[] #[]) g1 g2 g3 g4 O->aF W g2 111 (tick t)->J ms O W->ms.length+(ei ag b.parts n i t).length<=K->
  Calls ZP 113 #[.int .i64 i,ptr g1,ptr g2,ptr g3,ptr g4] W (sE J Jx g2 b.parts.length i (ei ag b.parts n i t) t ms O W):=by
 intro n;induction n with
 |zero=>exact fun i hi t ms O W hz hI h2 hJ hlen=>Ca (by omega) hz (fun X hX=>iK X t hX) hR hI h2 hJ (by
   simp only[ei]at hlen;cases he:ag t<;>simp[he]at hlen⊢<;>omega)
 |succ n ih=>
  intro i hi t ms O W hz hI h2 hJ hlen;have hm:=hv.parts.many;have Qb:i<5:=by omega
  have hil:i<b.parts.length:=by omega
  obtain⟨v2',_,_,FV,⟨a2',c2',hS,hE⟩,_,_⟩:=hb;obtain⟨⟨blk,off,sp⟩,x,hax,hx,x0,x1,x2,x3,x4,vf,x5,x6⟩:=hS.elem hE hil;obtain rfl:sp=none:=x0.1;have he:=hS.eq;simp only[Value.agg.injEq,Array.mk.injEq,List.cons.injEq,true_and,and_true]at FV;obtain⟨rfl,rfl,rfl⟩:=FV;simp only[Value.slice.injEq,true_and]at he;obtain⟨rfl,rfl⟩:=he;subst hax;have HX:=hid hx;have hpo:=(hv.parts.all i x hil hx).1;have nL:0<=x.lo/\x.lo<=x.hi/\x.hi<=20:=hpo.time;have X3:=hid x3;have X4:=hid x4;have HI:=hid hI;have H2:=hid h2;obtain⟨-,-,y2⟩:=hI.b1.c3;have y3:=(x3.later (Kp.of hI.old)).2;simp only[<-Nat.add_assoc]at y3;have z0:W.cell? ⟨g2,i,none⟩=some (.int .i64 (t i)):=h2.cell i (gN Qb t);have f0:W.frozen? ⟨g2,i,none⟩=false:=h2.aN i;have br:¬(i:Int)=(b.parts.length:Int):=by omega
  have hii:(i:Int)<(b.parts.length:Int):=by omega
  have K8:((i:Int)==(b.parts.length:Int))=false:=by simp;omega
  rw[mv hx]at hlen⊢;have za8:=hid hlen;have HJ:Hid (J ms O W):=hJ;have HZ:=hid hz;have IH:=ih;have FS:Hid (b.parts.length<=c2/\c2<=maxLen):=⟨hS.le,hS.Ry⟩
  clear hlen hJ hz ih hI h2 x0 x1 x2 x3 x4 x5 x6 hx hS hE hpo hv;go_enter ZF113,Tryz.ntmps113
  go_wp2
  obtain⟨WL,XH⟩:=ex1 (W.setCell ⟨g2,i,none⟩ (.int .i64 x.lo));rw[XH];have Cb:Hid (aa [g2] W WL):=by rw[<-XH];exact aa.set W (by simp) _
  have RE:Hid (aF WL g2 111 (tick (upd t i x.lo))):=by have:=H2.o.set i (.int .i64 x.lo);rwa [zK Qb,XH]at this
  have HIL:Hid (tQ W0 WL b (.slice (some ⟨blk,off,none⟩) b.parts.length c2) v3 v4 (.func (.yield l) #[] #[]) g1 g2 g3 g4 O):=HI.o.on H2.o.lt (Cb.o.mono (by simp)) (fun _ h=>.inl h);have HJL:Hid (J ms O WL):=hR.stay HJ.o Cb.o.size (fun k hk=>Cb.o.block k (hR.own HJ.o k hk).2.1 (fun h=>HI.o.n2 (by simp at h;rw[<-h];exact hk)));clear y2 y3 z0 f0 XH
  go_loopw [32] (fun _ wr=>∃(k:Nat) (t':Nat->Int) (O':List Nat),k<=(x.hi+1-x.lo).toNat/\Hid ((∀j,j<i->t' j=t j)/\t' i=x.lo+k/\(∀j,b.parts.length<=j->t' j=0)/\aF wr g2 111 (tick t')/\
   J (ms++(span x.lo k).flatMap fun q=>ei ag b.parts n (i+1) (upd t i q)) O' wr/\(∀o∈O',o∈O\/WL.heap.size<=o)/\aa (g2::O) WL wr)) (fun _ wr=>(x.hi+1-intOf ((wr.cell? ⟨g2,i,none⟩).getD undef)).toNat)
  case atStart=>
   exact⟨0,upd t i x.lo,O,Nat.zero_le _,(⟨fun j hj=>cr _ _ (by omega),by rw[gG];simp,fun j hj=>by rw[cr _ _ (by omega)];exact HZ.o j hj,RE.o,by simpa [span]using HJL.o,fun _ h=>.inl h,aa.refl _ _⟩:_/\_/\_/\_/\_/\_/\_)⟩
  case round=>
   obtain⟨k,t',O',hk,hS⟩:=hrel;obtain⟨e1,e2,e3,e4,e5,e6,e7⟩:=hS.o;have HIr:Hid (tQ W0 wr b (.slice (some ⟨blk,off,none⟩) b.parts.length c2) v3 v4 (.func (.yield l) #[] #[]) g1 g2 g3 g4 O'):=HIL.o.on RE.o.lt e7 e6;have IJ:=hid e4;have HE1:=hid e1;have RF:=hid e2;have HE3:=hid e3;have XI:=hid e5;have B6:Hid (∀o∈O',o∈O\/WL.heap.size<=o):=e6;have HKr:=hid e7;obtain⟨-,-,q2⟩:=HIr.o.b1.a3
   have q4:∀X:am wr,X.1.cell? ⟨blk,off+i*6+4,none⟩=some (.int .i64 x.hi):=fun X=>X.cell (by
    have:=(X4.o.later (Kp.of HIr.o.old)).2;simpa only[<-Nat.add_assoc]using this)
   have qt:∀X:am wr,X.1.cell? ⟨g2,i,none⟩=some (.int .i64 (x.lo+k)):=fun X=>X.cell (by
    have:=IJ.o.cell i (gN Qb t');rwa [RF.o]at this)
   have zhy:(i:Int)<5:=by omega
   clear e1 e2 e3 e4 e5 e6 e7 hS;by_cases aA:k<(x.hi+1-x.lo).toNat
   .have hle:x.lo+(k:Int)<=x.hi:=by omega
    go_wp2
    refine aq (by kernel_rfl) (by kernel_rfl) ?_;repeat(go_big_quiet_step (fail))
    refine wpQuiet_nil ?_;rintro _ ⟨X,rfl⟩;have HIx:Hid (tQ W0 X.1 b (.slice (some ⟨blk,off,none⟩) b.parts.length c2) v3 v4 (.func (.yield l) #[] #[]) g1 g2 g3 g4 O'):=HIr.o.on IJ.o.lt (.of X.2) (fun _ h=>.inl h);have XJ:Hid (aF X.1 g2 111 (tick t')):=(aa.of (O:=[]) X.2).box IJ.o (by simp);have HJx:Hid (J (ms++(span x.lo k).flatMap fun q=>ei ag b.parts n (i+1) (upd t i q)) O' X.1):=hR.stay XI.o X.2.size (fun k hk=>X.2.block k (hR.own XI.o k hk).2.1);have UR:Hid (aa (g2::O) WL X.1):=HKr.o.trans' (.of X.2);have c5:=HIx.o.b4.c1
    have HEq:Hid (ei ag b.parts n (i+1) t'=ei ag b.parts n (i+1) (upd t i (x.lo+k))):=uP n (i+1) _ _ (by omega) (fun j hj=>by
     by_cases e:j=i
     .subst e;rw[gG];exact RF.o
     .rw[cr _ _ e];exact HE1.o j (by omega)) (fun j hj=>by rw[cr _ _ (by omega)];exact HZ.o j hj) HE3.o
    have JT:=za8.o
    have hN:=IH (i+1) (by omega) t' (ms++(span x.lo k).flatMap fun q=>ei ag b.parts n (i+1) (upd t i q)) O' X.1 HE3.o HIx.o XJ.o HJx.o (by
     have h1:=uR x.lo (fun q=>ei ag b.parts n (i+1) (upd t i q)) aA;rw[HEq.o,List.length_append];omega)
    rw[show((i+1:Nat):Int)=(i:Int)+1 by omega]at hN
    have hN':Calls ZP 113 #[.int .i64 ((i:Int)+1),ptr g1,ptr g2,ptr g3,ptr g4] X.1 (fun e w2=>(e=.returned (.bool true)/\w2.cell? ⟨g2,i,none⟩=some (.int .i64 (x.lo+k))/\w2.frozen? ⟨g2,i,none⟩=false/\
     Hid (sE J Jx g2 b.parts.length (i+1) (ei ag b.parts n (i+1) t') t' (ms++(span x.lo k).flatMap fun q=>ei ag b.parts n (i+1) (upd t i q)) O' X.1 (.returned (.bool true)) w2))\/
     (e=.returned (.bool false)/\Hid (ei ag b.parts n (i+1) t'≠ []/\Jx w2/\aa (g2::O') X.1 w2))):=hN.mono fun e w2 h=>by
     rcases h with⟨rfl,t2,h1,h2,h3,h4⟩|⟨rfl,h⟩
     .have hc:=h3.cell i (gN Qb t2);rw[h1 i (by omega),RF.o]at hc;exact .inl ⟨rfl,hc,h3.aN i,.inl ⟨rfl,t2,h1,h2,h3,h4⟩⟩
     .exact .inr ⟨rfl,h⟩
    clear hN IH q2 q4 qt JT;go_wp2_with(go_at_call 113;refine hN'.mono ?_;rintro e w2 (⟨rfl,k1,k2,US⟩|⟨rfl,US⟩))
    .have mP:Hid (∃(t3:Nat->Int) (O3:List Nat),(∀j,j<i->t3 j=t j)/\t3 i=x.lo+((k+1:Nat):Int)/\(∀j,b.parts.length<=j->t3 j=0)/\aF (w2.setCell ⟨g2,i,none⟩ (.int .i64 (x.lo+k+1))) g2 111 (tick t3)/\
      J (ms++(span x.lo (k+1)).flatMap fun q=>ei ag b.parts n (i+1) (upd t i q)) O3 (w2.setCell ⟨g2,i,none⟩ (.int .i64 (x.lo+k+1)))/\(∀o∈O3,o∈O\/WL.heap.size<=o)/\aa (g2::O) WL (w2.setCell ⟨g2,i,none⟩ (.int .i64 (x.lo+k+1)))):=by
      rcases US.o with⟨_,t2,h1,h2,h3,O2,qy,Dt,rc⟩|⟨h,_⟩
      .have hs:=XJ.o.lt;have yr:g2∉O2:=fun h=>(qy _ h).elim HIx.o.n2 (fun h=>by omega);have hsx:=UR.o.size;refine⟨upd t2 i (x.lo+k+1),O2,fun j hj=>by rw[cr _ _ (by omega),h1 j (by omega)];exact HE1.o j hj,by rw[gG];omega,fun j hj=>by rw[cr _ _ (by omega)];exact h2 j hj,?_,?_,?_,?_⟩
       .have:=h3.set i (.int .i64 (x.lo+k+1));rwa [zK Qb]at this
       .rw[my,List.flatMap_append,<-List.append_assoc];simp only[List.flatMap_cons,List.flatMap_nil,List.append_nil];rw[<-HEq.o];exact hR.stay Dt (by simp[World.setCell]) (fun o ho=>Below.heap_setCell _ _ _ _ (fun(e:o=g2)=>yr (by rw[<-e];exact ho)))
       .exact fun o ho=>(qy o ho).elim (B6.out o) (fun h=>.inr (Nat.le_trans hsx h))
       .refine(UR.o.trans rc fun o ho=>?_).trans' (aa.set w2 (by simp) _);rcases List.mem_cons.1 ho with rfl|ho
        .exact .inl (by simp)
        .exact(B6.out o ho).imp (List.mem_cons_of_mem _) id
      .cases h
     obtain⟨t3,O3,r1,r2,r3,r4,r5,r6,r7⟩:=mP.o;have c6:=r4.cell i (gN Qb t3);rw[r2]at c6;have c7:=IJ.o.cell i (gN Qb t');rw[RF.o]at c7
     have tn:Hid ((∀j,j<i->t3 j=t j)/\t3 i=x.lo+((k+1:Nat):Int)/\(∀j,b.parts.length<=j->t3 j=0)/\aF (w2.setCell ⟨g2,i,none⟩ (.int .i64 (x.lo+k+1))) g2 111 (tick t3)/\
      J (ms++(span x.lo (k+1)).flatMap fun q=>ei ag b.parts n (i+1) (upd t i q)) O3 (w2.setCell ⟨g2,i,none⟩ (.int .i64 (x.lo+k+1)))/\(∀o∈O3,o∈O\/WL.heap.size<=o)/\aa (g2::O) WL (w2.setCell ⟨g2,i,none⟩ (.int .i64 (x.lo+k+1)))):=⟨r1,r2,r3,r4,r5,r6,r7⟩
     clear r1 r2 r3 r4 r5 r6 r7 mP;go_round
     case rel=>exact⟨k+1,t3,O3,by omega,tn⟩
     case measure=>
      rw[c6,c7];simp[intOf];omega
    .go_ret;refine .inr ⟨rfl,LQ x.lo (fun q=>ei ag b.parts n (i+1) (upd t i q)) aA (by rw[<-HEq.o];exact US.o.1),US.o.2.1,?_⟩;refine((Cb.o.mono (O':=g2::O) (by simp)).trans' (UR.o.trans US.o.2.2 fun o ho=>?_));rcases List.mem_cons.1 ho with rfl|ho
     .exact .inl (by simp)
     .exact(B6.out o ho).imp (List.mem_cons_of_mem _) id
   .have e:k=(x.hi+1-x.lo).toNat:=by omega
    subst e;have yh:¬x.lo+(((x.hi+1-x.lo).toNat:Nat):Int)<=x.hi:=by omega
    go_wp2
    refine aq (by kernel_rfl) (by kernel_rfl) ?_;repeat(go_big_quiet_step (fail))
    refine wpQuiet_nil ?_;rintro _ ⟨X,rfl⟩;have XJ:Hid (aF X.1 g2 111 (tick t')):=(aa.of (O:=[]) X.2).box IJ.o (by simp);have HJx:Hid (J (ms++(span x.lo (x.hi+1-x.lo).toNat).flatMap fun q=>ei ag b.parts n (i+1) (upd t i q)) O' X.1):=hR.stay XI.o X.2.size (fun k hk=>X.2.block k (hR.own XI.o k hk).2.1);have UR:Hid (aa (g2::O) W X.1):=(Cb.o.mono (O':=g2::O) (by simp)).trans' (HKr.o.trans' (.of X.2));clear q2 q4 qt;go_wp2
    go_ret;exact .inl ⟨rfl,t',HE1.o,HE3.o,XJ.o,O',(fun o ho=>(B6.out o ho).imp id (fun h=>Nat.le_trans Cb.o.size h)),HJx.o,UR.o⟩
theorem Fg {l:Nat}
 (hb:aD W0 (.agg #[.int .i64 b.an,.int .i64 b.places,.slice a2 b.parts.length c2,v3,v4]) b) (hv:Valid b)
 (iK:∀X t,Below W0.heap.size W0 X->Calls ZP 114 #[.agg #[.int .i64 b.an,.int .i64 b.places,.slice a2 b.parts.length c2,v3,v4],.agg (tick t)] X (dd X (.bool (ag t))))
 (hR:xk W0 l K J Jx) (hold:Below W0.heap.size W0 W) (hJ:J [] O W) (hlen:(ei ag b.parts b.parts.length 0 (fun _=>0)).length<=K):
 Calls ZP 96 #[.agg #[.int .i64 b.an,.int .i64 b.places,.slice a2 b.parts.length c2,v3,v4],.func (.yield l) #[] #[]] W (BW J Jx (ei ag b.parts b.parts.length 0 (fun _=>0)) O W):=by
 obtain⟨A0,qO⟩:=ex1 (W.alloc (.cells #[.int .i64 b.an,.int .i64 b.places,.slice a2 b.parts.length c2,v3,v4] 79));obtain⟨A1,bB⟩:=ex1 (A0.alloc (.cells #[.func (.yield l) #[] #[]] 153));obtain⟨A2,cu⟩:=ex1 (A1.alloc (.cells #[.int .i64 0,.int .i64 0,.int .i64 0,.int .i64 0,.int .i64 0] 111));obtain⟨A3,gM⟩:=ex1 (A2.alloc (.cells #[.nilFunc] 80));have F9:=snew qO;have eS:=snew2 bB F9;have kM:=snew2 cu eS;have Ki:=snew2 gM kM
 have b1:aF A3 W.heap.size 79 #[.int .i64 b.an,.int .i64 b.places,.slice a2 b.parts.length c2,v3,v4]:=by
  rw[<-gM];refine(aa.alloc [] _ _).box ?_ (by simp);rw[<-cu];refine(aa.alloc [] _ _).box ?_ (by simp);rw[<-bB];refine(aa.alloc [] _ _).box ?_ (by simp);rw[<-qO];exact aF.new _ _ _
 have b2:aF A3 (W.heap.size+1) 153 #[.func (.yield l) #[] #[]]:=by
  rw[<-gM];refine(aa.alloc [] _ _).box ?_ (by simp);rw[<-cu];refine(aa.alloc [] _ _).box ?_ (by simp);rw[<-bB,<-F9];exact aF.new _ _ _
 have b3:aF A3 (W.heap.size+1+1) 111 (tick fun _=>0):=by
  rw[<-gM];refine(aa.alloc [] _ _).box ?_ (by simp);rw[<-cu,<-eS];exact aF.new _ _ _
 have b5:=(bnew2 gM kM).o;have kc:aa [] W A3:=by rw[<-gM,<-cu,<-bB,<-qO];exact(((aa.alloc _ _ _).lS _).lS _).lS _
 obtain⟨F,hF⟩:∃F:Value,.func (.func 113) #[] #[ptr W.heap.size,ptr (W.heap.size+1+1),ptr (W.heap.size+1),ptr (W.heap.size+1+1+1)]=F:=⟨_,rfl⟩
 obtain⟨A4,zE⟩:=ex1 (A3.setCell ⟨W.heap.size+1+1+1,0,none⟩ F);have lg:aa [W.heap.size+1+1+1] A3 A4:=by rw[<-zE];exact aa.set A3 (by simp) _
 have Qa:aF A4 (W.heap.size+1+1+1) 80 #[F]:=by rw[<-zE];exact b5.set 0 F
 have hO:∀k∈O,W0.heap.size<=k/\k<W.heap.size/\k∉([]:List Nat):=fun k hk=>hR.own hJ k hk;have hk:aa [] W A4:=kc.trans lg (by simp;omega);have cM:=hold.size
 have hI:tQ W0 A4 b (.slice a2 b.parts.length c2) v3 v4 (.func (.yield l) #[] #[]) W.heap.size (W.heap.size+1+1) (W.heap.size+1) (W.heap.size+1+1+1) O:=by
  refine⟨lg.box b1 (by simp;omega),lg.box b2 (by simp),by rw[hF];exact Qa,?_,?_,?_,?_,by omega,by omega,by omega,by omega,hold.trans (hk.below (by simp) cM),fun k hx=>(hO k hx).1⟩;all_goals(intro hx;have:=(hO _ hx).2.1;omega)
 have UM:J [] O A4:=hR.stay hJ hk.size (fun k hx=>hk.block k (hO k hx).2.1 (by simp));have hC:=Ff hb hv iK hR b.parts.length 0 (by omega) (fun _=>0) [] O A4 (fun _ _=>rfl) hI (lg.box b3 (by simp)) UM (by simpa using hlen);have c5:=b5.c1;have f5:A3.frozen? ⟨W.heap.size+1+1+1,0,none⟩=false:=b5.aN 0;have c6:=Qa.c1;have HK:=hid hk;rw[<-hF]at c6;clear hlen hI UM hb hv hR hold hJ b1 b2 b3 b5 Qa kc lg hk cM hO iK;subst hF;have cq:∀(a:Addr) (f:Fn) (x y:Array Value) (w:World),(store a (.func f x y) .plain).run ZP w=stored ZP w a (.func f x y) .plain:=fun a f x y w=>run_store ZP w a _ _ rfl;go_enter ZF96,Tryz.ntmps96
 go_wp2_with(go_at_call 113;refine hC.mono ?_;rintro e w1 (⟨rfl,t2,h1,h2,hB,O2,qy,Dt,rc⟩|⟨rfl,LO,LP,rc⟩))
 .go_end0
  refine⟨⟨_,rfl⟩,.inl ⟨O2,(fun k hk=>(qy k hk).imp id (fun h=>Nat.le_trans HK.o.size h)),by simpa using Dt,(HK.o.mono (O':=O) (by simp)).trans rc fun x hx=>?_⟩⟩;rcases List.mem_cons.1 hx with rfl|hx
  .exact .inr (by omega)
  .exact .inl hx
 .go_end0
  refine⟨⟨_,rfl⟩,.inr ⟨LO,LP,(HK.o.mono (O':=O) (by simp)).trans rc fun x hx=>?_⟩⟩;rcases List.mem_cons.1 hx with rfl|hx
  .exact .inr (by omega)
  .exact .inl hx
end Go.Proofs.Cz
