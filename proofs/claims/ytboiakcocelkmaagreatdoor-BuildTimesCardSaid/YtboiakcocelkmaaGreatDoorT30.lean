/- A part. Conditions: none. -/
import Derived.Test.YtboiakcocelkmaaGreatDoorT29
import Derived.WalkMore
set_option linter.all false
set_option maxHeartbeats 8000000
set_option maxRecDepth 100000
namespace Go.Proofs.Cz
open Go.RowKit
end Go.Proofs.Cz
namespace Go.Proofs.Cz
end Go.Proofs.Cz
namespace Go.Proofs.Cz
open Go.RowKit
variable {A W W0 w w':World} {B K T c2 g g1 g2 g3 g4 i k l n p:Nat} {J:List (Nat->Int)->List Nat->World->Prop} {Jx:World->Prop} {O:List Nat} {a2:Option Addr} {ag:(Nat->Int)->Bool} {b:ao} {cs:Array Value} {t:TypeId} {v3 v4:Value} {α:Type}
theorem nZ {B':Nat} {e:TypeId} {s:Nat} {v:Value} {xs:List Value} (h:w.ownsRow B e s v n xs) (hB:B'<=B):w.ownsRow B' e s v n xs:=by
 obtain⟨h1,h|⟨g,cap,cur,rfl,hg,r⟩⟩:=h
 .exact⟨h1,.inl h⟩
 .exact⟨h1,.inr ⟨g,cap,cur,rfl,by omega,r⟩⟩
theorem aF.below (h:aF A g t cs) (k:Below B A w') (hg:g<B):aF w' g t cs:=(k.block g hg).trans h
theorem hidb (h:Hid (aF A g t cs)) (k:Below A.heap.size A w'):Hid (aF w' g t cs):=h.out.below k h.out.lt
theorem i7 {P:Nat} (h:aF w P t cs):∀j u,cs.toList[j]?=some u->w.cell? ((⟨P,0,none⟩:Addr).add j)=some u:=fun j u hu=>by
 have BH:(⟨P,0,none⟩:Addr).add j=⟨P,j,none⟩:=by unfold Addr.add;split<;>simp_all
 rw[BH];exact h.cell j (by simpa using hu)
theorem vb {p x:Int} {l:List Part}:∀{k:Nat},x∈dt p l k↔∃i:Nat,i<k/\x=i/\∃y,l[i]?=some y/\p∈y.fits
 |0=>by simp[dt]
 |k+1=>by
  rw[dt,List.mem_append,vb];constructor
  .rintro(⟨i,hi,h⟩|h)
   .exact⟨i,by omega,h⟩
   .cases hk:l[k]? with
    |none=>simp[hk]at h
    |some y=>
     simp only[hk]at h;split at h
     .simp at h;exact⟨k,by omega,h,y,hk,by assumption⟩
     .simp at h
  .rintro⟨i,hi,rfl,y,hy,hp⟩;by_cases e:i=k
   .subst e;right;simp[hy,hp]
   .exact .inl ⟨i,by omega,rfl,y,hy,hp⟩
def tick (t:Nat->Int):Array Value:=#[.int .i64 (t 0),.int .i64 (t 1),.int .i64 (t 2),.int .i64 (t 3),.int .i64 (t 4)]
theorem fJ (hp:p<5) (t:Nat->Int):(tick t)[p]?=some (.int .i64 (t p)):=by
 match p,hp with
 |0,_=>rfl
 |1,_=>rfl
 |2,_=>rfl
 |3,_=>rfl
 |4,_=>rfl
def aB (m t:Nat->Int):Nat->Int
 |0=>0
 |k+1=>aB m t k+t (m k).toNat
theorem lO {m t:Nat->Int} (ht:∀i,0<=t i/\t i<=20):∀k,0<=aB m t k/\aB m t k<=20*k
 |0=>by simp[aB]
 |k+1=>by
  have h1:=lO (m:=m) ht k;have h2:=ht (m k).toNat;unfold aB;omega
theorem zI (w:World) (v2 v3 v4:Value) (b:ao) (N:Nat) (hN:b.places=N) (zJ:N<=4) (m t:Nat->Int) (hm:∀i,i<N->0<=m i/\m i<5) (ht:∀i,0<=t i/\t i<=20):
 Calls ZP 107 #[.agg #[.int .i64 b.ak,.int .i64 b.places,v2,v3,v4],.agg (cW m),.agg (tick t)] w (bK w (.int .i64 (aB m t N))):=by
 rw[hN];obtain⟨A1,aV⟩:=ex1 (w.alloc (.cells #[.int .i64 b.ak,.int .i64 N,v2,v3,v4] 66));obtain⟨A2,bY⟩:=ex1 (A1.alloc (.cells (cW m) 86));obtain⟨A3,iI⟩:=ex1 (A2.alloc (.cells (tick t) 77));have eE:=snew aV;have mh:=snew2 bY eE
 have b1:aF A3 w.heap.size 66 #[.int .i64 b.ak,.int .i64 N,v2,v3,v4]:=by
  rw[<-iI];refine(ac.alloc [] _ _).box ?_ (by simp);rw[<-bY];refine(ac.alloc [] _ _).box ?_ (by simp);rw[<-aV];exact aF.new _ _ _
 have B2:Hid (aF A3 (w.heap.size+1) 86 (cW m)):=by
  rw[<-iI];refine(ac.alloc [] _ _).box ?_ (by simp);rw[<-bY,<-eE];exact aF.new _ _ _
 have B3:=bnew2 iI mh;have HW:=wnew3 aV bY iI;obtain⟨-,z1⟩:=b1.c2;simp only[cW,tick]at bY iI⊢;clear b1 hN;go_enter ZF107,Tryz.ntmps107
 go_wp2
 clear aV bY iI eE mh;go_loop [12,8,7] (fun i _ s=>∃k:Nat,k<=N/\i=.int .i64 k/\s=.int .i64 (aB m t k)) (fun i _ _=>N-(intOf i).toNat)
 case atStart=>exact⟨0,Nat.zero_le _,rfl,rfl⟩
 case round=>
  obtain⟨k,hk,rfl,rfl⟩:=hrel;by_cases az:k<N
  .have oY:k<4:=by omega
   have c2:A3.cell? ⟨w.heap.size+1,k,none⟩=some (.int .i64 (m k)):=B2.o.cell k (i6 oY _);obtain⟨j,hj⟩:∃j:Nat,m k=(j:Int):=⟨(m k).toNat,by have:=(hm k az).1;omega⟩
   have hj5:j<5:=by have:=(hm k az).2;omega
   rw[hj]at c2;have c3:A3.cell? ⟨w.heap.size+1+1,j,none⟩=some (.int .i64 (t j)):=B3.o.cell j (fJ hj5 _);have hb:=lO (m:=m) ht k;have fk:=ht j;have HS:Hid (aB m t (k+1)=aB m t k+t j):=by show aB m t k+t (m k).toNat=_;rw[hj];simp
   go_wp2
   go_round
   case rel=>exact⟨k+1,by omega,by go_num,by rw[HS.o]⟩
   case measure=>simp[intOf];omega
  .have e:k=N:=by omega
   subst e;go_wp2
   go_ret;exact⟨rfl,HW.o⟩
attribute [local go_sem] Oper.semAt_some
def span (lo:Int):Nat->List Int
 |0=>[]
 |n+1=>lo::span (lo+1) n
def dw (ag:(Nat->Int)->Bool) (l:List Part):Nat->Nat->(Nat->Int)->List (Nat->Int)
 |0,_,t=>if ag t then [t]else []
 |n+1,i,t=>match l[i]? with
  |some x=>(span x.lo (x.hi+1-x.lo).toNat).flatMap fun k=>dw ag l n (i+1) (upd t i k)
  |none=>[]
structure tW (W0 W:World) (b:ao) (v2 v3 v4 y:Value) (g1 g2 g3 g4:Nat) (O:List Nat):Prop where
 b1:aF W g1 66 #[.int .i64 b.ak,.int .i64 b.places,v2,v3,v4]
 b3:aF W g3 149 #[y]
 b4:aF W g4 102 #[.func (.func 121) #[] #[ptr g1,ptr g2,ptr g3,ptr g4]]
 n1:g1∉O
 n2:g2∉O
 n3:g3∉O
 n4:g4∉O
 d1:g1≠g2
 d3:g3≠g2
 d4:g4≠g2
 ge:W0.heap.size<=g2
 old:Below W0.heap.size W0 W
 Vg:∀k∈O,W0.heap.size<=k
theorem tW.on {W':World} {v2 y:Value} {O':List Nat} (h:tW W0 W b v2 v3 v4 y g1 g2 g3 g4 O) (h2:g2<W.heap.size)
 (hk:ac (g2::O) W W') (hO:∀k∈O',k∈O\/W.heap.size<=k):tW W0 W' b v2 v3 v4 y g1 g2 g3 g4 O':=by
 have l1:=h.b1.lt;have l3:=h.b3.lt;have l4:=h.b4.lt
 have hW:=h.old.size
 refine⟨hk.box h.b1 (by simp[h.d1,h.n1]),hk.box h.b3 (by simp[h.d3,h.n3]),hk.box h.b4 (by simp[h.d4,h.n4]),?_,?_,?_,?_,h.d1,h.d3,h.d4,h.ge,
  h.old.trans (hk.below (fun k hx=>by rcases List.mem_cons.1 hx with rfl|hx;exact h.ge;exact h.Vg k hx) hW),fun k hx=>(hO k hx).elim (h.Vg k) (fun hx=>by omega)⟩
 .intro hx;exact(hO _ hx).elim h.n1 (fun hx=>by omega)
 .intro hx;exact(hO _ hx).elim h.n2 (fun hx=>by omega)
 .intro hx;exact(hO _ hx).elim h.n3 (fun hx=>by omega)
 .intro hx;exact(hO _ hx).elim h.n4 (fun hx=>by omega)
def sK (J:List (Nat->Int)->List Nat->World->Prop) (Jx:World->Prop) (g2 P i:Nat) (L:List (Nat->Int)) (t:Nat->Int) (ms:List (Nat->Int)) (O:List Nat) (W:World) (e:Ending) (W':World):Prop:=
 (e=.returned (.bool true)/\∃t',(∀j,j<i->t' j=t j)/\(∀j,P<=j->t' j=0)/\aF W' g2 77 (tick t')/\∃O',(∀k∈O',k∈O\/W.heap.size<=k)/\J (ms++L) O' W'/\ac (g2::O) W W')\/
 (e=.returned (.bool false)/\L≠ []/\Jx W'/\ac (g2::O) W W')
abbrev xf (W0:World) (l K:Nat) (J:List (Nat->Int)->List Nat->World->Prop) (Jx:World->Prop):Prop:=
 Cs ZP W0.heap.size [] l (fun t=>.agg (tick t)) K J Jx
theorem Cx {t:Nat->Int} {ms:List (Nat->Int)}
 (hi:i=b.parts.length) (hz:∀j,b.parts.length<=j->t j=0)
 (kA:∀X,Below W0.heap.size W0 X->Calls ZP 122 #[.agg #[.int .i64 b.ak,.int .i64 b.places,.slice a2 b.parts.length c2,v3,v4],.agg (tick t)] X (bK X (.bool (ag t))))
 (hR:xf W0 l K J Jx) (hI:tW W0 W b (.slice a2 b.parts.length c2) v3 v4 (.func (.yield l) #[] #[]) g1 g2 g3 g4 O) (h2:aF W g2 77 (tick t)) (hJ:J ms O W) (hlen:ms.length+(if ag t then 1 else 0)<=K):
 Calls ZP 121 #[.int .i64 i,ptr g1,ptr g2,ptr g3,ptr g4] W (sK J Jx g2 b.parts.length i (if ag t then [t]else []) t ms O W):=by
 obtain⟨y0,y1,y2,y3,y4⟩:=hI.b1.c5;obtain⟨x0,x1,x2,x3,x4⟩:=h2.c5;have HI:=hid hI;have H2:=hid h2;have HZ:=hid hz;have hC:=kA W hI.old;clear hI h2 hz kA;subst hi;cases he:ag t with
 |false=>
  rw[he]at hC;simp only[tick]at hC;go_enter ZF121,Tryz.ntmps121
  go_wp2_with(go_at_call 122
              refine hC.mono ?_;rintro e w1 ⟨rfl,bj⟩;have HB:=hid bj;clear bj)
  go_ret;exact .inl ⟨rfl,t,fun _ _=>rfl,HZ.o,(ac.of (O:=[]) HB.o).box H2.o (by simp),O,fun _ h=>.inl h,by simpa using hR.stay hJ HB.o.size (fun k hk=>HB.o.block k (hR.own hJ k hk).2.1),.of HB.o⟩
 |true=>
  rw[he]at hC;simp only[tick]at hC;have HL:Hid (ms.length<K):=(by simp[he]at hlen;exact(by omega:ms.length<K))
  have HJ:Hid (J ms O W):=hJ;clear hlen hJ;refine(callsIn_wide (n:=0)).1 ?_;refine callsIn_of_wp ZF121 rfl trivial ?_
  simp only[Tryz.ntmps121,List.size_toArray,List.length_cons,List.length_nil,Nat.reduceAdd,Nat.reduceSub,Array.replicate_succ,
   Array.replicate_zero,List.push_toArray,List.append_toArray,List.nil_append,List.cons_append]
  gi_wp2_with(refine⟨trivial,rfl,?_⟩
              gi_at_call 122
              refine(callsIn_wide.2 hC).mono ?_;rintro e w1 ⟨rfl,bj⟩;have HB:=hid bj;have HJ1:Hid (J ms O w1):=hR.stay HJ.o bj.size (fun k hk=>bj.block k (hR.own HJ.o k hk).2.1);have Vh:Hid (tW W0 w1 b (.slice a2 b.parts.length c2) v3 v4 (.func (.yield l) #[] #[]) g1 g2 g3 g4 O):=HI.o.on H2.o.lt (.of bj) (fun _ h=>.inl h);have H21:Hid (aF w1 g2 77 (tick t)):=(ac.of (O:=[]) bj).box H2.o (by simp);obtain⟨fn,tmps,assign,body,hy,hr⟩:=hR.yield ms t O w1 HJ1.o HL.o;simp only[tick]at hy;have q0:=Vh.o.b3.c1;obtain⟨x0,x1,x2,x3,x4⟩:=H21.o.c5;clear bj hC)
  refine⟨rfl,hr.mono ?_⟩;rintro e W' (⟨rfl,O',MM,hJ',hk⟩|⟨rfl,hx,hk⟩)
  .gi_wp2
   go_ret;refine .inl ⟨rfl,t,fun _ _=>rfl,HZ.o,hk.box H21.o Vh.o.n2,O',(fun k h=>(MM k h).imp id (fun h=>Nat.le_trans HB.o.size h)),by simpa using hJ',((ac.of (O:=O) HB.o).trans' hk).mono fun x hx=>.inl (List.mem_cons_of_mem _ hx)⟩
  .gi_wp2
   go_ret;exact .inr ⟨rfl,(by simp),hx,((ac.of (O:=O) HB.o).trans' hk).mono fun x hx=>.inl (List.mem_cons_of_mem _ hx)⟩
theorem lP {l:List Part} {t:Nat->Int} {x:Part} (hx:l[i]?=some x):
 dw ag l (n+1) i t=(span x.lo (x.hi+1-x.lo).toNat).flatMap fun k=>dw ag l n (i+1) (upd t i k):=by rw[dw,hx]
theorem vd {ag:(Nat->Int)->Bool} {l:List Part}:∀(n i:Nat) (t t':Nat->Int),i+n=l.length->(∀j,j<i->t' j=t j)->(∀j,l.length<=j->t j=0)->(∀j,l.length<=j->t' j=0)->
 dw ag l n i t'=dw ag l n i t
 |0,i,t,t',hn,h1,h2,h3=>by
  have:t'=t:=by
   funext j;by_cases hj:j<i
   .exact h1 j hj
   .rw[h2 j (by omega),h3 j (by omega)]
  rw[this]
 |n+1,i,t,t',hn,h1,h2,h3=>by
  have hx:l[i]?=some l[i]:=List.getElem?_eq_getElem (by omega);rw[lP hx,lP hx];congr 1;funext k;refine vd n (i+1) _ _ (by omega) (fun j hj=>?_) (fun j hj=>?_) (fun j hj=>?_)
  .by_cases e:j=i
   .subst e;rw[gu,gu]
   .rw[bR _ _ e,bR _ _ e];exact h1 j (by omega)
  .rw[bR _ _ (by omega)];exact h2 j hj
  .rw[bR _ _ (by omega)];exact h3 j hj
theorem jJ (lo:Int):∀n:Nat,span lo (n+1)=span lo n++[lo+n]
 |0=>by simp[span]
 |n+1=>by
  have:=jJ (lo+1) n;show lo::span (lo+1) (n+1)=_;rw[this];show _=lo::(span (lo+1) n)++_;rw[List.cons_append];congr 3;push_cast
  omega
theorem zK (hp:p<5) (t:Nat->Int) (k:Int):(tick t).setIfInBounds p (.int .i64 k)=tick (upd t p k):=by
 match p,hp with
 |0,_=>simp[tick,upd]
 |1,_=>simp[tick,upd]
 |2,_=>simp[tick,upd]
 |3,_=>simp[tick,upd]
 |4,_=>simp[tick,upd]
theorem ve (lo:Int) (k:Nat):∀d:Nat,∃r,span lo (k+d)=span lo k++r
 |0=>⟨[],by simp⟩
 |d+1=>by
  obtain⟨r,h⟩:=ve lo k d;exact⟨r++[lo+(k+d:Nat)],by rw[<-Nat.add_assoc,jJ,h,List.append_assoc]⟩
theorem vg (lo:Int) (f:Int->List α) (h:k<T):((span lo k).flatMap f).length+(f (lo+k)).length<=((span lo T).flatMap f).length:=by
 obtain⟨r,e⟩:=ve lo (k+1) (T-(k+1));rw[show k+1+(T-(k+1))=T by omega]at e;rw[e,List.flatMap_append,List.length_append,jJ,List.flatMap_append,List.length_append];simp
theorem MP (lo:Int) (f:Int->List α) (h:k<T) (hf:f (lo+k)≠ []):(span lo T).flatMap f≠ []:=fun e=>by
 have h1:=vg lo f h;rw[e,List.length_nil]at h1;have:=List.length_pos_iff.2 hf;omega
theorem FM
 (hb:au W0 (.agg #[.int .i64 b.ak,.int .i64 b.places,.slice a2 b.parts.length c2,v3,v4]) b) (hv:Valid b)
 (kA:∀X t,Below W0.heap.size W0 X->Calls ZP 122 #[.agg #[.int .i64 b.ak,.int .i64 b.places,.slice a2 b.parts.length c2,v3,v4],.agg (tick t)] X (bK X (.bool (ag t))))
 (hR:xf W0 l K J Jx):
 ∀(n i:Nat),i+n=b.parts.length->∀(t:Nat->Int) (ms:List (Nat->Int)) (O:List Nat) (W:World),(∀j,b.parts.length<=j->t j=0)->
  tW W0 W b (.slice a2 b.parts.length c2) v3 v4 (.func (.yield l) #[] #[]) g1 g2 g3 g4 O->aF W g2 77 (tick t)->J ms O W->ms.length+(dw ag b.parts n i t).length<=K->
  Calls ZP 121 #[.int .i64 i,ptr g1,ptr g2,ptr g3,ptr g4] W (sK J Jx g2 b.parts.length i (dw ag b.parts n i t) t ms O W):=by
 intro n;induction n with
 |zero=>exact fun i hi t ms O W hz hI h2 hJ hlen=>Cx (by omega) hz (fun X hX=>kA X t hX) hR hI h2 hJ (by
   simp only[dw]at hlen;cases he:ag t<;>simp[he]at hlen⊢<;>omega)
 |succ n ih=>
  intro i hi t ms O W hz hI h2 hJ hlen;have hm:=hv.parts.many;have QW:i<5:=by omega
  have Vb:i<b.parts.length:=by omega
  obtain⟨v2',_,_,Ba,⟨Yp,c2',hS,hE⟩,_,_⟩:=hb;obtain⟨⟨blk,off,sp⟩,x,hax,hx,x0,x1,x2,x3,x4,vf,x5,x6⟩:=hS.elem hE Vb;obtain rfl:sp=none:=x0.1;have he:=hS.eq;simp only[Value.agg.injEq,Array.mk.injEq,List.cons.injEq,true_and,and_true]at Ba;obtain⟨rfl,rfl,rfl⟩:=Ba;simp only[Value.slice.injEq,true_and]at he;obtain⟨rfl,rfl⟩:=he;subst hax;have HX:=hid hx;have hpo:=(hv.parts.all i x Vb hx).1;have qe:0<=x.lo/\x.lo<=x.hi/\x.hi<=20:=hpo.time;have X3:=hid x3;have X4:=hid x4;have HI:=hid hI;have H2:=hid h2;obtain⟨-,-,y2⟩:=hI.b1.c3;have y3:=(x3.later (Kp.of hI.old)).2;simp only[<-Nat.add_assoc]at y3;have z0:W.cell? ⟨g2,i,none⟩=some (.int .i64 (t i)):=h2.cell i (fJ QW t);have f0:W.frozen? ⟨g2,i,none⟩=false:=h2.bM i;have bJ:¬(i:Int)=(b.parts.length:Int):=by omega
  have hii:(i:Int)<(b.parts.length:Int):=by omega
  have L3:((i:Int)==(b.parts.length:Int))=false:=by simp;omega
  rw[lP hx]at hlen⊢;have zaU:=hid hlen;have HJ:Hid (J ms O W):=hJ;have HZ:=hid hz;have IH:=ih;have Gs:Hid (b.parts.length<=c2/\c2<=maxLen):=⟨hS.le,hS.I2⟩
  clear hlen hJ hz ih hI h2 x0 x1 x2 x3 x4 x5 x6 hx hS hE hpo hv;go_enter ZF121,Tryz.ntmps121
  go_wp2
  obtain⟨WL,Xo⟩:=ex1 (W.setCell ⟨g2,i,none⟩ (.int .i64 x.lo));rw[Xo];have Jo:Hid (ac [g2] W WL):=by rw[<-Xo];exact ac.set W (by simp) _
  have So:Hid (aF WL g2 77 (tick (upd t i x.lo))):=by have:=H2.o.set i (.int .i64 x.lo);rwa [zK QW,Xo]at this
  have HIL:Hid (tW W0 WL b (.slice (some ⟨blk,off,none⟩) b.parts.length c2) v3 v4 (.func (.yield l) #[] #[]) g1 g2 g3 g4 O):=HI.o.on H2.o.lt (Jo.o.mono (by simp)) (fun _ h=>.inl h);have HJL:Hid (J ms O WL):=hR.stay HJ.o Jo.o.size (fun k hk=>Jo.o.block k (hR.own HJ.o k hk).2.1 (fun h=>HI.o.n2 (by simp at h;rw[<-h];exact hk)));clear y2 y3 z0 f0 Xo
  go_loopw [32] (fun _ wr=>∃(k:Nat) (t':Nat->Int) (O':List Nat),k<=(x.hi+1-x.lo).toNat/\Hid ((∀j,j<i->t' j=t j)/\t' i=x.lo+k/\(∀j,b.parts.length<=j->t' j=0)/\aF wr g2 77 (tick t')/\
   J (ms++(span x.lo k).flatMap fun q=>dw ag b.parts n (i+1) (upd t i q)) O' wr/\(∀o∈O',o∈O\/WL.heap.size<=o)/\ac (g2::O) WL wr)) (fun _ wr=>(x.hi+1-intOf ((wr.cell? ⟨g2,i,none⟩).getD undef)).toNat)
  case atStart=>
   exact⟨0,upd t i x.lo,O,Nat.zero_le _,(⟨fun j hj=>bR _ _ (by omega),by rw[gu];simp,fun j hj=>by rw[bR _ _ (by omega)];exact HZ.o j hj,So.o,by simpa [span]using HJL.o,fun _ h=>.inl h,ac.refl _ _⟩:_/\_/\_/\_/\_/\_/\_)⟩
  case round=>
   obtain⟨k,t',O',hk,hS⟩:=hrel;obtain⟨e1,e2,e3,e4,e5,e6,e7⟩:=hS.o;have HIr:Hid (tW W0 wr b (.slice (some ⟨blk,off,none⟩) b.parts.length c2) v3 v4 (.func (.yield l) #[] #[]) g1 g2 g3 g4 O'):=HIL.o.on So.o.lt e7 e6;have tX:=hid e4;have HE1:=hid e1;have Sp:=hid e2;have HE3:=hid e3;have Xp:=hid e5;have zF:Hid (∀o∈O',o∈O\/WL.heap.size<=o):=e6;have HKr:=hid e7;obtain⟨-,-,q2⟩:=HIr.o.b1.a3
   have q4:∀X:ai wr,X.1.cell? ⟨blk,off+i*6+4,none⟩=some (.int .i64 x.hi):=fun X=>X.cell (by
    have:=(X4.o.later (Kp.of HIr.o.old)).2;simpa only[<-Nat.add_assoc]using this)
   have qt:∀X:ai wr,X.1.cell? ⟨g2,i,none⟩=some (.int .i64 (x.lo+k)):=fun X=>X.cell (by
    have:=tX.o.cell i (fJ QW t');rwa [Sp.o]at this)
   have zgB:(i:Int)<5:=by omega
   clear e1 e2 e3 e4 e5 e6 e7 hS;by_cases az:k<(x.hi+1-x.lo).toNat
   .have hle:x.lo+(k:Int)<=x.hi:=by omega
    go_wp2
    refine am (by kernel_rfl) (by kernel_rfl) ?_;repeat(go_big_quiet_step (fail))
    refine wpQuiet_nil ?_;rintro _ ⟨X,rfl⟩;have HIx:Hid (tW W0 X.1 b (.slice (some ⟨blk,off,none⟩) b.parts.length c2) v3 v4 (.func (.yield l) #[] #[]) g1 g2 g3 g4 O'):=HIr.o.on tX.o.lt (.of X.2) (fun _ h=>.inl h);have MQ:Hid (aF X.1 g2 77 (tick t')):=(ac.of (O:=[]) X.2).box tX.o (by simp);have HJx:Hid (J (ms++(span x.lo k).flatMap fun q=>dw ag b.parts n (i+1) (upd t i q)) O' X.1):=hR.stay Xp.o X.2.size (fun k hk=>X.2.block k (hR.own Xp.o k hk).2.1);have Vn:Hid (ac (g2::O) WL X.1):=HKr.o.trans' (.of X.2);have c5:=HIx.o.b4.c1
    have HEq:Hid (dw ag b.parts n (i+1) t'=dw ag b.parts n (i+1) (upd t i (x.lo+k))):=vd n (i+1) _ _ (by omega) (fun j hj=>by
     by_cases e:j=i
     .subst e;rw[gu];exact Sp.o
     .rw[bR _ _ e];exact HE1.o j (by omega)) (fun j hj=>by rw[bR _ _ (by omega)];exact HZ.o j hj) HE3.o
    have sw:=zaU.o
    have hN:=IH (i+1) (by omega) t' (ms++(span x.lo k).flatMap fun q=>dw ag b.parts n (i+1) (upd t i q)) O' X.1 HE3.o HIx.o MQ.o HJx.o (by
     have h1:=vg x.lo (fun q=>dw ag b.parts n (i+1) (upd t i q)) az;rw[HEq.o,List.length_append];omega)
    rw[show((i+1:Nat):Int)=(i:Int)+1 by omega]at hN
    have hN':Calls ZP 121 #[.int .i64 ((i:Int)+1),ptr g1,ptr g2,ptr g3,ptr g4] X.1 (fun e w2=>(e=.returned (.bool true)/\w2.cell? ⟨g2,i,none⟩=some (.int .i64 (x.lo+k))/\w2.frozen? ⟨g2,i,none⟩=false/\
     Hid (sK J Jx g2 b.parts.length (i+1) (dw ag b.parts n (i+1) t') t' (ms++(span x.lo k).flatMap fun q=>dw ag b.parts n (i+1) (upd t i q)) O' X.1 (.returned (.bool true)) w2))\/
     (e=.returned (.bool false)/\Hid (dw ag b.parts n (i+1) t'≠ []/\Jx w2/\ac (g2::O') X.1 w2))):=hN.mono fun e w2 h=>by
     rcases h with⟨rfl,t2,h1,h2,h3,h4⟩|⟨rfl,h⟩
     .have hc:=h3.cell i (fJ QW t2);rw[h1 i (by omega),Sp.o]at hc;exact .inl ⟨rfl,hc,h3.bM i,.inl ⟨rfl,t2,h1,h2,h3,h4⟩⟩
     .exact .inr ⟨rfl,h⟩
    clear hN IH q2 q4 qt sw;go_wp2_with(go_at_call 121;refine hN'.mono ?_;rintro e w2 (⟨rfl,k1,k2,Vo⟩|⟨rfl,Vo⟩))
    .have AN:Hid (∃(t3:Nat->Int) (O3:List Nat),(∀j,j<i->t3 j=t j)/\t3 i=x.lo+((k+1:Nat):Int)/\(∀j,b.parts.length<=j->t3 j=0)/\aF (w2.setCell ⟨g2,i,none⟩ (.int .i64 (x.lo+k+1))) g2 77 (tick t3)/\
      J (ms++(span x.lo (k+1)).flatMap fun q=>dw ag b.parts n (i+1) (upd t i q)) O3 (w2.setCell ⟨g2,i,none⟩ (.int .i64 (x.lo+k+1)))/\(∀o∈O3,o∈O\/WL.heap.size<=o)/\ac (g2::O) WL (w2.setCell ⟨g2,i,none⟩ (.int .i64 (x.lo+k+1)))):=by
      rcases Vo.o with⟨_,t2,h1,h2,h3,O2,sD,D5,rc⟩|⟨h,_⟩
      .have hs:=MQ.o.lt;have AG:g2∉O2:=fun h=>(sD _ h).elim HIx.o.n2 (fun h=>by omega);have hsx:=Vn.o.size;refine⟨upd t2 i (x.lo+k+1),O2,fun j hj=>by rw[bR _ _ (by omega),h1 j (by omega)];exact HE1.o j hj,by rw[gu];omega,fun j hj=>by rw[bR _ _ (by omega)];exact h2 j hj,?_,?_,?_,?_⟩
       .have:=h3.set i (.int .i64 (x.lo+k+1));rwa [zK QW]at this
       .rw[jJ,List.flatMap_append,<-List.append_assoc];simp only[List.flatMap_cons,List.flatMap_nil,List.append_nil];rw[<-HEq.o];exact hR.stay D5 (by simp[World.setCell]) (fun o ho=>Below.heap_setCell _ _ _ _ (fun(e:o=g2)=>AG (by rw[<-e];exact ho)))
       .exact fun o ho=>(sD o ho).elim (zF.out o) (fun h=>.inr (Nat.le_trans hsx h))
       .refine(Vn.o.trans rc fun o ho=>?_).trans' (ac.set w2 (by simp) _);rcases List.mem_cons.1 ho with rfl|ho
        .exact .inl (by simp)
        .exact(zF.out o ho).imp (List.mem_cons_of_mem _) id
      .cases h
     obtain⟨t3,O3,r1,r2,r3,r4,r5,r6,r7⟩:=AN.o;have c6:=r4.cell i (fJ QW t3);rw[r2]at c6;have c7:=tX.o.cell i (fJ QW t');rw[Sp.o]at c7
     have tn:Hid ((∀j,j<i->t3 j=t j)/\t3 i=x.lo+((k+1:Nat):Int)/\(∀j,b.parts.length<=j->t3 j=0)/\aF (w2.setCell ⟨g2,i,none⟩ (.int .i64 (x.lo+k+1))) g2 77 (tick t3)/\
      J (ms++(span x.lo (k+1)).flatMap fun q=>dw ag b.parts n (i+1) (upd t i q)) O3 (w2.setCell ⟨g2,i,none⟩ (.int .i64 (x.lo+k+1)))/\(∀o∈O3,o∈O\/WL.heap.size<=o)/\ac (g2::O) WL (w2.setCell ⟨g2,i,none⟩ (.int .i64 (x.lo+k+1)))):=⟨r1,r2,r3,r4,r5,r6,r7⟩
     clear r1 r2 r3 r4 r5 r6 r7 AN;go_round
     case rel=>exact⟨k+1,t3,O3,by omega,tn⟩
     case measure=>
      rw[c6,c7];simp[intOf];omega
    .go_ret;refine .inr ⟨rfl,MP x.lo (fun q=>dw ag b.parts n (i+1) (upd t i q)) az (by rw[<-HEq.o];exact Vo.o.1),Vo.o.2.1,?_⟩;refine((Jo.o.mono (O':=g2::O) (by simp)).trans' (Vn.o.trans Vo.o.2.2 fun o ho=>?_));rcases List.mem_cons.1 ho with rfl|ho
     .exact .inl (by simp)
     .exact(zF.out o ho).imp (List.mem_cons_of_mem _) id
   .have e:k=(x.hi+1-x.lo).toNat:=by omega
    subst e;have uo:¬x.lo+(((x.hi+1-x.lo).toNat:Nat):Int)<=x.hi:=by omega
    go_wp2
    refine am (by kernel_rfl) (by kernel_rfl) ?_;repeat(go_big_quiet_step (fail))
    refine wpQuiet_nil ?_;rintro _ ⟨X,rfl⟩;have MQ:Hid (aF X.1 g2 77 (tick t')):=(ac.of (O:=[]) X.2).box tX.o (by simp);have HJx:Hid (J (ms++(span x.lo (x.hi+1-x.lo).toNat).flatMap fun q=>dw ag b.parts n (i+1) (upd t i q)) O' X.1):=hR.stay Xp.o X.2.size (fun k hk=>X.2.block k (hR.own Xp.o k hk).2.1);have Vn:Hid (ac (g2::O) W X.1):=(Jo.o.mono (O':=g2::O) (by simp)).trans' (HKr.o.trans' (.of X.2));clear q2 q4 qt;go_wp2
    go_ret;exact .inl ⟨rfl,t',HE1.o,HE3.o,MQ.o,O',(fun o ho=>(zF.out o ho).imp id (fun h=>Nat.le_trans Jo.o.size h)),HJx.o,Vn.o⟩
theorem FN
 (hb:au W0 (.agg #[.int .i64 b.ak,.int .i64 b.places,.slice a2 b.parts.length c2,v3,v4]) b) (hv:Valid b)
 (kA:∀X t,Below W0.heap.size W0 X->Calls ZP 122 #[.agg #[.int .i64 b.ak,.int .i64 b.places,.slice a2 b.parts.length c2,v3,v4],.agg (tick t)] X (bK X (.bool (ag t))))
 (hR:xf W0 l K J Jx) (hold:Below W0.heap.size W0 W) (hJ:J [] O W) (hlen:(dw ag b.parts b.parts.length 0 (fun _=>0)).length<=K):
 Calls ZP 100 #[.agg #[.int .i64 b.ak,.int .i64 b.places,.slice a2 b.parts.length c2,v3,v4],.func (.yield l) #[] #[]] W (Ct J Jx (dw ag b.parts b.parts.length 0 (fun _=>0)) O W):=by
 obtain⟨A0,tp⟩:=ex1 (W.alloc (.cells #[.int .i64 b.ak,.int .i64 b.places,.slice a2 b.parts.length c2,v3,v4] 66));obtain⟨A1,aV⟩:=ex1 (A0.alloc (.cells #[.func (.yield l) #[] #[]] 149));obtain⟨A2,bY⟩:=ex1 (A1.alloc (.cells #[.int .i64 0,.int .i64 0,.int .i64 0,.int .i64 0,.int .i64 0] 77));obtain⟨A3,iI⟩:=ex1 (A2.alloc (.cells #[.nilFunc] 102));have GA:=snew tp;have eE:=snew2 aV GA;have mh:=snew2 bY eE;have A8:=snew2 iI mh
 have b1:aF A3 W.heap.size 66 #[.int .i64 b.ak,.int .i64 b.places,.slice a2 b.parts.length c2,v3,v4]:=by
  rw[<-iI];refine(ac.alloc [] _ _).box ?_ (by simp);rw[<-bY];refine(ac.alloc [] _ _).box ?_ (by simp);rw[<-aV];refine(ac.alloc [] _ _).box ?_ (by simp);rw[<-tp];exact aF.new _ _ _
 have b2:aF A3 (W.heap.size+1) 149 #[.func (.yield l) #[] #[]]:=by
  rw[<-iI];refine(ac.alloc [] _ _).box ?_ (by simp);rw[<-bY];refine(ac.alloc [] _ _).box ?_ (by simp);rw[<-aV,<-GA];exact aF.new _ _ _
 have b3:aF A3 (W.heap.size+1+1) 77 (tick fun _=>0):=by
  rw[<-iI];refine(ac.alloc [] _ _).box ?_ (by simp);rw[<-bY,<-eE];exact aF.new _ _ _
 have b5:=(bnew2 iI mh).o;have nO:ac [] W A3:=by rw[<-iI,<-bY,<-aV,<-tp];exact(((ac.alloc _ _ _).jk _).jk _).jk _
 obtain⟨F,hF⟩:∃F:Value,.func (.func 121) #[] #[ptr W.heap.size,ptr (W.heap.size+1+1),ptr (W.heap.size+1),ptr (W.heap.size+1+1+1)]=F:=⟨_,rfl⟩
 obtain⟨A4,sF⟩:=ex1 (A3.setCell ⟨W.heap.size+1+1+1,0,none⟩ F);have oY:ac [W.heap.size+1+1+1] A3 A4:=by rw[<-sF];exact ac.set A3 (by simp) _
 have QT:aF A4 (W.heap.size+1+1+1) 102 #[F]:=by rw[<-sF];exact b5.set 0 F
 have hO:∀k∈O,W0.heap.size<=k/\k<W.heap.size/\k∉([]:List Nat):=fun k hk=>hR.own hJ k hk;have hk:ac [] W A4:=nO.trans oY (by simp;omega);have bX:=hold.size
 have hI:tW W0 A4 b (.slice a2 b.parts.length c2) v3 v4 (.func (.yield l) #[] #[]) W.heap.size (W.heap.size+1+1) (W.heap.size+1) (W.heap.size+1+1+1) O:=by
  refine⟨oY.box b1 (by simp;omega),oY.box b2 (by simp),by rw[hF];exact QT,?_,?_,?_,?_,by omega,by omega,by omega,by omega,hold.trans (hk.below (by simp) bX),fun k hx=>(hO k hx).1⟩;all_goals(intro hx;have:=(hO _ hx).2.1;omega)
 have Vj:J [] O A4:=hR.stay hJ hk.size (fun k hx=>hk.block k (hO k hx).2.1 (by simp));have hC:=FM hb hv kA hR b.parts.length 0 (by omega) (fun _=>0) [] O A4 (fun _ _=>rfl) hI (oY.box b3 (by simp)) Vj (by simpa using hlen);have c5:=b5.c1;have f5:A3.frozen? ⟨W.heap.size+1+1+1,0,none⟩=false:=b5.bM 0;have c6:=QT.c1;have HK:=hid hk;rw[<-hF]at c6;clear hlen hI Vj hb hv hR hold hJ b1 b2 b3 b5 QT nO oY hk bX hO kA;subst hF;have bP:∀(a:Addr) (f:Fn) (x y:Array Value) (w:World),(store a (.func f x y) .plain).run ZP w=stored ZP w a (.func f x y) .plain:=fun a f x y w=>run_store ZP w a _ _ rfl;go_enter ZF100,Tryz.ntmps100
 go_wp2_with(go_at_call 121;refine hC.mono ?_;rintro e w1 (⟨rfl,t2,h1,h2,hB,O2,sD,D5,rc⟩|⟨rfl,MN,MO,rc⟩))
 .go_end0
  refine⟨⟨_,rfl⟩,.inl ⟨O2,(fun k hk=>(sD k hk).imp id (fun h=>Nat.le_trans HK.o.size h)),by simpa using D5,(HK.o.mono (O':=O) (by simp)).trans rc fun x hx=>?_⟩⟩;rcases List.mem_cons.1 hx with rfl|hx
  .exact .inr (by omega)
  .exact .inl hx
 .go_end0
  refine⟨⟨_,rfl⟩,.inr ⟨MN,MO,(HK.o.mono (O':=O) (by simp)).trans rc fun x hx=>?_⟩⟩;rcases List.mem_cons.1 hx with rfl|hx
  .exact .inr (by omega)
  .exact .inl hx
end Go.Proofs.Cz
