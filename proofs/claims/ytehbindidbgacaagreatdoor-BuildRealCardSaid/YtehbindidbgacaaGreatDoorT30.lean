/- A part. Conditions: none. -/
import Derived.Test.YtehbindidbgacaaGreatDoorT29
import Derived.WalkMore
set_option linter.all false
set_option maxHeartbeats 8000000
set_option maxRecDepth 100000
namespace Go.Proofs.Cz
open Go.RowKit
end Go.Proofs.Cz
namespace Go.Proofs.Cz
end Go.Proofs.Cz
namespace Go.Proofs.Cz
open Go.RowKit
variable {A W W0 w w':World} {B K T c2 g g1 g2 g3 g4 i k l n p:Nat} {J:List (Nat->Int)->List Nat->World->Prop} {Jx:World->Prop} {O:List Nat} {a2:Option Addr} {ag:(Nat->Int)->Bool} {b:an} {cs:Array Value} {t:TypeId} {v3 v4:Value} {α:Type}
theorem ij {B':Nat} {e:TypeId} {s:Nat} {v:Value} {xs:List Value} (h:w.ownsRow B e s v n xs) (hB:B'<=B):w.ownsRow B' e s v n xs:=by
 obtain⟨h1,h|⟨g,cap,cur,rfl,hg,r⟩⟩:=h
 .exact⟨h1,.inl h⟩
 .exact⟨h1,.inr ⟨g,cap,cur,rfl,by omega,r⟩⟩
theorem aC.below (h:aC A g t cs) (k:Below B A w') (hg:g<B):aC w' g t cs:=(k.block g hg).trans h
theorem hidb (h:Hid (aC A g t cs)) (k:Below A.heap.size A w'):Hid (aC w' g t cs):=h.out.below k h.out.lt
theorem ov {P:Nat} (h:aC w P t cs):∀j u,cs.toList[j]?=some u->w.cell? ((⟨P,0,none⟩:Addr).add j)=some u:=fun j u hu=>by
 have Bd:(⟨P,0,none⟩:Addr).add j=⟨P,j,none⟩:=by unfold Addr.add;split<;>simp_all
 rw[Bd];exact h.cell j (by simpa using hu)
theorem uW {p x:Int} {l:List Part}:∀{k:Nat},x∈di p l k↔∃i:Nat,i<k/\x=i/\∃y,l[i]?=some y/\p∈y.fits
 |0=>by simp[di]
 |k+1=>by
  rw[di,List.mem_append,uW];constructor
  .rintro(⟨i,hi,h⟩|h)
   .exact⟨i,by omega,h⟩
   .cases hk:l[k]? with
    |none=>simp[hk]at h
    |some y=>
     simp only[hk]at h;split at h
     .simp at h;exact⟨k,by omega,h,y,hk,by assumption⟩
     .simp at h
  .rintro⟨i,hi,rfl,y,hy,hp⟩;by_cases e:i=k
   .subst e;right;simp[hy,hp]
   .exact .inl ⟨i,by omega,rfl,y,hy,hp⟩
def tick (t:Nat->Int):Array Value:=#[.int .i64 (t 0),.int .i64 (t 1),.int .i64 (t 2),.int .i64 (t 3),.int .i64 (t 4)]
theorem fH (hp:p<5) (t:Nat->Int):(tick t)[p]?=some (.int .i64 (t p)):=by
 match p,hp with
 |0,_=>rfl
 |1,_=>rfl
 |2,_=>rfl
 |3,_=>rfl
 |4,_=>rfl
def aq (m t:Nat->Int):Nat->Int
 |0=>0
 |k+1=>aq m t k+t (m k).toNat
theorem it {m t:Nat->Int} (ht:∀i,0<=t i/\t i<=20):∀k,0<=aq m t k/\aq m t k<=20*k
 |0=>by simp[aq]
 |k+1=>by
  have h1:=it (m:=m) ht k;have h2:=ht (m k).toNat;unfold aq;omega
theorem zy (w:World) (v2 v3 v4:Value) (b:an) (N:Nat) (hN:b.places=N) (qe:N<=4) (m t:Nat->Int) (hm:∀i,i<N->0<=m i/\m i<5) (ht:∀i,0<=t i/\t i<=20):
 Calls ZP 96 #[.agg #[.int .i64 b.ah,.int .i64 b.places,v2,v3,v4],.agg (bD m),.agg (tick t)] w (cD w (.int .i64 (aq m t N))):=by
 rw[hN];obtain⟨A1,ba⟩:=ex1 (w.alloc (.cells #[.int .i64 b.ah,.int .i64 N,v2,v3,v4] 84));obtain⟨A2,bN⟩:=ex1 (A1.alloc (.cells (bD m) 107));obtain⟨A3,ii⟩:=ex1 (A2.alloc (.cells (tick t) 99));have eR:=snew ba;have js:=snew2 bN eR
 have b1:aC A3 w.heap.size 84 #[.int .i64 b.ah,.int .i64 N,v2,v3,v4]:=by
  rw[<-ii];refine(ab.alloc [] _ _).box ?_ (by simp);rw[<-bN];refine(ab.alloc [] _ _).box ?_ (by simp);rw[<-ba];exact aC.new _ _ _
 have B2:Hid (aC A3 (w.heap.size+1) 107 (bD m)):=by
  rw[<-ii];refine(ab.alloc [] _ _).box ?_ (by simp);rw[<-bN,<-eR];exact aC.new _ _ _
 have B3:=bnew2 ii js;have HW:=wnew3 ba bN ii;obtain⟨-,z1⟩:=b1.c2;simp only[bD,tick]at bN ii⊢;clear b1 hN;go_enter ZF96,Tryz.ntmps96
 go_wp2
 clear ba bN ii eR js;go_loop [12,8,7] (fun i _ s=>∃k:Nat,k<=N/\i=.int .i64 k/\s=.int .i64 (aq m t k)) (fun i _ _=>N-(intOf i).toNat)
 case atStart=>exact⟨0,Nat.zero_le _,rfl,rfl⟩
 case round=>
  obtain⟨k,hk,rfl,rfl⟩:=hrel;by_cases au:k<N
  .have kA:k<4:=by omega
   have c2:A3.cell? ⟨w.heap.size+1,k,none⟩=some (.int .i64 (m k)):=B2.o.cell k (gF kA _);obtain⟨j,hj⟩:∃j:Nat,m k=(j:Int):=⟨(m k).toNat,by have:=(hm k au).1;omega⟩
   have Xv:j<5:=by have:=(hm k au).2;omega
   rw[hj]at c2;have c3:A3.cell? ⟨w.heap.size+1+1,j,none⟩=some (.int .i64 (t j)):=B3.o.cell j (fH Xv _);have hb:=it (m:=m) ht k;have fP:=ht j;have HS:Hid (aq m t (k+1)=aq m t k+t j):=by show aq m t k+t (m k).toNat=_;rw[hj];simp
   go_wp2
   go_round
   case rel=>exact⟨k+1,by omega,by go_num,by rw[HS.o]⟩
   case measure=>simp[intOf];omega
  .have e:k=N:=by omega
   subst e;go_wp2
   go_ret;exact⟨rfl,HW.o⟩
attribute [local go_sem] Oper.semAt_some
def span (lo:Int):Nat->List Int
 |0=>[]
 |n+1=>lo::span (lo+1) n
def dk (ag:(Nat->Int)->Bool) (l:List Part):Nat->Nat->(Nat->Int)->List (Nat->Int)
 |0,_,t=>if ag t then [t]else []
 |n+1,i,t=>match l[i]? with
  |some x=>(span x.lo (x.hi+1-x.lo).toNat).flatMap fun k=>dk ag l n (i+1) (upd t i k)
  |none=>[]
structure tU (W0 W:World) (b:an) (v2 v3 v4 y:Value) (g1 g2 g3 g4:Nat) (O:List Nat):Prop where
 b1:aC W g1 84 #[.int .i64 b.ah,.int .i64 b.places,v2,v3,v4]
 b3:aC W g3 154 #[y]
 b4:aC W g4 91 #[.func (.func 107) #[] #[ptr g1,ptr g2,ptr g3,ptr g4]]
 n1:g1∉O
 n2:g2∉O
 n3:g3∉O
 n4:g4∉O
 d1:g1≠g2
 d3:g3≠g2
 d4:g4≠g2
 ge:W0.heap.size<=g2
 old:Below W0.heap.size W0 W
 U6:∀k∈O,W0.heap.size<=k
theorem tU.on {W':World} {v2 y:Value} {O':List Nat} (h:tU W0 W b v2 v3 v4 y g1 g2 g3 g4 O) (h2:g2<W.heap.size)
 (hk:ab (g2::O) W W') (hO:∀k∈O',k∈O\/W.heap.size<=k):tU W0 W' b v2 v3 v4 y g1 g2 g3 g4 O':=by
 have l1:=h.b1.lt;have l3:=h.b3.lt;have l4:=h.b4.lt
 have hW:=h.old.size
 refine⟨hk.box h.b1 (by simp[h.d1,h.n1]),hk.box h.b3 (by simp[h.d3,h.n3]),hk.box h.b4 (by simp[h.d4,h.n4]),?_,?_,?_,?_,h.d1,h.d3,h.d4,h.ge,
  h.old.trans (hk.below (fun k hx=>by rcases List.mem_cons.1 hx with rfl|hx;exact h.ge;exact h.U6 k hx) hW),fun k hx=>(hO k hx).elim (h.U6 k) (fun hx=>by omega)⟩
 .intro hx;exact(hO _ hx).elim h.n1 (fun hx=>by omega)
 .intro hx;exact(hO _ hx).elim h.n2 (fun hx=>by omega)
 .intro hx;exact(hO _ hx).elim h.n3 (fun hx=>by omega)
 .intro hx;exact(hO _ hx).elim h.n4 (fun hx=>by omega)
def sv (J:List (Nat->Int)->List Nat->World->Prop) (Jx:World->Prop) (g2 P i:Nat) (L:List (Nat->Int)) (t:Nat->Int) (ms:List (Nat->Int)) (O:List Nat) (W:World) (e:Ending) (W':World):Prop:=
 (e=.returned (.bool true)/\∃t',(∀j,j<i->t' j=t j)/\(∀j,P<=j->t' j=0)/\aC W' g2 99 (tick t')/\∃O',(∀k∈O',k∈O\/W.heap.size<=k)/\J (ms++L) O' W'/\ab (g2::O) W W')\/
 (e=.returned (.bool false)/\L≠ []/\Jx W'/\ab (g2::O) W W')
abbrev wQ (W0:World) (l K:Nat) (J:List (Nat->Int)->List Nat->World->Prop) (Jx:World->Prop):Prop:=
 BT ZP W0.heap.size [] l (fun t=>.agg (tick t)) K J Jx
theorem B6 {t:Nat->Int} {ms:List (Nat->Int)}
 (hi:i=b.parts.length) (hz:∀j,b.parts.length<=j->t j=0)
 (ie:∀X,Below W0.heap.size W0 X->Calls ZP 108 #[.agg #[.int .i64 b.ah,.int .i64 b.places,.slice a2 b.parts.length c2,v3,v4],.agg (tick t)] X (cD X (.bool (ag t))))
 (hR:wQ W0 l K J Jx) (hI:tU W0 W b (.slice a2 b.parts.length c2) v3 v4 (.func (.yield l) #[] #[]) g1 g2 g3 g4 O) (h2:aC W g2 99 (tick t)) (hJ:J ms O W) (hlen:ms.length+(if ag t then 1 else 0)<=K):
 Calls ZP 107 #[.int .i64 i,ptr g1,ptr g2,ptr g3,ptr g4] W (sv J Jx g2 b.parts.length i (if ag t then [t]else []) t ms O W):=by
 obtain⟨y0,y1,y2,y3,y4⟩:=hI.b1.c5;obtain⟨x0,x1,x2,x3,x4⟩:=h2.c5;have HI:=hid hI;have H2:=hid h2;have HZ:=hid hz;have hC:=ie W hI.old;clear hI h2 hz ie;subst hi;cases he:ag t with
 |false=>
  rw[he]at hC;simp only[tick]at hC;go_enter ZF107,Tryz.ntmps107
  go_wp2_with(go_at_call 108
              refine hC.mono ?_;rintro e w1 ⟨rfl,bi⟩;have HB:=hid bi;clear bi)
  go_ret;exact .inl ⟨rfl,t,fun _ _=>rfl,HZ.o,(ab.of (O:=[]) HB.o).box H2.o (by simp),O,fun _ h=>.inl h,by simpa using hR.stay hJ HB.o.size (fun k hk=>HB.o.block k (hR.own hJ k hk).2.1),.of HB.o⟩
 |true=>
  rw[he]at hC;simp only[tick]at hC;have HL:Hid (ms.length<K):=(by simp[he]at hlen;exact(by omega:ms.length<K))
  have HJ:Hid (J ms O W):=hJ;clear hlen hJ;refine(callsIn_wide (n:=0)).1 ?_;refine callsIn_of_wp ZF107 rfl trivial ?_
  simp only[Tryz.ntmps107,List.size_toArray,List.length_cons,List.length_nil,Nat.reduceAdd,Nat.reduceSub,Array.replicate_succ,
   Array.replicate_zero,List.push_toArray,List.append_toArray,List.nil_append,List.cons_append]
  gi_wp2_with(refine⟨trivial,rfl,?_⟩
              gi_at_call 108
              refine(callsIn_wide.2 hC).mono ?_;rintro e w1 ⟨rfl,bi⟩;have HB:=hid bi;have HJ1:Hid (J ms O w1):=hR.stay HJ.o bi.size (fun k hk=>bi.block k (hR.own HJ.o k hk).2.1);have U8:Hid (tU W0 w1 b (.slice a2 b.parts.length c2) v3 v4 (.func (.yield l) #[] #[]) g1 g2 g3 g4 O):=HI.o.on H2.o.lt (.of bi) (fun _ h=>.inl h);have H21:Hid (aC w1 g2 99 (tick t)):=(ab.of (O:=[]) bi).box H2.o (by simp);obtain⟨fn,tmps,assign,body,hy,hr⟩:=hR.yield ms t O w1 HJ1.o HL.o;simp only[tick]at hy;have q0:=U8.o.b3.c1;obtain⟨x0,x1,x2,x3,x4⟩:=H21.o.c5;clear bi hC)
  refine⟨rfl,hr.mono ?_⟩;rintro e W' (⟨rfl,O',LZ,hJ',hk⟩|⟨rfl,hx,hk⟩)
  .gi_wp2
   go_ret;refine .inl ⟨rfl,t,fun _ _=>rfl,HZ.o,hk.box H21.o U8.o.n2,O',(fun k h=>(LZ k h).imp id (fun h=>Nat.le_trans HB.o.size h)),by simpa using hJ',((ab.of (O:=O) HB.o).trans' hk).mono fun x hx=>.inl (List.mem_cons_of_mem _ hx)⟩
  .gi_wp2
   go_ret;exact .inr ⟨rfl,(by simp),hx,((ab.of (O:=O) HB.o).trans' hk).mono fun x hx=>.inl (List.mem_cons_of_mem _ hx)⟩
theorem lX {l:List Part} {t:Nat->Int} {x:Part} (hx:l[i]?=some x):
 dk ag l (n+1) i t=(span x.lo (x.hi+1-x.lo).toNat).flatMap fun k=>dk ag l n (i+1) (upd t i k):=by rw[dk,hx]
theorem uX {ag:(Nat->Int)->Bool} {l:List Part}:∀(n i:Nat) (t t':Nat->Int),i+n=l.length->(∀j,j<i->t' j=t j)->(∀j,l.length<=j->t j=0)->(∀j,l.length<=j->t' j=0)->
 dk ag l n i t'=dk ag l n i t
 |0,i,t,t',hn,h1,h2,h3=>by
  have:t'=t:=by
   funext j;by_cases hj:j<i
   .exact h1 j hj
   .rw[h2 j (by omega),h3 j (by omega)]
  rw[this]
 |n+1,i,t,t',hn,h1,h2,h3=>by
  have hx:l[i]?=some l[i]:=List.getElem?_eq_getElem (by omega);rw[lX hx,lX hx];congr 1;funext k;refine uX n (i+1) _ _ (by omega) (fun j hj=>?_) (fun j hj=>?_) (fun j hj=>?_)
  .by_cases e:j=i
   .subst e;rw[gJ,gJ]
   .rw[bK _ _ e,bK _ _ e];exact h1 j (by omega)
  .rw[bK _ _ (by omega)];exact h2 j hj
  .rw[bK _ _ (by omega)];exact h3 j hj
theorem lY (lo:Int):∀n:Nat,span lo (n+1)=span lo n++[lo+n]
 |0=>by simp[span]
 |n+1=>by
  have:=lY (lo+1) n;show lo::span (lo+1) (n+1)=_;rw[this];show _=lo::(span (lo+1) n)++_;rw[List.cons_append];congr 3;push_cast
  omega
theorem zA (hp:p<5) (t:Nat->Int) (k:Int):(tick t).setIfInBounds p (.int .i64 k)=tick (upd t p k):=by
 match p,hp with
 |0,_=>simp[tick,upd]
 |1,_=>simp[tick,upd]
 |2,_=>simp[tick,upd]
 |3,_=>simp[tick,upd]
 |4,_=>simp[tick,upd]
theorem uY (lo:Int) (k:Nat):∀d:Nat,∃r,span lo (k+d)=span lo k++r
 |0=>⟨[],by simp⟩
 |d+1=>by
  obtain⟨r,h⟩:=uY lo k d;exact⟨r++[lo+(k+d:Nat)],by rw[<-Nat.add_assoc,lY,h,List.append_assoc]⟩
theorem uZ (lo:Int) (f:Int->List α) (h:k<T):((span lo k).flatMap f).length+(f (lo+k)).length<=((span lo T).flatMap f).length:=by
 obtain⟨r,e⟩:=uY lo (k+1) (T-(k+1));rw[show k+1+(T-(k+1))=T by omega]at e;rw[e,List.flatMap_append,List.length_append,lY,List.flatMap_append,List.length_append];simp
theorem L3 (lo:Int) (f:Int->List α) (h:k<T) (hf:f (lo+k)≠ []):(span lo T).flatMap f≠ []:=fun e=>by
 have h1:=uZ lo f h;rw[e,List.length_nil]at h1;have:=List.length_pos_iff.2 hf;omega
theorem Fc
 (hb:ap W0 (.agg #[.int .i64 b.ah,.int .i64 b.places,.slice a2 b.parts.length c2,v3,v4]) b) (hv:Valid b)
 (ie:∀X t,Below W0.heap.size W0 X->Calls ZP 108 #[.agg #[.int .i64 b.ah,.int .i64 b.places,.slice a2 b.parts.length c2,v3,v4],.agg (tick t)] X (cD X (.bool (ag t))))
 (hR:wQ W0 l K J Jx):
 ∀(n i:Nat),i+n=b.parts.length->∀(t:Nat->Int) (ms:List (Nat->Int)) (O:List Nat) (W:World),(∀j,b.parts.length<=j->t j=0)->
  tU W0 W b (.slice a2 b.parts.length c2) v3 v4 (.func (.yield l) #[] #[]) g1 g2 g3 g4 O->aC W g2 99 (tick t)->J ms O W->ms.length+(dk ag b.parts n i t).length<=K->
  Calls ZP 107 #[.int .i64 i,ptr g1,ptr g2,ptr g3,ptr g4] W (sv J Jx g2 b.parts.length i (dk ag b.parts n i t) t ms O W):=by
 intro n;induction n with
 |zero=>exact fun i hi t ms O W hz hI h2 hJ hlen=>B6 (by omega) hz (fun X hX=>ie X t hX) hR hI h2 hJ (by
   simp only[dk]at hlen;cases he:ag t<;>simp[he]at hlen⊢<;>omega)
 |succ n ih=>
  intro i hi t ms O W hz hI h2 hJ hlen;have hm:=hv.parts.many;have Qu:i<5:=by omega
  have hil:i<b.parts.length:=by omega
  obtain⟨v2',_,_,AB,⟨a2',Xw,hS,hE⟩,_,_⟩:=hb;obtain⟨⟨blk,off,sp⟩,x,hax,hx,x0,x1,x2,x3,x4,vf,x5,x6⟩:=hS.elem hE hil;obtain rfl:sp=none:=x0.1;have he:=hS.eq;simp only[Value.agg.injEq,Array.mk.injEq,List.cons.injEq,true_and,and_true]at AB;obtain⟨rfl,rfl,rfl⟩:=AB;simp only[Value.slice.injEq,true_and]at he;obtain⟨rfl,rfl⟩:=he;subst hax;have HX:=hid hx;have hpo:=(hv.parts.all i x hil hx).1;have mD:0<=x.lo/\x.lo<=x.hi/\x.hi<=20:=hpo.time;have X3:=hid x3;have X4:=hid x4;have HI:=hid hI;have H2:=hid h2;obtain⟨-,-,y2⟩:=hI.b1.c3;have y3:=(x3.later (Kp.of hI.old)).2;simp only[<-Nat.add_assoc]at y3;have z0:W.cell? ⟨g2,i,none⟩=some (.int .i64 (t i)):=h2.cell i (fH Qu t);have f0:W.frozen? ⟨g2,i,none⟩=false:=h2.aI i;have bu:¬(i:Int)=(b.parts.length:Int):=by omega
  have hii:(i:Int)<(b.parts.length:Int):=by omega
  have Lk:((i:Int)==(b.parts.length:Int))=false:=by simp;omega
  rw[lX hx]at hlen⊢;have zbc:=hid hlen;have HJ:Hid (J ms O W):=hJ;have HZ:=hid hz;have IH:=ih;have FW:Hid (b.parts.length<=c2/\c2<=maxLen):=⟨hS.le,hS.Qb⟩
  clear hlen hJ hz ih hI h2 x0 x1 x2 x3 x4 x5 x6 hx hS hE hpo hv;go_enter ZF107,Tryz.ntmps107
  go_wp2
  obtain⟨WL,Xx⟩:=ex1 (W.setCell ⟨g2,i,none⟩ (.int .i64 x.lo));rw[Xx];have B7:Hid (ab [g2] W WL):=by rw[<-Xx];exact ab.set W (by simp) _
  have Qv:Hid (aC WL g2 99 (tick (upd t i x.lo))):=by have:=H2.o.set i (.int .i64 x.lo);rwa [zA Qu,Xx]at this
  have HIL:Hid (tU W0 WL b (.slice (some ⟨blk,off,none⟩) b.parts.length c2) v3 v4 (.func (.yield l) #[] #[]) g1 g2 g3 g4 O):=HI.o.on H2.o.lt (B7.o.mono (by simp)) (fun _ h=>.inl h);have HJL:Hid (J ms O WL):=hR.stay HJ.o B7.o.size (fun k hk=>B7.o.block k (hR.own HJ.o k hk).2.1 (fun h=>HI.o.n2 (by simp at h;rw[<-h];exact hk)));clear y2 y3 z0 f0 Xx
  go_loopw [32] (fun _ wr=>∃(k:Nat) (t':Nat->Int) (O':List Nat),k<=(x.hi+1-x.lo).toNat/\Hid ((∀j,j<i->t' j=t j)/\t' i=x.lo+k/\(∀j,b.parts.length<=j->t' j=0)/\aC wr g2 99 (tick t')/\
   J (ms++(span x.lo k).flatMap fun q=>dk ag b.parts n (i+1) (upd t i q)) O' wr/\(∀o∈O',o∈O\/WL.heap.size<=o)/\ab (g2::O) WL wr)) (fun _ wr=>(x.hi+1-intOf ((wr.cell? ⟨g2,i,none⟩).getD undef)).toNat)
  case atStart=>
   exact⟨0,upd t i x.lo,O,Nat.zero_le _,(⟨fun j hj=>bK _ _ (by omega),by rw[gJ];simp,fun j hj=>by rw[bK _ _ (by omega)];exact HZ.o j hj,Qv.o,by simpa [span]using HJL.o,fun _ h=>.inl h,ab.refl _ _⟩:_/\_/\_/\_/\_/\_/\_)⟩
  case round=>
   obtain⟨k,t',O',hk,hS⟩:=hrel;obtain⟨e1,e2,e3,e4,e5,e6,e7⟩:=hS.o;have HIr:Hid (tU W0 wr b (.slice (some ⟨blk,off,none⟩) b.parts.length c2) v3 v4 (.func (.yield l) #[] #[]) g1 g2 g3 g4 O'):=HIL.o.on Qv.o.lt e7 e6;have L5:=hid e4;have HE1:=hid e1;have RW:=hid e2;have HE3:=hid e3;have Xy:=hid e5;have BV:Hid (∀o∈O',o∈O\/WL.heap.size<=o):=e6;have HKr:=hid e7;obtain⟨-,-,q2⟩:=HIr.o.b1.a3
   have q4:∀X:aj wr,X.1.cell? ⟨blk,off+i*6+4,none⟩=some (.int .i64 x.hi):=fun X=>X.cell (by
    have:=(X4.o.later (Kp.of HIr.o.old)).2;simpa only[<-Nat.add_assoc]using this)
   have qt:∀X:aj wr,X.1.cell? ⟨g2,i,none⟩=some (.int .i64 (x.lo+k)):=fun X=>X.cell (by
    have:=L5.o.cell i (fH Qu t');rwa [RW.o]at this)
   have zhe:(i:Int)<5:=by omega
   clear e1 e2 e3 e4 e5 e6 e7 hS;by_cases au:k<(x.hi+1-x.lo).toNat
   .have hle:x.lo+(k:Int)<=x.hi:=by omega
    go_wp2
    refine am (by kernel_rfl) (by kernel_rfl) ?_;repeat(go_big_quiet_step (fail))
    refine wpQuiet_nil ?_;rintro _ ⟨X,rfl⟩;have HIx:Hid (tU W0 X.1 b (.slice (some ⟨blk,off,none⟩) b.parts.length c2) v3 v4 (.func (.yield l) #[] #[]) g1 g2 g3 g4 O'):=HIr.o.on L5.o.lt (.of X.2) (fun _ h=>.inl h);have Xz:Hid (aC X.1 g2 99 (tick t')):=(ab.of (O:=[]) X.2).box L5.o (by simp);have HJx:Hid (J (ms++(span x.lo k).flatMap fun q=>dk ag b.parts n (i+1) (upd t i q)) O' X.1):=hR.stay Xy.o X.2.size (fun k hk=>X.2.block k (hR.own Xy.o k hk).2.1);have Vg:Hid (ab (g2::O) WL X.1):=HKr.o.trans' (.of X.2);have c5:=HIx.o.b4.c1
    have HEq:Hid (dk ag b.parts n (i+1) t'=dk ag b.parts n (i+1) (upd t i (x.lo+k))):=uX n (i+1) _ _ (by omega) (fun j hj=>by
     by_cases e:j=i
     .subst e;rw[gJ];exact RW.o
     .rw[bK _ _ e];exact HE1.o j (by omega)) (fun j hj=>by rw[bK _ _ (by omega)];exact HZ.o j hj) HE3.o
    have F6:=zbc.o
    have hN:=IH (i+1) (by omega) t' (ms++(span x.lo k).flatMap fun q=>dk ag b.parts n (i+1) (upd t i q)) O' X.1 HE3.o HIx.o Xz.o HJx.o (by
     have h1:=uZ x.lo (fun q=>dk ag b.parts n (i+1) (upd t i q)) au;rw[HEq.o,List.length_append];omega)
    rw[show((i+1:Nat):Int)=(i:Int)+1 by omega]at hN
    have hN':Calls ZP 107 #[.int .i64 ((i:Int)+1),ptr g1,ptr g2,ptr g3,ptr g4] X.1 (fun e w2=>(e=.returned (.bool true)/\w2.cell? ⟨g2,i,none⟩=some (.int .i64 (x.lo+k))/\w2.frozen? ⟨g2,i,none⟩=false/\
     Hid (sv J Jx g2 b.parts.length (i+1) (dk ag b.parts n (i+1) t') t' (ms++(span x.lo k).flatMap fun q=>dk ag b.parts n (i+1) (upd t i q)) O' X.1 (.returned (.bool true)) w2))\/
     (e=.returned (.bool false)/\Hid (dk ag b.parts n (i+1) t'≠ []/\Jx w2/\ab (g2::O') X.1 w2))):=hN.mono fun e w2 h=>by
     rcases h with⟨rfl,t2,h1,h2,h3,h4⟩|⟨rfl,h⟩
     .have hc:=h3.cell i (fH Qu t2);rw[h1 i (by omega),RW.o]at hc;exact .inl ⟨rfl,hc,h3.aI i,.inl ⟨rfl,t2,h1,h2,h3,h4⟩⟩
     .exact .inr ⟨rfl,h⟩
    clear hN IH q2 q4 qt F6;go_wp2_with(go_at_call 107;refine hN'.mono ?_;rintro e w2 (⟨rfl,k1,k2,Vh⟩|⟨rfl,Vh⟩))
    .have mC:Hid (∃(t3:Nat->Int) (O3:List Nat),(∀j,j<i->t3 j=t j)/\t3 i=x.lo+((k+1:Nat):Int)/\(∀j,b.parts.length<=j->t3 j=0)/\aC (w2.setCell ⟨g2,i,none⟩ (.int .i64 (x.lo+k+1))) g2 99 (tick t3)/\
      J (ms++(span x.lo (k+1)).flatMap fun q=>dk ag b.parts n (i+1) (upd t i q)) O3 (w2.setCell ⟨g2,i,none⟩ (.int .i64 (x.lo+k+1)))/\(∀o∈O3,o∈O\/WL.heap.size<=o)/\ab (g2::O) WL (w2.setCell ⟨g2,i,none⟩ (.int .i64 (x.lo+k+1)))):=by
      rcases Vh.o with⟨_,t2,h1,h2,h3,O2,sk,Dy,qX⟩|⟨h,_⟩
      .have hs:=Xz.o.lt;have ye:g2∉O2:=fun h=>(sk _ h).elim HIx.o.n2 (fun h=>by omega);have hsx:=Vg.o.size;refine⟨upd t2 i (x.lo+k+1),O2,fun j hj=>by rw[bK _ _ (by omega),h1 j (by omega)];exact HE1.o j hj,by rw[gJ];omega,fun j hj=>by rw[bK _ _ (by omega)];exact h2 j hj,?_,?_,?_,?_⟩
       .have:=h3.set i (.int .i64 (x.lo+k+1));rwa [zA Qu]at this
       .rw[lY,List.flatMap_append,<-List.append_assoc];simp only[List.flatMap_cons,List.flatMap_nil,List.append_nil];rw[<-HEq.o];exact hR.stay Dy (by simp[World.setCell]) (fun o ho=>Below.heap_setCell _ _ _ _ (fun(e:o=g2)=>ye (by rw[<-e];exact ho)))
       .exact fun o ho=>(sk o ho).elim (BV.out o) (fun h=>.inr (Nat.le_trans hsx h))
       .refine(Vg.o.trans qX fun o ho=>?_).trans' (ab.set w2 (by simp) _);rcases List.mem_cons.1 ho with rfl|ho
        .exact .inl (by simp)
        .exact(BV.out o ho).imp (List.mem_cons_of_mem _) id
      .cases h
     obtain⟨t3,O3,r1,r2,r3,r4,r5,r6,r7⟩:=mC.o;have c6:=r4.cell i (fH Qu t3);rw[r2]at c6;have c7:=L5.o.cell i (fH Qu t');rw[RW.o]at c7
     have wR:Hid ((∀j,j<i->t3 j=t j)/\t3 i=x.lo+((k+1:Nat):Int)/\(∀j,b.parts.length<=j->t3 j=0)/\aC (w2.setCell ⟨g2,i,none⟩ (.int .i64 (x.lo+k+1))) g2 99 (tick t3)/\
      J (ms++(span x.lo (k+1)).flatMap fun q=>dk ag b.parts n (i+1) (upd t i q)) O3 (w2.setCell ⟨g2,i,none⟩ (.int .i64 (x.lo+k+1)))/\(∀o∈O3,o∈O\/WL.heap.size<=o)/\ab (g2::O) WL (w2.setCell ⟨g2,i,none⟩ (.int .i64 (x.lo+k+1)))):=⟨r1,r2,r3,r4,r5,r6,r7⟩
     clear r1 r2 r3 r4 r5 r6 r7 mC;go_round
     case rel=>exact⟨k+1,t3,O3,by omega,wR⟩
     case measure=>
      rw[c6,c7];simp[intOf];omega
    .go_ret;refine .inr ⟨rfl,L3 x.lo (fun q=>dk ag b.parts n (i+1) (upd t i q)) au (by rw[<-HEq.o];exact Vh.o.1),Vh.o.2.1,?_⟩;refine((B7.o.mono (O':=g2::O) (by simp)).trans' (Vg.o.trans Vh.o.2.2 fun o ho=>?_));rcases List.mem_cons.1 ho with rfl|ho
     .exact .inl (by simp)
     .exact(BV.out o ho).imp (List.mem_cons_of_mem _) id
   .have e:k=(x.hi+1-x.lo).toNat:=by omega
    subst e;have xU:¬x.lo+(((x.hi+1-x.lo).toNat:Nat):Int)<=x.hi:=by omega
    go_wp2
    refine am (by kernel_rfl) (by kernel_rfl) ?_;repeat(go_big_quiet_step (fail))
    refine wpQuiet_nil ?_;rintro _ ⟨X,rfl⟩;have Xz:Hid (aC X.1 g2 99 (tick t')):=(ab.of (O:=[]) X.2).box L5.o (by simp);have HJx:Hid (J (ms++(span x.lo (x.hi+1-x.lo).toNat).flatMap fun q=>dk ag b.parts n (i+1) (upd t i q)) O' X.1):=hR.stay Xy.o X.2.size (fun k hk=>X.2.block k (hR.own Xy.o k hk).2.1);have Vg:Hid (ab (g2::O) W X.1):=(B7.o.mono (O':=g2::O) (by simp)).trans' (HKr.o.trans' (.of X.2));clear q2 q4 qt;go_wp2
    go_ret;exact .inl ⟨rfl,t',HE1.o,HE3.o,Xz.o,O',(fun o ho=>(BV.out o ho).imp id (fun h=>Nat.le_trans B7.o.size h)),HJx.o,Vg.o⟩
theorem Fd
 (hb:ap W0 (.agg #[.int .i64 b.ah,.int .i64 b.places,.slice a2 b.parts.length c2,v3,v4]) b) (hv:Valid b)
 (ie:∀X t,Below W0.heap.size W0 X->Calls ZP 108 #[.agg #[.int .i64 b.ah,.int .i64 b.places,.slice a2 b.parts.length c2,v3,v4],.agg (tick t)] X (cD X (.bool (ag t))))
 (hR:wQ W0 l K J Jx) (hold:Below W0.heap.size W0 W) (hJ:J [] O W) (hlen:(dk ag b.parts b.parts.length 0 (fun _=>0)).length<=K):
 Calls ZP 88 #[.agg #[.int .i64 b.ah,.int .i64 b.places,.slice a2 b.parts.length c2,v3,v4],.func (.yield l) #[] #[]] W (BU J Jx (dk ag b.parts b.parts.length 0 (fun _=>0)) O W):=by
 obtain⟨A0,Ai⟩:=ex1 (W.alloc (.cells #[.int .i64 b.ah,.int .i64 b.places,.slice a2 b.parts.length c2,v3,v4] 84));obtain⟨A1,ba⟩:=ex1 (A0.alloc (.cells #[.func (.yield l) #[] #[]] 154));obtain⟨A2,bN⟩:=ex1 (A1.alloc (.cells #[.int .i64 0,.int .i64 0,.int .i64 0,.int .i64 0,.int .i64 0] 99));obtain⟨A3,ii⟩:=ex1 (A2.alloc (.cells #[.nilFunc] 91));have NS:=snew Ai;have eR:=snew2 ba NS;have js:=snew2 bN eR;have KA:=snew2 ii js
 have b1:aC A3 W.heap.size 84 #[.int .i64 b.ah,.int .i64 b.places,.slice a2 b.parts.length c2,v3,v4]:=by
  rw[<-ii];refine(ab.alloc [] _ _).box ?_ (by simp);rw[<-bN];refine(ab.alloc [] _ _).box ?_ (by simp);rw[<-ba];refine(ab.alloc [] _ _).box ?_ (by simp);rw[<-Ai];exact aC.new _ _ _
 have b2:aC A3 (W.heap.size+1) 154 #[.func (.yield l) #[] #[]]:=by
  rw[<-ii];refine(ab.alloc [] _ _).box ?_ (by simp);rw[<-bN];refine(ab.alloc [] _ _).box ?_ (by simp);rw[<-ba,<-NS];exact aC.new _ _ _
 have b3:aC A3 (W.heap.size+1+1) 99 (tick fun _=>0):=by
  rw[<-ii];refine(ab.alloc [] _ _).box ?_ (by simp);rw[<-bN,<-eR];exact aC.new _ _ _
 have b5:=(bnew2 ii js).o;have iN:ab [] W A3:=by rw[<-ii,<-bN,<-ba,<-Ai];exact(((ab.alloc _ _ _).kj _).kj _).kj _
 obtain⟨F,hF⟩:∃F:Value,.func (.func 107) #[] #[ptr W.heap.size,ptr (W.heap.size+1+1),ptr (W.heap.size+1),ptr (W.heap.size+1+1+1)]=F:=⟨_,rfl⟩
 obtain⟨A4,tS⟩:=ex1 (A3.setCell ⟨W.heap.size+1+1+1,0,none⟩ F);have kA:ab [W.heap.size+1+1+1] A3 A4:=by rw[<-tS];exact ab.set A3 (by simp) _
 have Qt:aC A4 (W.heap.size+1+1+1) 91 #[F]:=by rw[<-tS];exact b5.set 0 F
 have hO:∀k∈O,W0.heap.size<=k/\k<W.heap.size/\k∉([]:List Nat):=fun k hk=>hR.own hJ k hk;have hk:ab [] W A4:=iN.trans kA (by simp;omega);have bV:=hold.size
 have hI:tU W0 A4 b (.slice a2 b.parts.length c2) v3 v4 (.func (.yield l) #[] #[]) W.heap.size (W.heap.size+1+1) (W.heap.size+1) (W.heap.size+1+1+1) O:=by
  refine⟨kA.box b1 (by simp;omega),kA.box b2 (by simp),by rw[hF];exact Qt,?_,?_,?_,?_,by omega,by omega,by omega,by omega,hold.trans (hk.below (by simp) bV),fun k hx=>(hO k hx).1⟩;all_goals(intro hx;have:=(hO _ hx).2.1;omega)
 have Vb:J [] O A4:=hR.stay hJ hk.size (fun k hx=>hk.block k (hO k hx).2.1 (by simp));have hC:=Fc hb hv ie hR b.parts.length 0 (by omega) (fun _=>0) [] O A4 (fun _ _=>rfl) hI (kA.box b3 (by simp)) Vb (by simpa using hlen);have c5:=b5.c1;have f5:A3.frozen? ⟨W.heap.size+1+1+1,0,none⟩=false:=b5.aI 0;have c6:=Qt.c1;have HK:=hid hk;rw[<-hF]at c6;clear hlen hI Vb hb hv hR hold hJ b1 b2 b3 b5 Qt iN kA hk bV hO ie;subst hF;have bJ:∀(a:Addr) (f:Fn) (x y:Array Value) (w:World),(store a (.func f x y) .plain).run ZP w=stored ZP w a (.func f x y) .plain:=fun a f x y w=>run_store ZP w a _ _ rfl;go_enter ZF88,Tryz.ntmps88
 go_wp2_with(go_at_call 107;refine hC.mono ?_;rintro e w1 (⟨rfl,t2,h1,h2,hB,O2,sk,Dy,qX⟩|⟨rfl,L0,L1,qX⟩))
 .go_end0
  refine⟨⟨_,rfl⟩,.inl ⟨O2,(fun k hk=>(sk k hk).imp id (fun h=>Nat.le_trans HK.o.size h)),by simpa using Dy,(HK.o.mono (O':=O) (by simp)).trans qX fun x hx=>?_⟩⟩;rcases List.mem_cons.1 hx with rfl|hx
  .exact .inr (by omega)
  .exact .inl hx
 .go_end0
  refine⟨⟨_,rfl⟩,.inr ⟨L0,L1,(HK.o.mono (O':=O) (by simp)).trans qX fun x hx=>?_⟩⟩;rcases List.mem_cons.1 hx with rfl|hx
  .exact .inr (by omega)
  .exact .inl hx
end Go.Proofs.Cz
