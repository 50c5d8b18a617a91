/- A part. Conditions: none. -/
import Derived.Test.YthmokljbbkcjdaaGreatDoorT31
import Derived.WalkMore
set_option linter.all false
set_option maxHeartbeats 8000000
set_option maxRecDepth 100000
namespace Go.Proofs.Cz
open Go.RowKit
end Go.Proofs.Cz
namespace Go.Proofs.Cz
end Go.Proofs.Cz
namespace Go.Proofs.Cz
open Go.RowKit
variable {A W W0 w w':World} {B K T c2 g g1 g2 g3 g4 i k l n p:Nat} {J:List (Nat->Int)->List Nat->World->Prop} {Jx:World->Prop} {O:List Nat} {a2:Option Addr} {ag:(Nat->Int)->Bool} {b:aS} {cs:Array Value} {t:TypeId} {v3 v4:Value} {α:Type}
def Jw (x:Part) (f:Value):List Value:=[.string x.name,.int .i64 x.cost,.int .i64 x.cm,.int .i64 x.lo,.int .i64 x.hi,f]
theorem eL {B':Nat} {e:TypeId} {s:Nat} {v:Value} {xs:List Value} (h:w.ownsRow B e s v n xs) (hB:B'<=B):w.ownsRow B' e s v n xs:=by
 obtain⟨h1,h|⟨g,cap,cur,rfl,hg,r⟩⟩:=h
 .exact⟨h1,.inl h⟩
 .exact⟨h1,.inr ⟨g,cap,cur,rfl,by omega,r⟩⟩
theorem aJ.below (h:aJ A g t cs) (k:Below B A w') (hg:g<B):aJ w' g t cs:=(k.block g hg).trans h
theorem hidb (h:Hid (aJ A g t cs)) (k:Below A.heap.size A w'):Hid (aJ w' g t cs):=h.out.below k h.out.lt
theorem Hg {P:Nat} (h:aJ w P t cs):∀j u,cs.toList[j]?=some u->w.cell? ((⟨P,0,none⟩:Addr).add j)=some u:=fun j u hu=>by
 have C6:(⟨P,0,none⟩:Addr).add j=⟨P,j,none⟩:=by unfold Addr.add;split<;>simp_all
 rw[C6];exact h.cell j (by simpa using hu)
theorem Eg:(ZP.info? 34).map (fun i=>(i.zero,i.size,i.bytes))=some (some (.agg #[.string .empty,.int .i64 0,.int .i64 0,.int .i64 0,.int .i64 0,.slice none 0 0]),6,72):=by kernel_rfl
theorem ov:ZP.underlying 22=some (.slice 34):=by rw[Tz.under];exact Tryz.underlying22
theorem yr {l:List Int} {n:Int} (hn:0<=n) (h:yf l n):(l.length:Int)<=n:=by
 have step:∀j (hj:j<l.length),(j:Int)<=l[j]:=by
  intro j;induction j with
  |zero=>exact fun hj=>(h 0 _ hj (List.getElem?_eq_getElem hj)).1
  |succ j ih=>
   intro hj;have h1:=ih (by omega);have h2:=(h (j+1) _ hj (List.getElem?_eq_getElem hj)).2.2 (l[j]'(by omega)) (by omega) (List.getElem?_eq_getElem (by omega));omega
 by_cases e:l.length=0
 .omega
 .have h1:=step (l.length-1) (by omega);have h2:=(h (l.length-1) _ (by omega) (List.getElem?_eq_getElem (by omega))).2.1;omega
def tick (t:Nat->Int):Array Value:=#[.int .i64 (t 0),.int .i64 (t 1),.int .i64 (t 2),.int .i64 (t 3),.int .i64 (t 4)]
theorem fD (hp:p<5) (t:Nat->Int):(tick t)[p]?=some (.int .i64 (t p)):=by
 match p,hp with
 |0,_=>rfl
 |1,_=>rfl
 |2,_=>rfl
 |3,_=>rfl
 |4,_=>rfl
attribute [local go_sem] Oper.semAt_some
def span (lo:Int):Nat->List Int
 |0=>[]
 |n+1=>lo::span (lo+1) n
def bU (ag:(Nat->Int)->Bool) (l:List Part):Nat->Nat->(Nat->Int)->List (Nat->Int)
 |0,_,t=>if ag t then [t]else []
 |n+1,i,t=>match l[i]? with
  |some x=>(span x.lo (x.hi+1-x.lo).toNat).flatMap fun k=>bU ag l n (i+1) (upd t i k)
  |none=>[]
structure qp (W0 W:World) (b:aS) (v2 v3 v4 y:Value) (g1 g2 g3 g4:Nat) (O:List Nat):Prop where
 b1:aJ W g1 79 #[.int .i64 b.am,.int .i64 b.places,v2,v3,v4]
 b3:aJ W g3 153 #[y]
 b4:aJ W g4 80 #[.func (.func 113) #[] #[ptr g1,ptr g2,ptr g3,ptr g4]]
 n1:g1∉O
 n2:g2∉O
 n3:g3∉O
 n4:g4∉O
 d1:g1≠g2
 d3:g3≠g2
 d4:g4≠g2
 ge:W0.heap.size<=g2
 old:Below W0.heap.size W0 W
 Xk:∀k∈O,W0.heap.size<=k
theorem qp.on {W':World} {v2 y:Value} {O':List Nat} (h:qp W0 W b v2 v3 v4 y g1 g2 g3 g4 O) (h2:g2<W.heap.size)
 (hk:aj (g2::O) W W') (hO:∀k∈O',k∈O\/W.heap.size<=k):qp W0 W' b v2 v3 v4 y g1 g2 g3 g4 O':=by
 have l1:=h.b1.lt;have l3:=h.b3.lt;have l4:=h.b4.lt
 have hW:=h.old.size
 refine⟨hk.box h.b1 (by simp[h.d1,h.n1]),hk.box h.b3 (by simp[h.d3,h.n3]),hk.box h.b4 (by simp[h.d4,h.n4]),?_,?_,?_,?_,h.d1,h.d3,h.d4,h.ge,
  h.old.trans (hk.below (fun k hx=>by rcases List.mem_cons.1 hx with rfl|hx;exact h.ge;exact h.Xk k hx) hW),fun k hx=>(hO k hx).elim (h.Xk k) (fun hx=>by omega)⟩
 .intro hx;exact(hO _ hx).elim h.n1 (fun hx=>by omega)
 .intro hx;exact(hO _ hx).elim h.n2 (fun hx=>by omega)
 .intro hx;exact(hO _ hx).elim h.n3 (fun hx=>by omega)
 .intro hx;exact(hO _ hx).elim h.n4 (fun hx=>by omega)
def pD (J:List (Nat->Int)->List Nat->World->Prop) (Jx:World->Prop) (g2 P i:Nat) (L:List (Nat->Int)) (t:Nat->Int) (ms:List (Nat->Int)) (O:List Nat) (W:World) (e:Ending) (W':World):Prop:=
 (e=.returned (.bool true)/\∃t',(∀j,j<i->t' j=t j)/\(∀j,P<=j->t' j=0)/\aJ W' g2 111 (tick t')/\∃O',(∀k∈O',k∈O\/W.heap.size<=k)/\J (ms++L) O' W'/\aj (g2::O) W W')\/
 (e=.returned (.bool false)/\L≠ []/\Jx W'/\aj (g2::O) W W')
abbrev tB (W0:World) (l K:Nat) (J:List (Nat->Int)->List Nat->World->Prop) (Jx:World->Prop):Prop:=
 D9 ZP W0.heap.size [] l (fun t=>.agg (tick t)) K J Jx
theorem yt {t:Nat->Int} {ms:List (Nat->Int)}
 (hi:i=b.parts.length) (hz:∀j,b.parts.length<=j->t j=0)
 (lA:∀X,Below W0.heap.size W0 X->Calls ZP 114 #[.agg #[.int .i64 b.am,.int .i64 b.places,.slice a2 b.parts.length c2,v3,v4],.agg (tick t)] X (eX X (.bool (ag t))))
 (hR:tB W0 l K J Jx) (hI:qp W0 W b (.slice a2 b.parts.length c2) v3 v4 (.func (.yield l) #[] #[]) g1 g2 g3 g4 O) (h2:aJ W g2 111 (tick t)) (hJ:J ms O W) (hlen:ms.length+(if ag t then 1 else 0)<=K):
 Calls ZP 113 #[.int .i64 i,ptr g1,ptr g2,ptr g3,ptr g4] W (pD J Jx g2 b.parts.length i (if ag t then [t]else []) t ms O W):=by
 obtain⟨y0,y1,y2,y3,y4⟩:=hI.b1.c5;obtain⟨x0,x1,x2,x3,x4⟩:=h2.c5;have HI:=hid hI;have H2:=hid h2;have HZ:=hid hz;have hC:=lA W hI.old;clear hI h2 hz lA;subst hi;cases he:ag t with
 |false=>
  rw[he]at hC;simp only[tick]at hC;go_enter ZF113,Tryz.ntmps113
  go_wp2_with(go_at_call 114
              refine hC.mono ?_;rintro e w1 ⟨rfl,cW⟩;have HB:=hid cW;clear cW)
  go_ret;exact .inl ⟨rfl,t,fun _ _=>rfl,HZ.o,(aj.of (O:=[]) HB.o).box H2.o (by simp),O,fun _ h=>.inl h,by simpa using hR.stay hJ HB.o.size (fun k hk=>HB.o.block k (hR.own hJ k hk).2.1),.of HB.o⟩
 |true=>
  rw[he]at hC;simp only[tick]at hC;have HL:Hid (ms.length<K):=(by simp[he]at hlen;exact(by omega:ms.length<K))
  have HJ:Hid (J ms O W):=hJ;clear hlen hJ;refine(callsIn_wide (n:=0)).1 ?_;refine callsIn_of_wp ZF113 rfl trivial ?_
  simp only[Tryz.ntmps113,List.size_toArray,List.length_cons,List.length_nil,Nat.reduceAdd,Nat.reduceSub,Array.replicate_succ,
   Array.replicate_zero,List.push_toArray,List.append_toArray,List.nil_append,List.cons_append]
  gi_wp2_with(refine⟨trivial,rfl,?_⟩
              gi_at_call 114
              refine(callsIn_wide.2 hC).mono ?_;rintro e w1 ⟨rfl,cW⟩;have HB:=hid cW;have HJ1:Hid (J ms O w1):=hR.stay HJ.o cW.size (fun k hk=>cW.block k (hR.own HJ.o k hk).2.1);have Xl:Hid (qp W0 w1 b (.slice a2 b.parts.length c2) v3 v4 (.func (.yield l) #[] #[]) g1 g2 g3 g4 O):=HI.o.on H2.o.lt (.of cW) (fun _ h=>.inl h);have Xm:Hid (aJ w1 g2 111 (tick t)):=(aj.of (O:=[]) cW).box H2.o (by simp);obtain⟨fn,tmps,assign,body,hy,hr⟩:=hR.yield ms t O w1 HJ1.o HL.o;simp only[tick]at hy;have q0:=Xl.o.b3.c1;obtain⟨x0,x1,x2,x3,x4⟩:=Xm.o.c5;clear cW hC)
  refine⟨rfl,hr.mono ?_⟩;rintro e W' (⟨rfl,O',UV,hJ',hk⟩|⟨rfl,hx,hk⟩)
  .gi_wp2
   go_ret;refine .inl ⟨rfl,t,fun _ _=>rfl,HZ.o,hk.box Xm.o Xl.o.n2,O',(fun k h=>(UV k h).imp id (fun h=>Nat.le_trans HB.o.size h)),by simpa using hJ',((aj.of (O:=O) HB.o).trans' hk).mono fun x hx=>.inl (List.mem_cons_of_mem _ hx)⟩
  .gi_wp2
   go_ret;exact .inr ⟨rfl,(by simp),hx,((aj.of (O:=O) HB.o).trans' hk).mono fun x hx=>.inl (List.mem_cons_of_mem _ hx)⟩
theorem kc {l:List Part} {t:Nat->Int} {x:Part} (hx:l[i]?=some x):
 bU ag l (n+1) i t=(span x.lo (x.hi+1-x.lo).toNat).flatMap fun k=>bU ag l n (i+1) (upd t i k):=by rw[bU,hx]
theorem rn {l:List Part}:∀(n i:Nat) (t t':Nat->Int),i+n=l.length->(∀j,j<i->t' j=t j)->(∀j,l.length<=j->t j=0)->(∀j,l.length<=j->t' j=0)->
 bU ag l n i t'=bU ag l n i t
 |0,i,t,t',hn,h1,h2,h3=>by
  have:t'=t:=by
   funext j;by_cases hj:j<i
   .exact h1 j hj
   .rw[h2 j (by omega),h3 j (by omega)]
  rw[this]
 |n+1,i,t,t',hn,h1,h2,h3=>by
  have hx:l[i]?=some l[i]:=List.getElem?_eq_getElem (by omega);rw[kc hx,kc hx];congr 1;funext k;refine rn n (i+1) _ _ (by omega) (fun j hj=>?_) (fun j hj=>?_) (fun j hj=>?_)
  .by_cases e:j=i
   .subst e;rw[fw,fw]
   .rw[du _ _ e,du _ _ e];exact h1 j (by omega)
  .rw[du _ _ (by omega)];exact h2 j hj
  .rw[du _ _ (by omega)];exact h3 j hj
theorem kd (lo:Int):∀n:Nat,span lo (n+1)=span lo n++[lo+n]
 |0=>by simp[span]
 |n+1=>by
  have:=kd (lo+1) n;show lo::span (lo+1) (n+1)=_;rw[this];show _=lo::(span (lo+1) n)++_;rw[List.cons_append];congr 3;push_cast
  omega
theorem vQ (hp:p<5) (t:Nat->Int) (k:Int):(tick t).setIfInBounds p (.int .i64 k)=tick (upd t p k):=by
 match p,hp with
 |0,_=>simp[tick,upd]
 |1,_=>simp[tick,upd]
 |2,_=>simp[tick,upd]
 |3,_=>simp[tick,upd]
 |4,_=>simp[tick,upd]
theorem rq (lo:Int) (k:Nat):∀d:Nat,∃r,span lo (k+d)=span lo k++r
 |0=>⟨[],by simp⟩
 |d+1=>by
  obtain⟨r,h⟩:=rq lo k d;exact⟨r++[lo+(k+d:Nat)],by rw[<-Nat.add_assoc,kd,h,List.append_assoc]⟩
theorem rr (lo:Int) (f:Int->List α) (h:k<T):((span lo k).flatMap f).length+(f (lo+k)).length<=((span lo T).flatMap f).length:=by
 obtain⟨r,e⟩:=rq lo (k+1) (T-(k+1));rw[show k+1+(T-(k+1))=T by omega]at e;rw[e,List.flatMap_append,List.length_append,kd,List.flatMap_append,List.length_append];simp
theorem Hh (lo:Int) (f:Int->List α) (h:k<T) (hf:f (lo+k)≠ []):(span lo T).flatMap f≠ []:=fun e=>by
 have h1:=rr lo f h;rw[e,List.length_nil]at h1;have:=List.length_pos_iff.2 hf;omega
theorem Bs
 (hb:ar W0 (.agg #[.int .i64 b.am,.int .i64 b.places,.slice a2 b.parts.length c2,v3,v4]) b) (hv:Valid b)
 (lA:∀X t,Below W0.heap.size W0 X->Calls ZP 114 #[.agg #[.int .i64 b.am,.int .i64 b.places,.slice a2 b.parts.length c2,v3,v4],.agg (tick t)] X (eX X (.bool (ag t))))
 (hR:tB W0 l K J Jx):
 ∀(n i:Nat),i+n=b.parts.length->∀(t:Nat->Int) (ms:List (Nat->Int)) (O:List Nat) (W:World),(∀j,b.parts.length<=j->t j=0)->
  qp W0 W b (.slice a2 b.parts.length c2) v3 v4 (.func (.yield l) #[] #[]) g1 g2 g3 g4 O->aJ W g2 111 (tick t)->J ms O W->ms.length+(bU ag b.parts n i t).length<=K->
  Calls ZP 113 #[.int .i64 i,ptr g1,ptr g2,ptr g3,ptr g4] W (pD J Jx g2 b.parts.length i (bU ag b.parts n i t) t ms O W):=by
 intro n;induction n with
 |zero=>exact fun i hi t ms O W hz hI h2 hJ hlen=>yt (by omega) hz (fun X hX=>lA X t hX) hR hI h2 hJ (by
   simp only[bU]at hlen;cases he:ag t<;>simp[he]at hlen⊢<;>omega)
 |succ n ih=>
  intro i hi t ms O W hz hI h2 hJ hlen;have hm:=hv.parts.many;have LW:i<5:=by omega
  have Rk:i<b.parts.length:=by omega
  obtain⟨Xn,_,_,Fy,⟨Mx,LX,hS,hE⟩,_,_⟩:=hb;obtain⟨⟨blk,off,sp⟩,x,hax,hx,x0,x1,x2,x3,x4,vf,x5,x6⟩:=hS.elem hE Rk;obtain rfl:sp=none:=x0.1;have he:=hS.eq;simp only[Value.agg.injEq,Array.mk.injEq,List.cons.injEq,true_and,and_true]at Fy;obtain⟨rfl,rfl,rfl⟩:=Fy;simp only[Value.slice.injEq,true_and]at he;obtain⟨rfl,rfl⟩:=he;subst hax;have HX:=hid hx;have Xo:=(hv.parts.all i x Rk hx).1;have hlo:0<=x.lo/\x.lo<=x.hi/\x.hi<=20:=Xo.time;have X3:=hid x3;have X4:=hid x4;have HI:=hid hI;have H2:=hid h2;obtain⟨-,-,y2⟩:=hI.b1.c3;have y3:=(x3.later (Kp.of hI.old)).2;simp only[<-Nat.add_assoc]at y3;have z0:W.cell? ⟨g2,i,none⟩=some (.int .i64 (t i)):=h2.cell i (fD LW t);have f0:W.frozen? ⟨g2,i,none⟩=false:=h2.cr i;have bE:¬(i:Int)=(b.parts.length:Int):=by omega
  have hii:(i:Int)<(b.parts.length:Int):=by omega
  have Gq:((i:Int)==(b.parts.length:Int))=false:=by simp;omega
  rw[kc hx]at hlen⊢;have UX:=hid hlen;have HJ:Hid (J ms O W):=hJ;have HZ:=hid hz;have IH:=ih;have yU:Hid (b.parts.length<=c2/\c2<=maxLen):=⟨hS.le,hS.Jn⟩
  clear hlen hJ hz ih hI h2 x0 x1 x2 x3 x4 x5 x6 hx hS hE Xo hv;go_enter ZF113,Tryz.ntmps113
  go_wp2
  obtain⟨WL,Rm⟩:=ex1 (W.setCell ⟨g2,i,none⟩ (.int .i64 x.lo));rw[Rm];have MT:Hid (aj [g2] W WL):=by rw[<-Rm];exact aj.set W (by simp) _
  have Xp:Hid (aJ WL g2 111 (tick (upd t i x.lo))):=by have:=H2.o.set i (.int .i64 x.lo);rwa [vQ LW,Rm]at this
  have HIL:Hid (qp W0 WL b (.slice (some ⟨blk,off,none⟩) b.parts.length c2) v3 v4 (.func (.yield l) #[] #[]) g1 g2 g3 g4 O):=HI.o.on H2.o.lt (MT.o.mono (by simp)) (fun _ h=>.inl h);have HJL:Hid (J ms O WL):=hR.stay HJ.o MT.o.size (fun k hk=>MT.o.block k (hR.own HJ.o k hk).2.1 (fun h=>HI.o.n2 (by simp at h;rw[<-h];exact hk)));clear y2 y3 z0 f0 Rm
  go_loopw [32] (fun _ wr=>∃(k:Nat) (t':Nat->Int) (O':List Nat),k<=(x.hi+1-x.lo).toNat/\Hid ((∀j,j<i->t' j=t j)/\t' i=x.lo+k/\(∀j,b.parts.length<=j->t' j=0)/\aJ wr g2 111 (tick t')/\
   J (ms++(span x.lo k).flatMap fun q=>bU ag b.parts n (i+1) (upd t i q)) O' wr/\(∀o∈O',o∈O\/WL.heap.size<=o)/\aj (g2::O) WL wr)) (fun _ wr=>(x.hi+1-intOf ((wr.cell? ⟨g2,i,none⟩).getD undef)).toNat)
  case atStart=>
   exact⟨0,upd t i x.lo,O,Nat.zero_le _,(⟨fun j hj=>du _ _ (by omega),by rw[fw];simp,fun j hj=>by rw[du _ _ (by omega)];exact HZ.o j hj,Xp.o,by simpa [span]using HJL.o,fun _ h=>.inl h,aj.refl _ _⟩:_/\_/\_/\_/\_/\_/\_)⟩
  case round=>
   obtain⟨k,t',O',hk,hS⟩:=hrel;obtain⟨e1,e2,e3,e4,e5,e6,e7⟩:=hS.o;have UY:Hid (qp W0 wr b (.slice (some ⟨blk,off,none⟩) b.parts.length c2) v3 v4 (.func (.yield l) #[] #[]) g1 g2 g3 g4 O'):=HIL.o.on Xp.o.lt e7 e6;have Bt:=hid e4;have UZ:=hid e1;have Rn:=hid e2;have U0:=hid e3;have Ro:=hid e5;have Rp:Hid (∀o∈O',o∈O\/WL.heap.size<=o):=e6;have Xq:=hid e7;obtain⟨-,-,q2⟩:=UY.o.b1.a3
   have q4:∀X:an wr,X.1.cell? ⟨blk,off+i*6+4,none⟩=some (.int .i64 x.hi):=fun X=>X.cell (by
    have:=(X4.o.later (Kp.of UY.o.old)).2;simpa only[<-Nat.add_assoc]using this)
   have qt:∀X:an wr,X.1.cell? ⟨g2,i,none⟩=some (.int .i64 (x.lo+k)):=fun X=>X.cell (by
    have:=Bt.o.cell i (fD LW t');rwa [Rn.o]at this)
   have zba:(i:Int)<5:=by omega
   clear e1 e2 e3 e4 e5 e6 e7 hS;by_cases ap:k<(x.hi+1-x.lo).toNat
   .have hle:x.lo+(k:Int)<=x.hi:=by omega
    go_wp2
    refine aV (by kernel_rfl) (by kernel_rfl) ?_;repeat(go_big_quiet_step (fail))
    refine wpQuiet_nil ?_;rintro _ ⟨X,rfl⟩;have U1:Hid (qp W0 X.1 b (.slice (some ⟨blk,off,none⟩) b.parts.length c2) v3 v4 (.func (.yield l) #[] #[]) g1 g2 g3 g4 O'):=UY.o.on Bt.o.lt (.of X.2) (fun _ h=>.inl h);have zO:Hid (aJ X.1 g2 111 (tick t')):=(aj.of (O:=[]) X.2).box Bt.o (by simp);have U2:Hid (J (ms++(span x.lo k).flatMap fun q=>bU ag b.parts n (i+1) (upd t i q)) O' X.1):=hR.stay Ro.o X.2.size (fun k hk=>X.2.block k (hR.own Ro.o k hk).2.1);have Pz:Hid (aj (g2::O) WL X.1):=Xq.o.trans' (.of X.2);have c5:=U1.o.b4.c1
    have HEq:Hid (bU ag b.parts n (i+1) t'=bU ag b.parts n (i+1) (upd t i (x.lo+k))):=rn n (i+1) _ _ (by omega) (fun j hj=>by
     by_cases e:j=i
     .subst e;rw[fw];exact Rn.o
     .rw[du _ _ e];exact UZ.o j (by omega)) (fun j hj=>by rw[du _ _ (by omega)];exact HZ.o j hj) U0.o
    have Re:=UX.o
    have hN:=IH (i+1) (by omega) t' (ms++(span x.lo k).flatMap fun q=>bU ag b.parts n (i+1) (upd t i q)) O' X.1 U0.o U1.o zO.o U2.o (by
     have h1:=rr x.lo (fun q=>bU ag b.parts n (i+1) (upd t i q)) ap;rw[HEq.o,List.length_append];omega)
    rw[show((i+1:Nat):Int)=(i:Int)+1 by omega]at hN
    have hN':Calls ZP 113 #[.int .i64 ((i:Int)+1),ptr g1,ptr g2,ptr g3,ptr g4] X.1 (fun e w2=>(e=.returned (.bool true)/\w2.cell? ⟨g2,i,none⟩=some (.int .i64 (x.lo+k))/\w2.frozen? ⟨g2,i,none⟩=false/\
     Hid (pD J Jx g2 b.parts.length (i+1) (bU ag b.parts n (i+1) t') t' (ms++(span x.lo k).flatMap fun q=>bU ag b.parts n (i+1) (upd t i q)) O' X.1 (.returned (.bool true)) w2))\/
     (e=.returned (.bool false)/\Hid (bU ag b.parts n (i+1) t'≠ []/\Jx w2/\aj (g2::O') X.1 w2))):=hN.mono fun e w2 h=>by
     rcases h with⟨rfl,t2,h1,h2,h3,h4⟩|⟨rfl,h⟩
     .have hc:=h3.cell i (fD LW t2);rw[h1 i (by omega),Rn.o]at hc;exact .inl ⟨rfl,hc,h3.cr i,.inl ⟨rfl,t2,h1,h2,h3,h4⟩⟩
     .exact .inr ⟨rfl,h⟩
    clear hN IH q2 q4 qt Re;go_wp2_with(go_at_call 113;refine hN'.mono ?_;rintro e w2 (⟨rfl,k1,k2,PA⟩|⟨rfl,PA⟩))
    .have Xr:Hid (∃(t3:Nat->Int) (O3:List Nat),(∀j,j<i->t3 j=t j)/\t3 i=x.lo+((k+1:Nat):Int)/\(∀j,b.parts.length<=j->t3 j=0)/\aJ (w2.setCell ⟨g2,i,none⟩ (.int .i64 (x.lo+k+1))) g2 111 (tick t3)/\
      J (ms++(span x.lo (k+1)).flatMap fun q=>bU ag b.parts n (i+1) (upd t i q)) O3 (w2.setCell ⟨g2,i,none⟩ (.int .i64 (x.lo+k+1)))/\(∀o∈O3,o∈O\/WL.heap.size<=o)/\aj (g2::O) WL (w2.setCell ⟨g2,i,none⟩ (.int .i64 (x.lo+k+1)))):=by
      rcases PA.o with⟨_,t2,h1,h2,h3,O2,He,U3,PB⟩|⟨h,_⟩
      .have hs:=zO.o.lt;have wu:g2∉O2:=fun h=>(He _ h).elim U1.o.n2 (fun h=>by omega);have hsx:=Pz.o.size;refine⟨upd t2 i (x.lo+k+1),O2,fun j hj=>by rw[du _ _ (by omega),h1 j (by omega)];exact UZ.o j hj,by rw[fw];omega,fun j hj=>by rw[du _ _ (by omega)];exact h2 j hj,?_,?_,?_,?_⟩
       .have:=h3.set i (.int .i64 (x.lo+k+1));rwa [vQ LW]at this
       .rw[kd,List.flatMap_append,<-List.append_assoc];simp only[List.flatMap_cons,List.flatMap_nil,List.append_nil];rw[<-HEq.o];exact hR.stay U3 (by simp[World.setCell]) (fun o ho=>Below.heap_setCell _ _ _ _ (fun(e:o=g2)=>wu (by rw[<-e];exact ho)))
       .exact fun o ho=>(He o ho).elim (Rp.out o) (fun h=>.inr (Nat.le_trans hsx h))
       .refine(Pz.o.trans PB fun o ho=>?_).trans' (aj.set w2 (by simp) _);rcases List.mem_cons.1 ho with rfl|ho
        .exact .inl (by simp)
        .exact(Rp.out o ho).imp (List.mem_cons_of_mem _) id
      .cases h
     obtain⟨t3,O3,r1,r2,r3,r4,r5,r6,r7⟩:=Xr.o;have c6:=r4.cell i (fD LW t3);rw[r2]at c6;have c7:=Bt.o.cell i (fD LW t');rw[Rn.o]at c7
     have wD:Hid ((∀j,j<i->t3 j=t j)/\t3 i=x.lo+((k+1:Nat):Int)/\(∀j,b.parts.length<=j->t3 j=0)/\aJ (w2.setCell ⟨g2,i,none⟩ (.int .i64 (x.lo+k+1))) g2 111 (tick t3)/\
      J (ms++(span x.lo (k+1)).flatMap fun q=>bU ag b.parts n (i+1) (upd t i q)) O3 (w2.setCell ⟨g2,i,none⟩ (.int .i64 (x.lo+k+1)))/\(∀o∈O3,o∈O\/WL.heap.size<=o)/\aj (g2::O) WL (w2.setCell ⟨g2,i,none⟩ (.int .i64 (x.lo+k+1)))):=⟨r1,r2,r3,r4,r5,r6,r7⟩
     clear r1 r2 r3 r4 r5 r6 r7 Xr;go_round
     case rel=>exact⟨k+1,t3,O3,by omega,wD⟩
     case measure=>
      rw[c6,c7];simp[intOf];omega
    .go_ret;refine .inr ⟨rfl,Hh x.lo (fun q=>bU ag b.parts n (i+1) (upd t i q)) ap (by rw[<-HEq.o];exact PA.o.1),PA.o.2.1,?_⟩;refine((MT.o.mono (O':=g2::O) (by simp)).trans' (Pz.o.trans PA.o.2.2 fun o ho=>?_));rcases List.mem_cons.1 ho with rfl|ho
     .exact .inl (by simp)
     .exact(Rp.out o ho).imp (List.mem_cons_of_mem _) id
   .have e:k=(x.hi+1-x.lo).toNat:=by omega
    subst e;have uu:¬x.lo+(((x.hi+1-x.lo).toNat:Nat):Int)<=x.hi:=by omega
    go_wp2
    refine aV (by kernel_rfl) (by kernel_rfl) ?_;repeat(go_big_quiet_step (fail))
    refine wpQuiet_nil ?_;rintro _ ⟨X,rfl⟩;have zO:Hid (aJ X.1 g2 111 (tick t')):=(aj.of (O:=[]) X.2).box Bt.o (by simp);have U2:Hid (J (ms++(span x.lo (x.hi+1-x.lo).toNat).flatMap fun q=>bU ag b.parts n (i+1) (upd t i q)) O' X.1):=hR.stay Ro.o X.2.size (fun k hk=>X.2.block k (hR.own Ro.o k hk).2.1);have Pz:Hid (aj (g2::O) W X.1):=(MT.o.mono (O':=g2::O) (by simp)).trans' (Xq.o.trans' (.of X.2));clear q2 q4 qt;go_wp2
    go_ret;exact .inl ⟨rfl,t',UZ.o,U0.o,zO.o,O',(fun o ho=>(Rp.out o ho).imp id (fun h=>Nat.le_trans MT.o.size h)),U2.o,Pz.o⟩
theorem Bu
 (hb:ar W0 (.agg #[.int .i64 b.am,.int .i64 b.places,.slice a2 b.parts.length c2,v3,v4]) b) (hv:Valid b)
 (lA:∀X t,Below W0.heap.size W0 X->Calls ZP 114 #[.agg #[.int .i64 b.am,.int .i64 b.places,.slice a2 b.parts.length c2,v3,v4],.agg (tick t)] X (eX X (.bool (ag t))))
 (hR:tB W0 l K J Jx) (hold:Below W0.heap.size W0 W) (hJ:J [] O W) (hlen:(bU ag b.parts b.parts.length 0 (fun _=>0)).length<=K):
 Calls ZP 96 #[.agg #[.int .i64 b.am,.int .i64 b.places,.slice a2 b.parts.length c2,v3,v4],.func (.yield l) #[] #[]] W (Eb J Jx (bU ag b.parts b.parts.length 0 (fun _=>0)) O W):=by
 obtain⟨A0,PC⟩:=ex1 (W.alloc (.cells #[.int .i64 b.am,.int .i64 b.places,.slice a2 b.parts.length c2,v3,v4] 79));obtain⟨A1,dv⟩:=ex1 (A0.alloc (.cells #[.func (.yield l) #[] #[]] 153));obtain⟨A2,eB⟩:=ex1 (A1.alloc (.cells #[.int .i64 0,.int .i64 0,.int .i64 0,.int .i64 0,.int .i64 0] 111));obtain⟨A3,pE⟩:=ex1 (A2.alloc (.cells #[.nilFunc] 80));have PD:=snew PC;have jj:=snew2 dv PD;have nk:=snew2 eB jj;have IB:=snew2 pE nk
 have b1:aJ A3 W.heap.size 79 #[.int .i64 b.am,.int .i64 b.places,.slice a2 b.parts.length c2,v3,v4]:=by
  rw[<-pE];refine(aj.alloc [] _ _).box ?_ (by simp);rw[<-eB];refine(aj.alloc [] _ _).box ?_ (by simp);rw[<-dv];refine(aj.alloc [] _ _).box ?_ (by simp);rw[<-PC];exact aJ.new _ _ _
 have b2:aJ A3 (W.heap.size+1) 153 #[.func (.yield l) #[] #[]]:=by
  rw[<-pE];refine(aj.alloc [] _ _).box ?_ (by simp);rw[<-eB];refine(aj.alloc [] _ _).box ?_ (by simp);rw[<-dv,<-PD];exact aJ.new _ _ _
 have b3:aJ A3 (W.heap.size+1+1) 111 (tick fun _=>0):=by
  rw[<-pE];refine(aj.alloc [] _ _).box ?_ (by simp);rw[<-eB,<-jj];exact aJ.new _ _ _
 have b5:=(bnew2 pE nk).o;have j7:aj [] W A3:=by rw[<-pE,<-eB,<-dv,<-PC];exact(((aj.alloc _ _ _).lj _).lj _).lj _
 obtain⟨F,hF⟩:∃F:Value,.func (.func 113) #[] #[ptr W.heap.size,ptr (W.heap.size+1+1),ptr (W.heap.size+1),ptr (W.heap.size+1+1+1)]=F:=⟨_,rfl⟩
 obtain⟨A4,Cb⟩:=ex1 (A3.setCell ⟨W.heap.size+1+1+1,0,none⟩ F);have ol:aj [W.heap.size+1+1+1] A3 A4:=by rw[<-Cb];exact aj.set A3 (by simp) _
 have U4:aJ A4 (W.heap.size+1+1+1) 80 #[F]:=by rw[<-Cb];exact b5.set 0 F
 have hO:∀k∈O,W0.heap.size<=k/\k<W.heap.size/\k∉([]:List Nat):=fun k hk=>hR.own hJ k hk;have hk:aj [] W A4:=j7.trans ol (by simp;omega);have cq:=hold.size
 have hI:qp W0 A4 b (.slice a2 b.parts.length c2) v3 v4 (.func (.yield l) #[] #[]) W.heap.size (W.heap.size+1+1) (W.heap.size+1) (W.heap.size+1+1+1) O:=by
  refine⟨ol.box b1 (by simp;omega),ol.box b2 (by simp),by rw[hF];exact U4,?_,?_,?_,?_,by omega,by omega,by omega,by omega,hold.trans (hk.below (by simp) cq),fun k hx=>(hO k hx).1⟩;all_goals(intro hx;have:=(hO _ hx).2.1;omega)
 have Xs:J [] O A4:=hR.stay hJ hk.size (fun k hx=>hk.block k (hO k hx).2.1 (by simp));have hC:=Bs hb hv lA hR b.parts.length 0 (by omega) (fun _=>0) [] O A4 (fun _ _=>rfl) hI (ol.box b3 (by simp)) Xs (by simpa using hlen);have c5:=b5.c1;have f5:A3.frozen? ⟨W.heap.size+1+1+1,0,none⟩=false:=b5.cr 0;have c6:=U4.c1;have HK:=hid hk;rw[<-hF]at c6;clear hlen hI Xs hb hv hR hold hJ b1 b2 b3 b5 U4 j7 ol hk cq hO lA;subst hF;have bF:∀(a:Addr) (f:Fn) (x y:Array Value) (w:World),(store a (.func f x y) .plain).run ZP w=stored ZP w a (.func f x y) .plain:=fun a f x y w=>run_store ZP w a _ _ rfl;go_enter ZF96,Tryz.ntmps96
 go_wp2_with(go_at_call 113;refine hC.mono ?_;rintro e w1 (⟨rfl,t2,h1,h2,hB,O2,He,U3,PB⟩|⟨rfl,hL5,Jy,PB⟩))
 .go_end0
  refine⟨⟨_,rfl⟩,.inl ⟨O2,(fun k hk=>(He k hk).imp id (fun h=>Nat.le_trans HK.o.size h)),by simpa using U3,(HK.o.mono (O':=O) (by simp)).trans PB fun x hx=>?_⟩⟩;rcases List.mem_cons.1 hx with rfl|hx
  .exact .inr (by omega)
  .exact .inl hx
 .go_end0
  refine⟨⟨_,rfl⟩,.inr ⟨hL5,Jy,(HK.o.mono (O':=O) (by simp)).trans PB fun x hx=>?_⟩⟩;rcases List.mem_cons.1 hx with rfl|hx
  .exact .inr (by omega)
  .exact .inl hx
end Go.Proofs.Cz
