/- A part. Conditions: none. -/
import Derived.Test.YtddlcmejelobdaaGreatDoorT31
import Derived.WalkMore
set_option linter.all false
set_option maxHeartbeats 8000000
set_option maxRecDepth 100000
namespace Go.Proofs.Cz
open Go.RowKit
variable {A W W0 w w':nq} {B K T c2 g g1 g2 g3 g4 i k l n p:Nat} {J:List (Nat->Int)->List Nat->nq->Prop} {Jx:nq->Prop} {O:List Nat} {a2:Option Addr} {ag:(Nat->Int)->Bool} {b:aj} {cs:Array fu} {t:a00} {v3 v4:fu} {α:Type}
def iq {B':Nat} {e:a00} {s:Nat} {v:fu} {xs:List fu} (h:w.ownsRow B e s v n xs) (hB:B'<=B):w.ownsRow B' e s v n xs:=by
 obtain⟨h1,h|⟨g,cap,cur,rfl,hg,r⟩⟩:=h
 .exact⟨h1,.inl h⟩
 .exact⟨h1,.inr ⟨g,cap,cur,rfl,by omega,r⟩⟩
def aL.below (h:aL A g t cs) (k:Below B A w') (hg:g<B):aL w' g t cs:=(k.block g hg).trans h
def hidb (h:Hid (aL A g t cs)) (k:Below A.heap.size A w'):Hid (aL w' g t cs):=h.out.below k h.out.lt
def kG {P:Nat} (h:aL w P t cs):∀j u,cs.toList[j]?=some u->w.cell? ((⟨P,0,none⟩:Addr).add j)=some u:=λj u hu=>by
 have F6:(⟨P,0,none⟩:Addr).add j=⟨P,j,none⟩:=by unfold Addr.add;split<;>simp_all
 rw[F6];exact h.cell j (by simpa using hu)
def zb {p x:Int} {l:List Part}:∀{k:Nat},x∈fF p l k↔∃i:Nat,i<k/\x=i/\∃y,l[i]?=some y/\p∈y.fits
 |0=>by simp[fF]
 |k+1=>by
  rw[fF,zCD,zb];constructor
  .rintro(⟨i,hi,h⟩|h)
   .exact⟨i,by omega,h⟩
   .cases hk:l[k]? with
    |none=>simp[hk]at h
    |some y=>
     simp only[hk]at h;split at h
     .simp at h;exact⟨k,by omega,h,y,hk,by assumption⟩
     .simp at h
  .rintro⟨i,hi,rfl,y,hy,hp⟩;by_cases e:i=k
   .subst e;right;simp[hy,hp]
   .exact .inl ⟨i,by omega,rfl,y,hy,hp⟩
def tick (t:Nat->Int):Array fu:=#[.int .i64 (t 0),.int .i64 (t 1),.int .i64 (t 2),.int .i64 (t 3),.int .i64 (t 4)]
def eh (hp:p<5) (t:Nat->Int):(tick t)[p]?=some (.int .i64 (t p)):=by
 match p,hp with
 |0,_=>rfl
 |1,_=>rfl
 |2,_=>rfl
 |3,_=>rfl
 |4,_=>rfl
def br (m t:Nat->Int):Nat->Int
 |0=>0
 |k+1=>br m t k+t (m k).toNat
def oM {m t:Nat->Int} (ht:∀i,0<=t i/\t i<=20):∀k,0<=br m t k/\br m t k<=20*k
 |0=>by simp[br]
 |k+1=>by
  have h1:=oM (m:=m) ht k;have h2:=ht (m k).toNat;unfold br;omega
def DO (w:nq) (v2 v3 v4:fu) (b:aj) (N:Nat) (hN:b.aq=N) (nU:N<=4) (m t:Nat->Int) (hm:∀i,i<N->0<=m i/\m i<5) (ht:∀i,0<=t i/\t i<=20):
 Calls ZP 117 #[.agg #[.int .i64 b.aB,.int .i64 b.aq,v2,v3,v4],.agg (bZ m),.agg (tick t)] w (cg w (.int .i64 (br m t N))):=by
 rw[hN];obtain⟨A1,aZ⟩:=ex1 (w.alloc (.cells #[.int .i64 b.aB,.int .i64 N,v2,v3,v4] 78));obtain⟨A2,cL⟩:=ex1 (A1.alloc (.cells (bZ m) 94));obtain⟨A3,jr⟩:=ex1 (A2.alloc (.cells (tick t) 130));have gE:=snew aZ;have ng:=snew2 cL gE
 have b1:aL A3 w.heap.size 78 #[.int .i64 b.aB,.int .i64 N,v2,v3,v4]:=by
  rw[<-jr];refine(ab.alloc [] _ _).box ?_ (by simp);rw[<-cL];refine(ab.alloc [] _ _).box ?_ (by simp);rw[<-aZ];exact aL.new _ _ _
 have B2:Hid (aL A3 (w.heap.size+1) 94 (bZ m)):=by
  rw[<-jr];refine(ab.alloc [] _ _).box ?_ (by simp);rw[<-cL,<-gE];exact aL.new _ _ _
 have B3:=bnew2 jr ng;have HW:=wnew3 aZ cL jr;obtain⟨-,z1⟩:=b1.c2;simp only[bZ,tick]at cL jr⊢;go_enter ZF117,Tryz.ntmps117
 go_wp2
 go_loop [12,8,7] (λi _ s=>∃k:Nat,k<=N/\i=.int .i64 k/\s=.int .i64 (br m t k)) (λi _ _=>N-(intOf i).toNat)
 case atStart=>exact⟨0,zAJ _,rfl,rfl⟩
 case round=>
  obtain⟨k,hk,rfl,rfl⟩:=hrel;by_cases au:k<N
  .have qv:k<4:=by omega
   have c2:=B2.o.cell k (gt qv _);obtain⟨j,hj⟩:∃j:Nat,m k=(j:Int):=⟨(m k).toNat,by have:=(hm k au).1;omega⟩
   have PG:j<5:=by have:=(hm k au).2;omega
   rw[hj]at c2;have c3:=B3.o.cell j (eh PG _);have hb:=oM (m:=m) ht k;have ib:=ht j;have HS:Hid (br m t (k+1)=br m t k+t j):=by show br m t k+t (m k).toNat=_;rw[hj];simp
   go_wp2
   go_round
   case rel=>exact⟨k+1,by omega,by go_num,by rw[HS.o]⟩
   case measure=>simp[intOf];omega
  .have e:k=N:=by omega
   subst e;go_wp2
   go_ret;exact⟨rfl,HW.o⟩
attribute [local go_sem] Oper.semAt_some
def span (lo:Int):Nat->List Int
 |0=>[]
 |n+1=>lo::span (lo+1) n
def eY (ag:(Nat->Int)->Bool) (l:List Part):Nat->Nat->(Nat->Int)->List (Nat->Int)
 |0,_,t=>if ag t then [t]else []
 |n+1,i,t=>match l[i]? with
  |some x=>(span x.lo (x.hi+1-x.lo).toNat).flatMap λk=>eY ag l n (i+1) (upd t i k)
  |none=>[]
structure KL (W0 W:nq) (b:aj) (v2 v3 v4 y:fu) (g1 g2 g3 g4:Nat) (O:List Nat):Prop where
 b1:aL W g1 78 #[.int .i64 b.aB,.int .i64 b.aq,v2,v3,v4]
 b3:aL W g3 165 #[y]
 b4:aL W g4 121 #[.func (.func 134) #[] #[ptr g1,ptr g2,ptr g3,ptr g4]]
 n1:g1∉O
 n2:g2∉O
 n3:g3∉O
 n4:g4∉O
 d1:g1≠g2
 d3:g3≠g2
 d4:g4≠g2
 ge:W0.heap.size<=g2
 old:Below W0.heap.size W0 W
 geO:∀k∈O,W0.heap.size<=k
def KL.on {W':nq} {v2 y:fu} {O':List Nat} (h:KL W0 W b v2 v3 v4 y g1 g2 g3 g4 O) (h2:g2<W.heap.size)
 (hk:ab (g2::O) W W') (hO:∀k∈O',k∈O\/W.heap.size<=k):KL W0 W' b v2 v3 v4 y g1 g2 g3 g4 O':=by
 have l1:=h.b1.lt;have l3:=h.b3.lt;have l4:=h.b4.lt
 have hW:=h.old.size
 refine⟨hk.box h.b1 (by simp[h.d1,h.n1]),hk.box h.b3 (by simp[h.d3,h.n3]),hk.box h.b4 (by simp[h.d4,h.n4]),?_,?_,?_,?_,h.d1,h.d3,h.d4,h.ge,
  h.old.trans (hk.below (λk hx=>by rcases zAQ.1 hx with rfl|hx;exact h.ge;exact h.geO k hx) hW),λk hx=>(hO k hx).elim (h.geO k) (λhx=>by omega)⟩
 .intro hx;exact(hO _ hx).elim h.n1 (λhx=>by omega)
 .intro hx;exact(hO _ hx).elim h.n2 (λhx=>by omega)
 .intro hx;exact(hO _ hx).elim h.n3 (λhx=>by omega)
 .intro hx;exact(hO _ hx).elim h.n4 (λhx=>by omega)
def wA (J:List (Nat->Int)->List Nat->nq->Prop) (Jx:nq->Prop) (g2 P i:Nat) (L:List (Nat->Int)) (t:Nat->Int) (ms:List (Nat->Int)) (O:List Nat) (W:nq) (e:Ending) (W':nq):Prop:=
 (e=.returned (.bool true)/\∃t',(∀j,j<i->t' j=t j)/\(∀j,P<=j->t' j=0)/\aL W' g2 130 (tick t')/\∃O',(∀k∈O',k∈O\/W.heap.size<=k)/\J (ms++L) O' W'/\ab (g2::O) W W')\/
 (e=.returned (.bool false)/\L≠ []/\Jx W'/\ab (g2::O) W W')
abbrev AY (W0:nq) (l K:Nat) (J:List (Nat->Int)->List Nat->nq->Prop) (Jx:nq->Prop):Prop:=
 GE ZP W0.heap.size [] l (λt=>.agg (tick t)) K J Jx
def GJ {t:Nat->Int} {ms:List (Nat->Int)}
 (hi:i=b.ptz.length) (hz:∀j,b.ptz.length<=j->t j=0)
 (nL:∀X,Below W0.heap.size W0 X->Calls ZP 135 #[.agg #[.int .i64 b.aB,.int .i64 b.aq,.slice a2 b.ptz.length c2,v3,v4],.agg (tick t)] X (cg X (.bool (ag t))))
 (hR:AY W0 l K J Jx) (hI:KL W0 W b (.slice a2 b.ptz.length c2) v3 v4 (.func (.yield l) #[] #[]) g1 g2 g3 g4 O) (h2:aL W g2 130 (tick t)) (hJ:J ms O W) (hlen:ms.length+(if ag t then 1 else 0)<=K):
 Calls ZP 134 #[.int .i64 i,ptr g1,ptr g2,ptr g3,ptr g4] W (wA J Jx g2 b.ptz.length i (if ag t then [t]else []) t ms O W):=by
 obtain⟨y0,y1,y2,y3,y4⟩:=hI.b1.c5;obtain⟨x0,x1,x2,x3,x4⟩:=h2.c5;have HI:=hid hI;have H2:=hid h2;have HZ:=hid hz;have hC:=nL W hI.old;subst hi;cases he:ag t with
 |false=>
  rw[he]at hC;simp only[tick]at hC;go_enter ZF134,Tryz.ntmps134
  go_wp2_with(go_at_call 135
              refine hC.mono ?_;rintro e w1 ⟨rfl,bJ⟩;have HB:=hid bJ;skip)
  go_ret;exact .inl ⟨rfl,t,λ_ _=>rfl,HZ.o,(ab.of (O:=[]) HB.o).box H2.o (by simp),O,λ_ h=>.inl h,by simpa using hR.stay hJ HB.o.size (λk hk=>HB.o.block k (hR.own hJ k hk).2.1),.of HB.o⟩
 |true=>
  rw[he]at hC;simp only[tick]at hC;have HL:Hid (ms.length<K):=(by simp[he]at hlen;exact(by omega:ms.length<K))
  have HJ:=hid hJ;refine(callsIn_wide (n:=0)).1 ?_;refine callsIn_of_wp ZF134 rfl trivial ?_
  simp only[Tryz.ntmps134,zFQ,zBV,zCL,Nat.reduceAdd,Nat.reduceSub,zFE,
   zFF,zFR,zFK,zEG,zEP]
  gi_wp2_with(refine⟨trivial,rfl,?_⟩
              gi_at_call 135
              refine(callsIn_wide.2 hC).mono ?_;rintro e w1 ⟨rfl,bJ⟩;have HB:=hid bJ;have HJ1:=hid (hR.stay HJ.o bJ.size (λk hk=>bJ.block k (hR.own HJ.o k hk).2.1));have HI1:=hid (HI.o.on H2.o.lt (.of bJ) (λ_ h=>.inl h));have H21:=hid ((ab.of (O:=[]) bJ).box H2.o (by simp));obtain⟨fn,tmps,assign,body,hy,hr⟩:=hR.yield ms t O w1 HJ1.o HL.o;simp only[tick]at hy;have q0:=HI1.o.b3.c1;obtain⟨x0,x1,x2,x3,x4⟩:=H21.o.c5;skip)
  refine⟨rfl,hr.mono ?_⟩;rintro e W' (⟨rfl,O',RW,hJ',hk⟩|⟨rfl,hx,hk⟩)
  .gi_wp2
   go_ret;refine .inl ⟨rfl,t,λ_ _=>rfl,HZ.o,hk.box H21.o HI1.o.n2,O',(λk h=>(RW k h).imp id (λh=>zAM HB.o.size h)),by simpa using hJ',((ab.of (O:=O) HB.o).trans' hk).mono λx hx=>.inl (zAS _ hx)⟩
  .gi_wp2
   go_ret;exact .inr ⟨rfl,(by simp),hx,((ab.of (O:=O) HB.o).trans' hk).mono λx hx=>.inl (zAS _ hx)⟩
def oN {l:List Part} {t:Nat->Int} {x:Part} (hx:l[i]?=some x):
 eY ag l (n+1) i t=(span x.lo (x.hi+1-x.lo).toNat).flatMap λk=>eY ag l n (i+1) (upd t i k):=by rw[eY,hx]
def zc {ag:(Nat->Int)->Bool} {l:List Part}:∀(n i:Nat) (t t':Nat->Int),i+n=l.length->(∀j,j<i->t' j=t j)->(∀j,l.length<=j->t j=0)->(∀j,l.length<=j->t' j=0)->
 eY ag l n i t'=eY ag l n i t
 |0,i,t,t',hn,h1,h2,h3=>by
  have:t'=t:=by
   funext j;by_cases hj:j<i
   .exact h1 j hj
   .rw[h2 j (by omega),h3 j (by omega)]
  rw[this]
 |n+1,i,t,t',hn,h1,h2,h3=>by
  have hx:l[i]?=some l[i]:=zAI (by omega);rw[oN hx,oN hx];congr 1;funext k;refine zc n (i+1) _ _ (by omega) (λj hj=>?_) (λj hj=>?_) (λj hj=>?_)
  .by_cases e:j=i
   .subst e;rw[cw,cw]
   .rw[aC _ _ e,aC _ _ e];exact h1 j (by omega)
  .rw[aC _ _ (by omega)];exact h2 j hj
  .rw[aC _ _ (by omega)];exact h3 j hj
def lE (lo:Int):∀n:Nat,span lo (n+1)=span lo n++[lo+n]
 |0=>by simp[span]
 |n+1=>by
  have:=lE (lo+1) n;show lo::span (lo+1) (n+1)=_;rw[this];show _=lo::(span (lo+1) n)++_;rw[zEP];congr 3;push_cast
  omega
def rA (hp:p<5) (t:Nat->Int) (k:Int):(tick t).setIfInBounds p (.int .i64 k)=tick (upd t p k):=by
 match p,hp with
 |0,_=>simp[tick,upd]
 |1,_=>simp[tick,upd]
 |2,_=>simp[tick,upd]
 |3,_=>simp[tick,upd]
 |4,_=>simp[tick,upd]
def zd (lo:Int) (k:Nat):∀d:Nat,∃r,span lo (k+d)=span lo k++r
 |0=>⟨[],by simp⟩
 |d+1=>by
  obtain⟨r,h⟩:=zd lo k d;exact⟨r++[lo+(k+d:Nat)],by rw[<-zBD,lE,h,zCZ]⟩
def ze (lo:Int) (f:Int->List α) (h:k<T):((span lo k).flatMap f).length+(f (lo+k)).length<=((span lo T).flatMap f).length:=by
 obtain⟨r,e⟩:=zd lo (k+1) (T-(k+1));rw[show k+1+(T-(k+1))=T by omega]at e;rw[e,zDQ,zAV,lE,zDQ,zAV];simp
def R6 (lo:Int) (f:Int->List α) (h:k<T) (hf:f (lo+k)≠ []):(span lo T).flatMap f≠ []:=λe=>by
 have h1:=ze lo f h;rw[e,zCL]at h1;have:=zCY.2 hf;omega
def KM
 (hb:az W0 (.agg #[.int .i64 b.aB,.int .i64 b.aq,.slice a2 b.ptz.length c2,v3,v4]) b) (hv:Valid b)
 (nL:∀X t,Below W0.heap.size W0 X->Calls ZP 135 #[.agg #[.int .i64 b.aB,.int .i64 b.aq,.slice a2 b.ptz.length c2,v3,v4],.agg (tick t)] X (cg X (.bool (ag t))))
 (hR:AY W0 l K J Jx):
 ∀(n i:Nat),i+n=b.ptz.length->∀(t:Nat->Int) (ms:List (Nat->Int)) (O:List Nat) (W:nq),(∀j,b.ptz.length<=j->t j=0)->
  KL W0 W b (.slice a2 b.ptz.length c2) v3 v4 (.func (.yield l) #[] #[]) g1 g2 g3 g4 O->aL W g2 130 (tick t)->J ms O W->ms.length+(eY ag b.ptz n i t).length<=K->
  Calls ZP 134 #[.int .i64 i,ptr g1,ptr g2,ptr g3,ptr g4] W (wA J Jx g2 b.ptz.length i (eY ag b.ptz n i t) t ms O W):=by
 intro n;induction n with
 |zero=>exact λi hi t ms O W hz hI h2 hJ hlen=>GJ (by omega) hz (λX hX=>nL X t hX) hR hI h2 hJ (by
   simp only[eY]at hlen;cases he:ag t<;>simp[he]at hlen⊢<;>omega)
 |succ n ih=>
  intro i hi t ms O W hz hI h2 hJ hlen;have hm:=hv.ptz.many;have Xr:i<5:=by omega
  have hil:i<b.ptz.length:=by omega
  obtain⟨v2',_,_,BF,⟨Ym,c2',hS,hE⟩,_,_⟩:=hb;obtain⟨⟨blk,off,sp⟩,x,hax,hx,x0,x1,x2,x3,x4,vf,x5,x6⟩:=hS.elem hE hil;obtain rfl:sp=none:=x0.1;have he:=hS.eq;simp only[Value.agg.injEq,zDC,zCQ,zCS,zER]at BF;obtain⟨rfl,rfl,rfl⟩:=BF;simp only[Value.slice.injEq,zCS]at he;obtain⟨rfl,rfl⟩:=he;subst hax;have HX:=hid hx;have hpo:=(hv.ptz.all i x hil hx).1;have tB:=hpo.time;have X3:=hid x3;have X4:=hid x4;have HI:=hid hI;have H2:=hid h2;obtain⟨-,-,y2⟩:=hI.b1.c3;have y3:=(x3.later (Kp.of hI.old)).2;simp only[<-zBD]at y3;have z0:=h2.cell i (eh Xr t);have f0:=h2.aH i;have bu:¬(i:Int)=(b.ptz.length:Int):=by omega
  have hii:(i:Int)<(b.ptz.length:Int):=by omega
  have Q9:((i:Int)==(b.ptz.length:Int))=false:=by simp;omega
  rw[oN hx]at hlen⊢;have zg6:=hid hlen;have HJ:=hid hJ;have HZ:=hid hz;have IH:=ih;have LO:Hid (b.ptz.length<=c2/\c2<=maxLen):=⟨hS.le,hS.IU⟩
  go_enter ZF134,Tryz.ntmps134
  go_wp2
  obtain⟨WL,hWL⟩:=ex1 (W.setCell ⟨g2,i,none⟩ (.int .i64 x.lo));rw[hWL];have zf:Hid (ab [g2] W WL):=by rw[<-hWL];exact ab.set W (by simp) _
  have YQ:Hid (aL WL g2 130 (tick (upd t i x.lo))):=by have:=H2.o.set i (.int .i64 x.lo);rwa [rA Xr,hWL]at this
  have HIL:=hid (HI.o.on H2.o.lt (zf.o.mono (by simp)) (λ_ h=>.inl h));have HJL:=hid (hR.stay HJ.o zf.o.size (λk hk=>zf.o.block k (hR.own HJ.o k hk).2.1 (λh=>HI.o.n2 (by simp at h;rw[<-h];exact hk))))
  go_loopw [32] (λ_ wr=>∃(k:Nat) (t':Nat->Int) (O':List Nat),k<=(x.hi+1-x.lo).toNat/\Hid ((∀j,j<i->t' j=t j)/\t' i=x.lo+k/\(∀j,b.ptz.length<=j->t' j=0)/\aL wr g2 130 (tick t')/\
   J (ms++(span x.lo k).flatMap λq=>eY ag b.ptz n (i+1) (upd t i q)) O' wr/\(∀o∈O',o∈O\/WL.heap.size<=o)/\ab (g2::O) WL wr)) (λ_ wr=>(x.hi+1-intOf ((wr.cell? ⟨g2,i,none⟩).getD undef)).toNat)
  case atStart=>
   exact⟨0,upd t i x.lo,O,zAJ _,(⟨λj hj=>aC _ _ (by omega),by rw[cw];simp,λj hj=>by rw[aC _ _ (by omega)];exact HZ.o j hj,YQ.o,by simpa [span]using HJL.o,λ_ h=>.inl h,ab.refl _ _⟩:_/\_/\_/\_/\_/\_/\_)⟩
  case round=>
   obtain⟨k,t',O',hk,hS⟩:=hrel;obtain⟨e1,e2,e3,e4,e5,e6,e7⟩:=hS.o;have HIr:=hid (HIL.o.on YQ.o.lt e7 e6);have wB:=hid e4;have HE1:=hid e1;have HE2:=hid e2;have Xs:=hid e3;have HJr:=hid e5;have GH:=hid e6;have HKr:=hid e7;obtain⟨-,-,q2⟩:=HIr.o.b1.a3
   have q4:∀X:ak wr,X.1.cell? ⟨blk,off+i*6+4,none⟩=some (.int .i64 x.hi):=λX=>X.cell (by
    have:=(X4.o.later (Kp.of HIr.o.old)).2;simpa only[<-zBD]using this)
   have qt:∀X:ak wr,X.1.cell? ⟨g2,i,none⟩=some (.int .i64 (x.lo+k)):=λX=>X.cell (by
    have:=wB.o.cell i (eh Xr t');rwa [HE2.o]at this)
   have znY:(i:Int)<5:=by omega
   by_cases au:k<(x.hi+1-x.lo).toNat
   .have hle:x.lo+(k:Int)<=x.hi:=by omega
    go_wp2
    refine ae (by kernel_rfl) (by kernel_rfl) ?_;repeat(go_big_quiet_step (fail))
    refine wpQuiet_nil ?_;rintro _ ⟨X,rfl⟩;have HIx:=hid (HIr.o.on wB.o.lt (.of X.2) (λ_ h=>.inl h));have R7:=hid ((ab.of (O:=[]) X.2).box wB.o (by simp));have HJx:=hid (hR.stay HJr.o X.2.size (λk hk=>X.2.block k (hR.own HJr.o k hk).2.1));have HKx:=hid (HKr.o.trans' (.of X.2));have c5:=HIx.o.b4.c1
    have HEq:Hid (eY ag b.ptz n (i+1) t'=eY ag b.ptz n (i+1) (upd t i (x.lo+k))):=zc n (i+1) _ _ (by omega) (λj hj=>by
     by_cases e:j=i
     .subst e;rw[cw];exact HE2.o
     .rw[aC _ _ e];exact HE1.o j (by omega)) (λj hj=>by rw[aC _ _ (by omega)];exact HZ.o j hj) Xs.o
    have BU:=zg6.o
    have hN:=IH (i+1) (by omega) t' (ms++(span x.lo k).flatMap λq=>eY ag b.ptz n (i+1) (upd t i q)) O' X.1 Xs.o HIx.o R7.o HJx.o (by
     have h1:=ze x.lo (λq=>eY ag b.ptz n (i+1) (upd t i q)) au;rw[HEq.o,zAV];omega)
    rw[show((i+1:Nat):Int)=(i:Int)+1 by omega]at hN
    have hN':Calls ZP 134 #[.int .i64 ((i:Int)+1),ptr g1,ptr g2,ptr g3,ptr g4] X.1 (λe w2=>(e=.returned (.bool true)/\w2.cell? ⟨g2,i,none⟩=some (.int .i64 (x.lo+k))/\w2.frozen? ⟨g2,i,none⟩=false/\
     Hid (wA J Jx g2 b.ptz.length (i+1) (eY ag b.ptz n (i+1) t') t' (ms++(span x.lo k).flatMap λq=>eY ag b.ptz n (i+1) (upd t i q)) O' X.1 (.returned (.bool true)) w2))\/
     (e=.returned (.bool false)/\Hid (eY ag b.ptz n (i+1) t'≠ []/\Jx w2/\ab (g2::O') X.1 w2))):=hN.mono λe w2 h=>by
     rcases h with⟨rfl,t2,h1,h2,h3,h4⟩|⟨rfl,h⟩
     .have hc:=h3.cell i (eh Xr t2);rw[h1 i (by omega),HE2.o]at hc;exact .inl ⟨rfl,hc,h3.aH i,.inl ⟨rfl,t2,h1,h2,h3,h4⟩⟩
     .exact .inr ⟨rfl,h⟩
    go_wp2_with(go_at_call 134;refine hN'.mono ?_;rintro e w2 (⟨rfl,k1,k2,hE5⟩|⟨rfl,hE5⟩))
    .have oL:Hid (∃(t3:Nat->Int) (O3:List Nat),(∀j,j<i->t3 j=t j)/\t3 i=x.lo+((k+1:Nat):Int)/\(∀j,b.ptz.length<=j->t3 j=0)/\aL (w2.setCell ⟨g2,i,none⟩ (.int .i64 (x.lo+k+1))) g2 130 (tick t3)/\
      J (ms++(span x.lo (k+1)).flatMap λq=>eY ag b.ptz n (i+1) (upd t i q)) O3 (w2.setCell ⟨g2,i,none⟩ (.int .i64 (x.lo+k+1)))/\(∀o∈O3,o∈O\/WL.heap.size<=o)/\ab (g2::O) WL (w2.setCell ⟨g2,i,none⟩ (.int .i64 (x.lo+k+1)))):=by
      rcases hE5.o with⟨_,t2,h1,h2,h3,O2,xp,Om,xU⟩|⟨h,_⟩
      .have hs:=R7.o.lt;have xh:g2∉O2:=λh=>(xp _ h).elim HIx.o.n2 (λh=>by omega);have hsx:=HKx.o.size;refine⟨upd t2 i (x.lo+k+1),O2,λj hj=>by rw[aC _ _ (by omega),h1 j (by omega)];exact HE1.o j hj,by rw[cw];omega,λj hj=>by rw[aC _ _ (by omega)];exact h2 j hj,?_,?_,?_,?_⟩
       .have:=h3.set i (.int .i64 (x.lo+k+1));rwa [rA Xr]at this
       .rw[lE,zDQ,<-zCZ];simp only[zDJ,zFZ,zCI];rw[<-HEq.o];exact hR.stay Om (by simp[World.setCell]) (λo ho=>Below.heap_setCell _ _ _ _ (λ(e:o=g2)=>xh (by rw[<-e];exact ho)))
       .exact λo ho=>(xp o ho).elim (GH.out o) (λh=>.inr (zAM hsx h))
       .refine(HKx.o.trans xU λo ho=>?_).trans' (ab.set w2 (by simp) _);rcases zAQ.1 ho with rfl|ho
        .exact .inl (by simp)
        .exact(GH.out o ho).imp (zAS _) id
      .cases h
     obtain⟨t3,O3,r1,r2,r3,r4,r5,r6,r7⟩:=oL.o;have c6:=r4.cell i (eh Xr t3);rw[r2]at c6;have c7:=wB.o.cell i (eh Xr t');rw[HE2.o]at c7
     have qf:Hid ((∀j,j<i->t3 j=t j)/\t3 i=x.lo+((k+1:Nat):Int)/\(∀j,b.ptz.length<=j->t3 j=0)/\aL (w2.setCell ⟨g2,i,none⟩ (.int .i64 (x.lo+k+1))) g2 130 (tick t3)/\
      J (ms++(span x.lo (k+1)).flatMap λq=>eY ag b.ptz n (i+1) (upd t i q)) O3 (w2.setCell ⟨g2,i,none⟩ (.int .i64 (x.lo+k+1)))/\(∀o∈O3,o∈O\/WL.heap.size<=o)/\ab (g2::O) WL (w2.setCell ⟨g2,i,none⟩ (.int .i64 (x.lo+k+1)))):=⟨r1,r2,r3,r4,r5,r6,r7⟩
     go_round
     case rel=>exact⟨k+1,t3,O3,by omega,qf⟩
     case measure=>
      rw[c6,c7];simp[intOf];omega
    .go_ret;refine .inr ⟨rfl,R6 x.lo (λq=>eY ag b.ptz n (i+1) (upd t i q)) au (by rw[<-HEq.o];exact hE5.o.1),hE5.o.2.1,?_⟩;refine((zf.o.mono (O':=g2::O) (by simp)).trans' (HKx.o.trans hE5.o.2.2 λo ho=>?_));rcases zAQ.1 ho with rfl|ho
     .exact .inl (by simp)
     .exact(GH.out o ho).imp (zAS _) id
   .have e:k=(x.hi+1-x.lo).toNat:=by omega
    subst e;have BE:¬x.lo+(((x.hi+1-x.lo).toNat:Nat):Int)<=x.hi:=by omega
    go_wp2
    refine ae (by kernel_rfl) (by kernel_rfl) ?_;repeat(go_big_quiet_step (fail))
    refine wpQuiet_nil ?_;rintro _ ⟨X,rfl⟩;have R7:=hid ((ab.of (O:=[]) X.2).box wB.o (by simp));have HJx:=hid (hR.stay HJr.o X.2.size (λk hk=>X.2.block k (hR.own HJr.o k hk).2.1));have HKx:=hid ((zf.o.mono (O':=g2::O) (by simp)).trans' (HKr.o.trans' (.of X.2)));go_wp2
    go_ret;exact .inl ⟨rfl,t',HE1.o,Xs.o,R7.o,O',(λo ho=>(GH.out o ho).imp id (λh=>zAM zf.o.size h)),HJx.o,HKx.o⟩
def KO
 (hb:az W0 (.agg #[.int .i64 b.aB,.int .i64 b.aq,.slice a2 b.ptz.length c2,v3,v4]) b) (hv:Valid b)
 (nL:∀X t,Below W0.heap.size W0 X->Calls ZP 135 #[.agg #[.int .i64 b.aB,.int .i64 b.aq,.slice a2 b.ptz.length c2,v3,v4],.agg (tick t)] X (cg X (.bool (ag t))))
 (hR:AY W0 l K J Jx) (hold:Below W0.heap.size W0 W) (hJ:J [] O W) (hlen:(eY ag b.ptz b.ptz.length 0 (λ_=>0)).length<=K):
 Calls ZP 110 #[.agg #[.int .i64 b.aB,.int .i64 b.aq,.slice a2 b.ptz.length c2,v3,v4],.func (.yield l) #[] #[]] W (GF J Jx (eY ag b.ptz b.ptz.length 0 (λ_=>0)) O W):=by
 obtain⟨A0,DP⟩:=ex1 (W.alloc (.cells #[.int .i64 b.aB,.int .i64 b.aq,.slice a2 b.ptz.length c2,v3,v4] 78));obtain⟨A1,aZ⟩:=ex1 (A0.alloc (.cells #[.func (.yield l) #[] #[]] 165));obtain⟨A2,cL⟩:=ex1 (A1.alloc (.cells #[.int .i64 0,.int .i64 0,.int .i64 0,.int .i64 0,.int .i64 0] 130));obtain⟨A3,jr⟩:=ex1 (A2.alloc (.cells #[.nilFunc] 121));have I4:=snew DP;have gE:=snew2 aZ I4;have ng:=snew2 cL gE;have If:=snew2 jr ng
 have b1:aL A3 W.heap.size 78 #[.int .i64 b.aB,.int .i64 b.aq,.slice a2 b.ptz.length c2,v3,v4]:=by
  rw[<-jr];refine(ab.alloc [] _ _).box ?_ (by simp);rw[<-cL];refine(ab.alloc [] _ _).box ?_ (by simp);rw[<-aZ];refine(ab.alloc [] _ _).box ?_ (by simp);rw[<-DP];exact aL.new _ _ _
 have b2:aL A3 (W.heap.size+1) 165 #[.func (.yield l) #[] #[]]:=by
  rw[<-jr];refine(ab.alloc [] _ _).box ?_ (by simp);rw[<-cL];refine(ab.alloc [] _ _).box ?_ (by simp);rw[<-aZ,<-I4];exact aL.new _ _ _
 have b3:aL A3 (W.heap.size+1+1) 130 (tick λ_=>0):=by
  rw[<-jr];refine(ab.alloc [] _ _).box ?_ (by simp);rw[<-cL,<-gE];exact aL.new _ _ _
 have b5:=(bnew2 jr ng).o;have lP:ab [] W A3:=by rw[<-jr,<-cL,<-aZ,<-DP];exact(((ab.alloc _ _ _).fG _).fG _).fG _
 obtain⟨F,hF⟩:∃F:fu,.func (.func 134) #[] #[ptr W.heap.size,ptr (W.heap.size+1+1),ptr (W.heap.size+1),ptr (W.heap.size+1+1+1)]=F:=⟨_,rfl⟩
 obtain⟨A4,xV⟩:=ex1 (A3.setCell ⟨W.heap.size+1+1+1,0,none⟩ F);have qv:ab [W.heap.size+1+1+1] A3 A4:=by rw[<-xV];exact ab.set A3 (by simp) _
 have b5':aL A4 (W.heap.size+1+1+1) 121 #[F]:=by rw[<-xV];exact b5.set 0 F
 have hO:∀k∈O,W0.heap.size<=k/\k<W.heap.size/\k∉([]:List Nat):=λk hk=>hR.own hJ k hk;have hk:=lP.trans qv (by simp;omega);have cB:=hold.size
 have hI:KL W0 A4 b (.slice a2 b.ptz.length c2) v3 v4 (.func (.yield l) #[] #[]) W.heap.size (W.heap.size+1+1) (W.heap.size+1) (W.heap.size+1+1+1) O:=by
  refine⟨qv.box b1 (by simp;omega),qv.box b2 (by simp),by rw[hF];exact b5',?_,?_,?_,?_,by omega,by omega,by omega,by omega,hold.trans (hk.below (by simp) cB),λk hx=>(hO k hx).1⟩;all_goals(intro hx;have:=(hO _ hx).2.1;omega)
 have hJ4:=hR.stay hJ hk.size (λk hx=>hk.block k (hO k hx).2.1 (by simp));have hC:=KM hb hv nL hR b.ptz.length 0 (by omega) (λ_=>0) [] O A4 (λ_ _=>rfl) hI (qv.box b3 (by simp)) hJ4 (by simpa using hlen);have c5:=b5.c1;have f5:=b5.aH 0;have c6:=b5'.c1;have HK:=hid hk;rw[<-hF]at c6;subst hF;have cD:∀(a:Addr) (f:Fn) (x y:Array fu) (w:nq),(store a (.func f x y) .plain).run ZP w=stored ZP w a (.func f x y) .plain:=λa f x y w=>run_store ZP w a _ _ rfl;go_enter ZF110,Tryz.ntmps110
 go_wp2_with(go_at_call 134;refine hC.mono ?_;rintro e w1 (⟨rfl,t2,h1,h2,hB,O2,xp,Om,xU⟩|⟨rfl,RY,RZ,xU⟩))
 .go_end0
  refine⟨⟨_,rfl⟩,.inl ⟨O2,(λk hk=>(xp k hk).imp id (λh=>zAM HK.o.size h)),by simpa using Om,(HK.o.mono (O':=O) (by simp)).trans xU λx hx=>?_⟩⟩;rcases zAQ.1 hx with rfl|hx
  .exact .inr (by omega)
  .exact .inl hx
 .go_end0
  refine⟨⟨_,rfl⟩,.inr ⟨RY,RZ,(HK.o.mono (O':=O) (by simp)).trans xU λx hx=>?_⟩⟩;rcases zAQ.1 hx with rfl|hx
  .exact .inr (by omega)
  .exact .inl hx
end Go.Proofs.Cz
