/- A part. Conditions: none. -/
import Derived.Test.YtehbindidbgacaaGreatDoorT29
import Derived.WalkMore
set_option linter.all false
set_option maxHeartbeats 8000000
set_option maxRecDepth 100000
namespace Go.Proofs.Cz
open Go.RowKit
end Go.Proofs.Cz
namespace Go.Proofs.Cz
end Go.Proofs.Cz
namespace Go.Proofs.Cz
open Go.RowKit
variable {A W W0 w w':World} {B K T c2 g g1 g2 g3 g4 i k l n p:Nat} {J:List (Nat->Int)->List Nat->World->Prop} {Jx:World->Prop} {O:List Nat} {a2:Option Addr} {ag:(Nat->Int)->Bool} {b:ap} {cs:Array Value} {t:TypeId} {v3 v4:Value} {α:Type}
def Qd (x:Part) (f:Value):List Value:=[.string x.name,.int .i64 x.cost,.int .i64 x.bY,.int .i64 x.lo,.int .i64 x.hi,f]
theorem dr {B':Nat} {e:TypeId} {s:Nat} {v:Value} {xs:List Value} (h:w.ownsRow B e s v n xs) (hB:B'<=B):w.ownsRow B' e s v n xs:=by
 obtain⟨h1,h|⟨g,cap,cur,rfl,hg,r⟩⟩:=h
 .exact⟨h1,.inl h⟩
 .exact⟨h1,.inr ⟨g,cap,cur,rfl,by omega,r⟩⟩
theorem aA.below (h:aA A g t cs) (k:Below B A w') (hg:g<B):aA w' g t cs:=(k.block g hg).trans h
theorem hidb (h:Hid (aA A g t cs)) (k:Below A.heap.size A w'):Hid (aA w' g t cs):=h.out.below k h.out.lt
theorem ju {P:Nat} (h:aA w P t cs):∀j u,cs.toList[j]?=some u->w.cell? ((⟨P,0,none⟩:Addr).add j)=some u:=λj u hu=>by
 have CN:(⟨P,0,none⟩:Addr).add j=⟨P,j,none⟩:=by unfold Addr.add;split<;>simp_all
 rw[CN];exact h.cell j (by simpa using hu)
theorem Tk:(ZP.info? 77).map (λi=>(i.zero,i.size,i.bytes))=some (some (.agg #[.string .empty,.int .i64 0,.int .i64 0,.int .i64 0,.int .i64 0,.slice none 0 0]),6,72):=by kernel_rfl
theorem yh:ZP.underlying 22=some (.slice 77):=by rw[Tz.under];exact Tryz.underlying22
theorem Dy {l:List Int} {n:Int} (hn:0<=n) (h:xO l n):(l.length:Int)<=n:=by
 have step:∀j (hj:j<l.length),(j:Int)<=l[j]:=by
  intro j;induction j with
  |zero=>exact λhj=>(h 0 _ hj (zAJ hj)).1
  |succ j ih=>
   intro hj;have h1:=ih (by omega);have h2:=(h (j+1) _ hj (zAJ hj)).2.2 (l[j]'(by omega)) (by omega) (zAJ (by omega));omega
 by_cases e:l.length=0
 .omega
 .have h1:=step (l.length-1) (by omega);have h2:=(h (l.length-1) _ (by omega) (zAJ (by omega))).2.1;omega
theorem vT {p x:Int} {l:List Part}:∀{k:Nat},x∈cM p l k↔∃i:Nat,i<k/\x=i/\∃y,l[i]?=some y/\p∈y.fits
 |0=>by simp[cM]
 |k+1=>by
  rw[cM,zDV,vT];constructor
  .rintro(⟨i,hi,h⟩|h)
   .exact⟨i,by omega,h⟩
   .cases hk:l[k]? with
    |none=>simp[hk]at h
    |some y=>
     simp only[hk]at h;split at h
     .simp at h;exact⟨k,by omega,h,y,hk,by assumption⟩
     .simp at h
  .rintro⟨i,hi,rfl,y,hy,hp⟩;by_cases e:i=k
   .subst e;right;simp[hy,hp]
   .exact .inl ⟨i,by omega,rfl,y,hy,hp⟩
def tick (t:Nat->Int):Array Value:=#[.int .i64 (t 0),.int .i64 (t 1),.int .i64 (t 2),.int .i64 (t 3),.int .i64 (t 4)]
theorem fV (hp:p<5) (t:Nat->Int):(tick t)[p]?=some (.int .i64 (t p)):=by
 match p,hp with
 |0,_=>rfl
 |1,_=>rfl
 |2,_=>rfl
 |3,_=>rfl
 |4,_=>rfl
def aI (m t:Nat->Int):Nat->Int
 |0=>0
 |k+1=>aI m t k+t (m k).toNat
theorem vU {m t:Nat->Int} (ht:∀i,0<=t i/\t i<=20):∀k,0<=aI m t k/\aI m t k<=20*k
 |0=>by simp[aI]
 |k+1=>by
  have h1:=vU (m:=m) ht k;have h2:=ht (m k).toNat;unfold aI;omega
theorem AI (w:World) (v2 v3 v4:Value) (b:ap) (N:Nat) (hN:b.places=N) (vV:N<=4) (m t:Nat->Int) (hm:∀i,i<N->0<=m i/\m i<5) (ht:∀i,0<=t i/\t i<=20):
 Calls ZP 96 #[.agg #[.int .i64 b.ac,.int .i64 b.places,v2,v3,v4],.agg (bP m),.agg (tick t)] w (di w (.int .i64 (aI m t N))):=by
 rw[hN];obtain⟨A1,aV⟩:=ex1 (w.alloc (.cells #[.int .i64 b.ac,.int .i64 N,v2,v3,v4] 84));obtain⟨A2,bc⟩:=ex1 (A1.alloc (.cells (bP m) 107));obtain⟨A3,eE⟩:=ex1 (A2.alloc (.cells (tick t) 99));have cS:=snew aV;have gV:=snew2 bc cS
 have b1:aA A3 w.heap.size 84 #[.int .i64 b.ac,.int .i64 N,v2,v3,v4]:=by
  rw[<-eE];refine(ab.alloc [] _ _).box ?_ (by simp);rw[<-bc];refine(ab.alloc [] _ _).box ?_ (by simp);rw[<-aV];exact aA.new _ _ _
 have B2:Hid (aA A3 (w.heap.size+1) 107 (bP m)):=by
  rw[<-eE];refine(ab.alloc [] _ _).box ?_ (by simp);rw[<-bc,<-cS];exact aA.new _ _ _
 have B3:=bnew2 eE gV;have HW:=wnew3 aV bc eE;obtain⟨-,z1⟩:=b1.c2;simp only[bP,tick]at bc eE⊢;clear b1 hN;go_enter ZF96,Tryz.ntmps96
 go_wp2
 clear aV bc eE cS gV;go_loop [12,8,7] (λi _ s=>∃k:Nat,k<=N/\i=.int .i64 k/\s=.int .i64 (aI m t k)) (λi _ _=>N-(intOf i).toNat)
 case atStart=>exact⟨0,zAR _,rfl,rfl⟩
 case round=>
  obtain⟨k,hk,rfl,rfl⟩:=hrel;by_cases az:k<N
  .have lN:k<4:=by omega
   have c2:A3.cell? ⟨w.heap.size+1,k,none⟩=some (.int .i64 (m k)):=B2.o.cell k (gR lN _);obtain⟨j,hj⟩:∃j:Nat,m k=(j:Int):=⟨(m k).toNat,by have:=(hm k az).1;omega⟩
   have hj5:j<5:=by have:=(hm k az).2;omega
   rw[hj]at c2;have c3:A3.cell? ⟨w.heap.size+1+1,j,none⟩=some (.int .i64 (t j)):=B3.o.cell j (fV hj5 _);have hb:=vU (m:=m) ht k;have fJ:=ht j;have HS:Hid (aI m t (k+1)=aI m t k+t j):=by show aI m t k+t (m k).toNat=_;rw[hj];simp
   go_wp2
   go_round
   case rel=>exact⟨k+1,by omega,by go_num,by rw[HS.o]⟩
   case measure=>simp[intOf];omega
  .have e:k=N:=by omega
   subst e;go_wp2
   go_ret;exact⟨rfl,HW.o⟩
attribute [local go_sem] Oper.semAt_some
def span (lo:Int):Nat->List Int
 |0=>[]
 |n+1=>lo::span (lo+1) n
def bQ (ag:(Nat->Int)->Bool) (l:List Part):Nat->Nat->(Nat->Int)->List (Nat->Int)
 |0,_,t=>if ag t then [t]else []
 |n+1,i,t=>match l[i]? with
  |some x=>(span x.lo (x.hi+1-x.lo).toNat).flatMap λk=>bQ ag l n (i+1) (upd t i k)
  |none=>[]
structure uN (W0 W:World) (b:ap) (v2 v3 v4 y:Value) (g1 g2 g3 g4:Nat) (O:List Nat):Prop where
 b1:aA W g1 84 #[.int .i64 b.ac,.int .i64 b.places,v2,v3,v4]
 b3:aA W g3 154 #[y]
 b4:aA W g4 91 #[.func (.func 107) #[] #[ptr g1,ptr g2,ptr g3,ptr g4]]
 n1:g1∉O
 n2:g2∉O
 n3:g3∉O
 n4:g4∉O
 d1:g1≠g2
 d3:g3≠g2
 d4:g4≠g2
 ge:W0.heap.size<=g2
 old:Below W0.heap.size W0 W
 XD:∀k∈O,W0.heap.size<=k
theorem uN.on {W':World} {v2 y:Value} {O':List Nat} (h:uN W0 W b v2 v3 v4 y g1 g2 g3 g4 O) (h2:g2<W.heap.size)
 (hk:ab (g2::O) W W') (hO:∀k∈O',k∈O\/W.heap.size<=k):uN W0 W' b v2 v3 v4 y g1 g2 g3 g4 O':=by
 have l1:=h.b1.lt;have l3:=h.b3.lt;have l4:=h.b4.lt
 have hW:=h.old.size
 refine⟨hk.box h.b1 (by simp[h.d1,h.n1]),hk.box h.b3 (by simp[h.d3,h.n3]),hk.box h.b4 (by simp[h.d4,h.n4]),?_,?_,?_,?_,h.d1,h.d3,h.d4,h.ge,
  h.old.trans (hk.below (λk hx=>by rcases zAS.1 hx with rfl|hx;exact h.ge;exact h.XD k hx) hW),λk hx=>(hO k hx).elim (h.XD k) (λhx=>by omega)⟩
 .intro hx;exact(hO _ hx).elim h.n1 (λhx=>by omega)
 .intro hx;exact(hO _ hx).elim h.n2 (λhx=>by omega)
 .intro hx;exact(hO _ hx).elim h.n3 (λhx=>by omega)
 .intro hx;exact(hO _ hx).elim h.n4 (λhx=>by omega)
def tw (J:List (Nat->Int)->List Nat->World->Prop) (Jx:World->Prop) (g2 P i:Nat) (L:List (Nat->Int)) (t:Nat->Int) (ms:List (Nat->Int)) (O:List Nat) (W:World) (e:Ending) (W':World):Prop:=
 (e=.returned (.bool true)/\∃t',(∀j,j<i->t' j=t j)/\(∀j,P<=j->t' j=0)/\aA W' g2 99 (tick t')/\∃O',(∀k∈O',k∈O\/W.heap.size<=k)/\J (ms++L) O' W'/\ab (g2::O) W W')\/
 (e=.returned (.bool false)/\L≠ []/\Jx W'/\ab (g2::O) W W')
abbrev yi (W0:World) (l K:Nat) (J:List (Nat->Int)->List Nat->World->Prop) (Jx:World->Prop):Prop:=
 Du ZP W0.heap.size [] l (λt=>.agg (tick t)) K J Jx
theorem Dz {t:Nat->Int} {ms:List (Nat->Int)}
 (hi:i=b.parts.length) (hz:∀j,b.parts.length<=j->t j=0)
 (iQ:∀X,Below W0.heap.size W0 X->Calls ZP 108 #[.agg #[.int .i64 b.ac,.int .i64 b.places,.slice a2 b.parts.length c2,v3,v4],.agg (tick t)] X (di X (.bool (ag t))))
 (hR:yi W0 l K J Jx) (hI:uN W0 W b (.slice a2 b.parts.length c2) v3 v4 (.func (.yield l) #[] #[]) g1 g2 g3 g4 O) (h2:aA W g2 99 (tick t)) (hJ:J ms O W) (hlen:ms.length+(if ag t then 1 else 0)<=K):
 Calls ZP 107 #[.int .i64 i,ptr g1,ptr g2,ptr g3,ptr g4] W (tw J Jx g2 b.parts.length i (if ag t then [t]else []) t ms O W):=by
 obtain⟨y0,y1,y2,y3,y4⟩:=hI.b1.c5;obtain⟨x0,x1,x2,x3,x4⟩:=h2.c5;have HI:=hid hI;have H2:=hid h2;have HZ:=hid hz;have hC:=iQ W hI.old;clear hI h2 hz iQ;subst hi;cases he:ag t with
 |false=>
  rw[he]at hC;simp only[tick]at hC;go_enter ZF107,Tryz.ntmps107
  go_wp2_with(go_at_call 108
              refine hC.mono ?_;rintro e w1 ⟨rfl,bi⟩;have HB:=hid bi;clear bi)
  go_ret;exact .inl ⟨rfl,t,λ_ _=>rfl,HZ.o,(ab.of (O:=[]) HB.o).box H2.o (by simp),O,λ_ h=>.inl h,by simpa using hR.stay hJ HB.o.size (λk hk=>HB.o.block k (hR.own hJ k hk).2.1),.of HB.o⟩
 |true=>
  rw[he]at hC;simp only[tick]at hC;have HL:Hid (ms.length<K):=(by simp[he]at hlen;exact(by omega:ms.length<K))
  have HJ:Hid (J ms O W):=hJ;clear hlen hJ;refine(callsIn_wide (n:=0)).1 ?_;refine callsIn_of_wp ZF107 rfl trivial ?_
  simp only[Tryz.ntmps107,zFQ,zBS,zCO,Nat.reduceAdd,Nat.reduceSub,zEZ,
   zFA,zFR,zFG,zDS,zDW]
  gi_wp2_with(refine⟨trivial,rfl,?_⟩
              gi_at_call 108
              refine(callsIn_wide.2 hC).mono ?_;rintro e w1 ⟨rfl,bi⟩;have HB:=hid bi;have HJ1:Hid (J ms O w1):=hR.stay HJ.o bi.size (λk hk=>bi.block k (hR.own HJ.o k hk).2.1);have XE:Hid (uN W0 w1 b (.slice a2 b.parts.length c2) v3 v4 (.func (.yield l) #[] #[]) g1 g2 g3 g4 O):=HI.o.on H2.o.lt (.of bi) (λ_ h=>.inl h);have H21:Hid (aA w1 g2 99 (tick t)):=(ab.of (O:=[]) bi).box H2.o (by simp);obtain⟨fn,tmps,assign,body,hy,hr⟩:=hR.yield ms t O w1 HJ1.o HL.o;simp only[tick]at hy;have q0:=XE.o.b3.c1;obtain⟨x0,x1,x2,x3,x4⟩:=H21.o.c5;clear bi hC)
  refine⟨rfl,hr.mono ?_⟩;rintro e W' (⟨rfl,O',Of,hJ',hk⟩|⟨rfl,hx,hk⟩)
  .gi_wp2
   go_ret;refine .inl ⟨rfl,t,λ_ _=>rfl,HZ.o,hk.box H21.o XE.o.n2,O',(λk h=>(Of k h).imp id (λh=>zAP HB.o.size h)),by simpa using hJ',((ab.of (O:=O) HB.o).trans' hk).mono λx hx=>.inl (zBH _ hx)⟩
  .gi_wp2
   go_ret;exact .inr ⟨rfl,(by simp),hx,((ab.of (O:=O) HB.o).trans' hk).mono λx hx=>.inl (zBH _ hx)⟩
theorem mA {l:List Part} {t:Nat->Int} {x:Part} (hx:l[i]?=some x):
 bQ ag l (n+1) i t=(span x.lo (x.hi+1-x.lo).toNat).flatMap λk=>bQ ag l n (i+1) (upd t i k):=by rw[bQ,hx]
theorem vW {ag:(Nat->Int)->Bool} {l:List Part}:∀(n i:Nat) (t t':Nat->Int),i+n=l.length->(∀j,j<i->t' j=t j)->(∀j,l.length<=j->t j=0)->(∀j,l.length<=j->t' j=0)->
 bQ ag l n i t'=bQ ag l n i t
 |0,i,t,t',hn,h1,h2,h3=>by
  have:t'=t:=by
   funext j;by_cases hj:j<i
   .exact h1 j hj
   .rw[h2 j (by omega),h3 j (by omega)]
  rw[this]
 |n+1,i,t,t',hn,h1,h2,h3=>by
  have hx:l[i]?=some l[i]:=zAJ (by omega);rw[mA hx,mA hx];congr 1;funext k;refine vW n (i+1) _ _ (by omega) (λj hj=>?_) (λj hj=>?_) (λj hj=>?_)
  .by_cases e:j=i
   .subst e;rw[gW,gW]
   .rw[bS _ _ e,bS _ _ e];exact h1 j (by omega)
  .rw[bS _ _ (by omega)];exact h2 j hj
  .rw[bS _ _ (by omega)];exact h3 j hj
theorem mB (lo:Int):∀n:Nat,span lo (n+1)=span lo n++[lo+n]
 |0=>by simp[span]
 |n+1=>by
  have:=mB (lo+1) n;show lo::span (lo+1) (n+1)=_;rw[this];show _=lo::(span (lo+1) n)++_;rw[zDW];congr 3;push_cast
  omega
theorem AJ (hp:p<5) (t:Nat->Int) (k:Int):(tick t).setIfInBounds p (.int .i64 k)=tick (upd t p k):=by
 match p,hp with
 |0,_=>simp[tick,upd]
 |1,_=>simp[tick,upd]
 |2,_=>simp[tick,upd]
 |3,_=>simp[tick,upd]
 |4,_=>simp[tick,upd]
theorem vX (lo:Int) (k:Nat):∀d:Nat,∃r,span lo (k+d)=span lo k++r
 |0=>⟨[],by simp⟩
 |d+1=>by
  obtain⟨r,h⟩:=vX lo k d;exact⟨r++[lo+(k+d:Nat)],by rw[<-zBE,mB,h,zEE]⟩
theorem vY (lo:Int) (f:Int->List α) (h:k<T):((span lo k).flatMap f).length+(f (lo+k)).length<=((span lo T).flatMap f).length:=by
 obtain⟨r,e⟩:=vX lo (k+1) (T-(k+1));rw[show k+1+(T-(k+1))=T by omega]at e;rw[e,zCJ,zBA,mB,zCJ,zBA];simp
theorem Oi (lo:Int) (f:Int->List α) (h:k<T) (hf:f (lo+k)≠ []):(span lo T).flatMap f≠ []:=λe=>by
 have h1:=vY lo f h;rw[e,zCO]at h1;have:=zCW.2 hf;omega
theorem GP
 (hb:ar W0 (.agg #[.int .i64 b.ac,.int .i64 b.places,.slice a2 b.parts.length c2,v3,v4]) b) (hv:Valid b)
 (iQ:∀X t,Below W0.heap.size W0 X->Calls ZP 108 #[.agg #[.int .i64 b.ac,.int .i64 b.places,.slice a2 b.parts.length c2,v3,v4],.agg (tick t)] X (di X (.bool (ag t))))
 (hR:yi W0 l K J Jx):
 ∀(n i:Nat),i+n=b.parts.length->∀(t:Nat->Int) (ms:List (Nat->Int)) (O:List Nat) (W:World),(∀j,b.parts.length<=j->t j=0)->
  uN W0 W b (.slice a2 b.parts.length c2) v3 v4 (.func (.yield l) #[] #[]) g1 g2 g3 g4 O->aA W g2 99 (tick t)->J ms O W->ms.length+(bQ ag b.parts n i t).length<=K->
  Calls ZP 107 #[.int .i64 i,ptr g1,ptr g2,ptr g3,ptr g4] W (tw J Jx g2 b.parts.length i (bQ ag b.parts n i t) t ms O W):=by
 intro n;induction n with
 |zero=>exact λi hi t ms O W hz hI h2 hJ hlen=>Dz (by omega) hz (λX hX=>iQ X t hX) hR hI h2 hJ (by
   simp only[bQ]at hlen;cases he:ag t<;>simp[he]at hlen⊢<;>omega)
 |succ n ih=>
  intro i hi t ms O W hz hI h2 hJ hlen;have hm:=hv.parts.many;have Tl:i<5:=by omega
  have E5:i<b.parts.length:=by omega
  obtain⟨v2',_,_,Id,⟨Uq,Oj,hS,hE⟩,_,_⟩:=hb;obtain⟨⟨blk,off,sp⟩,x,hax,hx,x0,x1,x2,x3,x4,vf,x5,x6⟩:=hS.elem hE E5;obtain rfl:sp=none:=x0.1;have he:=hS.eq;simp only[Value.agg.injEq,zBU,zBR,zCB,zDB]at Id;obtain⟨rfl,rfl,rfl⟩:=Id;simp only[Value.slice.injEq,zCB]at he;obtain⟨rfl,rfl⟩:=he;subst hax;have HX:=hid hx;have hpo:=(hv.parts.all i x E5 hx).1;have DA:0<=x.lo/\x.lo<=x.hi/\x.hi<=20:=hpo.time;have X3:=hid x3;have X4:=hid x4;have HI:=hid hI;have H2:=hid h2;obtain⟨-,-,y2⟩:=hI.b1.c3;have y3:=(x3.later (Kp.of hI.old)).2;simp only[<-zBE]at y3;have z0:W.cell? ⟨g2,i,none⟩=some (.int .i64 (t i)):=h2.cell i (fV Tl t);have f0:W.frozen? ⟨g2,i,none⟩=false:=h2.aL i;have bE:¬(i:Int)=(b.parts.length:Int):=by omega
  have hii:(i:Int)<(b.parts.length:Int):=by omega
  have Nu:((i:Int)==(b.parts.length:Int))=false:=by simp;omega
  rw[mA hx]at hlen⊢;have zdq:=hid hlen;have HJ:Hid (J ms O W):=hJ;have HZ:=hid hz;have IH:=ih;have H6:Hid (b.parts.length<=c2/\c2<=maxLen):=⟨hS.le,hS.NY⟩
  clear hlen hJ hz ih hI h2 x0 x1 x2 x3 x4 x5 x6 hx hS hE hpo hv;go_enter ZF107,Tryz.ntmps107
  go_wp2
  obtain⟨WL,hWL⟩:=ex1 (W.setCell ⟨g2,i,none⟩ (.int .i64 x.lo));rw[hWL];have DB:Hid (ab [g2] W WL):=by rw[<-hWL];exact ab.set W (by simp) _
  have HL2:Hid (aA WL g2 99 (tick (upd t i x.lo))):=by have:=H2.o.set i (.int .i64 x.lo);rwa [AJ Tl,hWL]at this
  have HIL:Hid (uN W0 WL b (.slice (some ⟨blk,off,none⟩) b.parts.length c2) v3 v4 (.func (.yield l) #[] #[]) g1 g2 g3 g4 O):=HI.o.on H2.o.lt (DB.o.mono (by simp)) (λ_ h=>.inl h);have HJL:Hid (J ms O WL):=hR.stay HJ.o DB.o.size (λk hk=>DB.o.block k (hR.own HJ.o k hk).2.1 (λh=>HI.o.n2 (by simp at h;rw[<-h];exact hk)));clear y2 y3 z0 f0 hWL
  go_loopw [32] (λ_ wr=>∃(k:Nat) (t':Nat->Int) (O':List Nat),k<=(x.hi+1-x.lo).toNat/\Hid ((∀j,j<i->t' j=t j)/\t' i=x.lo+k/\(∀j,b.parts.length<=j->t' j=0)/\aA wr g2 99 (tick t')/\
   J (ms++(span x.lo k).flatMap λq=>bQ ag b.parts n (i+1) (upd t i q)) O' wr/\(∀o∈O',o∈O\/WL.heap.size<=o)/\ab (g2::O) WL wr)) (λ_ wr=>(x.hi+1-intOf ((wr.cell? ⟨g2,i,none⟩).getD undef)).toNat)
  case atStart=>
   exact⟨0,upd t i x.lo,O,zAR _,(⟨λj hj=>bS _ _ (by omega),by rw[gW];simp,λj hj=>by rw[bS _ _ (by omega)];exact HZ.o j hj,HL2.o,by simpa [span]using HJL.o,λ_ h=>.inl h,ab.refl _ _⟩:_/\_/\_/\_/\_/\_/\_)⟩
  case round=>
   obtain⟨k,t',O',hk,hS⟩:=hrel;obtain⟨e1,e2,e3,e4,e5,e6,e7⟩:=hS.o;have HIr:Hid (uN W0 wr b (.slice (some ⟨blk,off,none⟩) b.parts.length c2) v3 v4 (.func (.yield l) #[] #[]) g1 g2 g3 g4 O'):=HIL.o.on HL2.o.lt e7 e6;have Im:=hid e4;have HE1:=hid e1;have Qe:=hid e2;have HE3:=hid e3;have HJr:=hid e5;have Dw:Hid (∀o∈O',o∈O\/WL.heap.size<=o):=e6;have HKr:=hid e7;obtain⟨-,-,q2⟩:=HIr.o.b1.a3
   have q4:∀X:aj wr,X.1.cell? ⟨blk,off+i*6+4,none⟩=some (.int .i64 x.hi):=λX=>X.cell (by
    have:=(X4.o.later (Kp.of HIr.o.old)).2;simpa only[<-zBE]using this)
   have qt:∀X:aj wr,X.1.cell? ⟨g2,i,none⟩=some (.int .i64 (x.lo+k)):=λX=>X.cell (by
    have:=Im.o.cell i (fV Tl t');rwa [Qe.o]at this)
   have zjV:(i:Int)<5:=by omega
   clear e1 e2 e3 e4 e5 e6 e7 hS;by_cases az:k<(x.hi+1-x.lo).toNat
   .have hle:x.lo+(k:Int)<=x.hi:=by omega
    go_wp2
    refine ao (by kernel_rfl) (by kernel_rfl) ?_;repeat(go_big_quiet_step (fail))
    refine wpQuiet_nil ?_;rintro _ ⟨X,rfl⟩;have HIx:Hid (uN W0 X.1 b (.slice (some ⟨blk,off,none⟩) b.parts.length c2) v3 v4 (.func (.yield l) #[] #[]) g1 g2 g3 g4 O'):=HIr.o.on Im.o.lt (.of X.2) (λ_ h=>.inl h);have Qf:Hid (aA X.1 g2 99 (tick t')):=(ab.of (O:=[]) X.2).box Im.o (by simp);have HJx:Hid (J (ms++(span x.lo k).flatMap λq=>bQ ag b.parts n (i+1) (upd t i q)) O' X.1):=hR.stay HJr.o X.2.size (λk hk=>X.2.block k (hR.own HJr.o k hk).2.1);have XN:Hid (ab (g2::O) WL X.1):=HKr.o.trans' (.of X.2);have c5:=HIx.o.b4.c1
    have HEq:Hid (bQ ag b.parts n (i+1) t'=bQ ag b.parts n (i+1) (upd t i (x.lo+k))):=vW n (i+1) _ _ (by omega) (λj hj=>by
     by_cases e:j=i
     .subst e;rw[gW];exact Qe.o
     .rw[bS _ _ e];exact HE1.o j (by omega)) (λj hj=>by rw[bS _ _ (by omega)];exact HZ.o j hj) HE3.o
    have BH:=zdq.o
    have hN:=IH (i+1) (by omega) t' (ms++(span x.lo k).flatMap λq=>bQ ag b.parts n (i+1) (upd t i q)) O' X.1 HE3.o HIx.o Qf.o HJx.o (by
     have h1:=vY x.lo (λq=>bQ ag b.parts n (i+1) (upd t i q)) az;rw[HEq.o,zBA];omega)
    rw[show((i+1:Nat):Int)=(i:Int)+1 by omega]at hN
    have hN':Calls ZP 107 #[.int .i64 ((i:Int)+1),ptr g1,ptr g2,ptr g3,ptr g4] X.1 (λe w2=>(e=.returned (.bool true)/\w2.cell? ⟨g2,i,none⟩=some (.int .i64 (x.lo+k))/\w2.frozen? ⟨g2,i,none⟩=false/\
     Hid (tw J Jx g2 b.parts.length (i+1) (bQ ag b.parts n (i+1) t') t' (ms++(span x.lo k).flatMap λq=>bQ ag b.parts n (i+1) (upd t i q)) O' X.1 (.returned (.bool true)) w2))\/
     (e=.returned (.bool false)/\Hid (bQ ag b.parts n (i+1) t'≠ []/\Jx w2/\ab (g2::O') X.1 w2))):=hN.mono λe w2 h=>by
     rcases h with⟨rfl,t2,h1,h2,h3,h4⟩|⟨rfl,h⟩
     .have hc:=h3.cell i (fV Tl t2);rw[h1 i (by omega),Qe.o]at hc;exact .inl ⟨rfl,hc,h3.aL i,.inl ⟨rfl,t2,h1,h2,h3,h4⟩⟩
     .exact .inr ⟨rfl,h⟩
    clear hN IH q2 q4 qt BH;go_wp2_with(go_at_call 107;refine hN'.mono ?_;rintro e w2 (⟨rfl,k1,k2,XO⟩|⟨rfl,XO⟩))
    .have m7:Hid (∃(t3:Nat->Int) (O3:List Nat),(∀j,j<i->t3 j=t j)/\t3 i=x.lo+((k+1:Nat):Int)/\(∀j,b.parts.length<=j->t3 j=0)/\aA (w2.setCell ⟨g2,i,none⟩ (.int .i64 (x.lo+k+1))) g2 99 (tick t3)/\
      J (ms++(span x.lo (k+1)).flatMap λq=>bQ ag b.parts n (i+1) (upd t i q)) O3 (w2.setCell ⟨g2,i,none⟩ (.int .i64 (x.lo+k+1)))/\(∀o∈O3,o∈O\/WL.heap.size<=o)/\ab (g2::O) WL (w2.setCell ⟨g2,i,none⟩ (.int .i64 (x.lo+k+1)))):=by
      rcases XO.o with⟨_,t2,h1,h2,h3,O2,th,E8,rP⟩|⟨h,_⟩
      .have hs:=Qf.o.lt;have zu:g2∉O2:=λh=>(th _ h).elim HIx.o.n2 (λh=>by omega);have hsx:=XN.o.size;refine⟨upd t2 i (x.lo+k+1),O2,λj hj=>by rw[bS _ _ (by omega),h1 j (by omega)];exact HE1.o j hj,by rw[gW];omega,λj hj=>by rw[bS _ _ (by omega)];exact h2 j hj,?_,?_,?_,?_⟩
       .have:=h3.set i (.int .i64 (x.lo+k+1));rwa [AJ Tl]at this
       .rw[mB,zCJ,<-zEE];simp only[zBP,zFC,zCY];rw[<-HEq.o];exact hR.stay E8 (by simp[World.setCell]) (λo ho=>Below.heap_setCell _ _ _ _ (λ(e:o=g2)=>zu (by rw[<-e];exact ho)))
       .exact λo ho=>(th o ho).elim (Dw.out o) (λh=>.inr (zAP hsx h))
       .refine(XN.o.trans rP λo ho=>?_).trans' (ab.set w2 (by simp) _);rcases zAS.1 ho with rfl|ho
        .exact .inl (by simp)
        .exact(Dw.out o ho).imp (zBH _) id
      .cases h
     obtain⟨t3,O3,r1,r2,r3,r4,r5,r6,r7⟩:=m7.o;have c6:=r4.cell i (fV Tl t3);rw[r2]at c6;have c7:=Im.o.cell i (fV Tl t');rw[Qe.o]at c7
     have yj:Hid ((∀j,j<i->t3 j=t j)/\t3 i=x.lo+((k+1:Nat):Int)/\(∀j,b.parts.length<=j->t3 j=0)/\aA (w2.setCell ⟨g2,i,none⟩ (.int .i64 (x.lo+k+1))) g2 99 (tick t3)/\
      J (ms++(span x.lo (k+1)).flatMap λq=>bQ ag b.parts n (i+1) (upd t i q)) O3 (w2.setCell ⟨g2,i,none⟩ (.int .i64 (x.lo+k+1)))/\(∀o∈O3,o∈O\/WL.heap.size<=o)/\ab (g2::O) WL (w2.setCell ⟨g2,i,none⟩ (.int .i64 (x.lo+k+1)))):=⟨r1,r2,r3,r4,r5,r6,r7⟩
     clear r1 r2 r3 r4 r5 r6 r7 m7;go_round
     case rel=>exact⟨k+1,t3,O3,by omega,yj⟩
     case measure=>
      rw[c6,c7];simp[intOf];omega
    .go_ret;refine .inr ⟨rfl,Oi x.lo (λq=>bQ ag b.parts n (i+1) (upd t i q)) az (by rw[<-HEq.o];exact XO.o.1),XO.o.2.1,?_⟩;refine((DB.o.mono (O':=g2::O) (by simp)).trans' (XN.o.trans XO.o.2.2 λo ho=>?_));rcases zAS.1 ho with rfl|ho
     .exact .inl (by simp)
     .exact(Dw.out o ho).imp (zBH _) id
   .have e:k=(x.hi+1-x.lo).toNat:=by omega
    subst e;have zl:¬x.lo+(((x.hi+1-x.lo).toNat:Nat):Int)<=x.hi:=by omega
    go_wp2
    refine ao (by kernel_rfl) (by kernel_rfl) ?_;repeat(go_big_quiet_step (fail))
    refine wpQuiet_nil ?_;rintro _ ⟨X,rfl⟩;have Qf:Hid (aA X.1 g2 99 (tick t')):=(ab.of (O:=[]) X.2).box Im.o (by simp);have HJx:Hid (J (ms++(span x.lo (x.hi+1-x.lo).toNat).flatMap λq=>bQ ag b.parts n (i+1) (upd t i q)) O' X.1):=hR.stay HJr.o X.2.size (λk hk=>X.2.block k (hR.own HJr.o k hk).2.1);have XN:Hid (ab (g2::O) W X.1):=(DB.o.mono (O':=g2::O) (by simp)).trans' (HKr.o.trans' (.of X.2));clear q2 q4 qt;go_wp2
    go_ret;exact .inl ⟨rfl,t',HE1.o,HE3.o,Qf.o,O',(λo ho=>(Dw.out o ho).imp id (λh=>zAP DB.o.size h)),HJx.o,XN.o⟩
theorem GQ
 (hb:ar W0 (.agg #[.int .i64 b.ac,.int .i64 b.places,.slice a2 b.parts.length c2,v3,v4]) b) (hv:Valid b)
 (iQ:∀X t,Below W0.heap.size W0 X->Calls ZP 108 #[.agg #[.int .i64 b.ac,.int .i64 b.places,.slice a2 b.parts.length c2,v3,v4],.agg (tick t)] X (di X (.bool (ag t))))
 (hR:yi W0 l K J Jx) (hold:Below W0.heap.size W0 W) (hJ:J [] O W) (hlen:(bQ ag b.parts b.parts.length 0 (λ_=>0)).length<=K):
 Calls ZP 88 #[.agg #[.int .i64 b.ac,.int .i64 b.places,.slice a2 b.parts.length c2,v3,v4],.func (.yield l) #[] #[]] W (Dv J Jx (bQ ag b.parts b.parts.length 0 (λ_=>0)) O W):=by
 obtain⟨A0,KH⟩:=ex1 (W.alloc (.cells #[.int .i64 b.ac,.int .i64 b.places,.slice a2 b.parts.length c2,v3,v4] 84));obtain⟨A1,aV⟩:=ex1 (A0.alloc (.cells #[.func (.yield l) #[] #[]] 154));obtain⟨A2,bc⟩:=ex1 (A1.alloc (.cells #[.int .i64 0,.int .i64 0,.int .i64 0,.int .i64 0,.int .i64 0] 99));obtain⟨A3,eE⟩:=ex1 (A2.alloc (.cells #[.nilFunc] 91));have Qg:=snew KH;have cS:=snew2 aV Qg;have gV:=snew2 bc cS;have FP:=snew2 eE gV
 have b1:aA A3 W.heap.size 84 #[.int .i64 b.ac,.int .i64 b.places,.slice a2 b.parts.length c2,v3,v4]:=by
  rw[<-eE];refine(ab.alloc [] _ _).box ?_ (by simp);rw[<-bc];refine(ab.alloc [] _ _).box ?_ (by simp);rw[<-aV];refine(ab.alloc [] _ _).box ?_ (by simp);rw[<-KH];exact aA.new _ _ _
 have b2:aA A3 (W.heap.size+1) 154 #[.func (.yield l) #[] #[]]:=by
  rw[<-eE];refine(ab.alloc [] _ _).box ?_ (by simp);rw[<-bc];refine(ab.alloc [] _ _).box ?_ (by simp);rw[<-aV,<-Qg];exact aA.new _ _ _
 have b3:aA A3 (W.heap.size+1+1) 99 (tick λ_=>0):=by
  rw[<-eE];refine(ab.alloc [] _ _).box ?_ (by simp);rw[<-bc,<-cS];exact aA.new _ _ _
 have b5:=(bnew2 eE gV).o;have iR:ab [] W A3:=by rw[<-eE,<-bc,<-aV,<-KH];exact(((ab.alloc _ _ _).lV _).lV _).lV _
 obtain⟨F,hF⟩:∃F:Value,.func (.func 107) #[] #[ptr W.heap.size,ptr (W.heap.size+1+1),ptr (W.heap.size+1),ptr (W.heap.size+1+1+1)]=F:=⟨_,rfl⟩
 obtain⟨A4,uM⟩:=ex1 (A3.setCell ⟨W.heap.size+1+1+1,0,none⟩ F);have lN:ab [W.heap.size+1+1+1] A3 A4:=by rw[<-uM];exact ab.set A3 (by simp) _
 have Tj:aA A4 (W.heap.size+1+1+1) 91 #[F]:=by rw[<-uM];exact b5.set 0 F
 have hO:∀k∈O,W0.heap.size<=k/\k<W.heap.size/\k∉([]:List Nat):=λk hk=>hR.own hJ k hk;have hk:ab [] W A4:=iR.trans lN (by simp;omega);have bW:=hold.size
 have hI:uN W0 A4 b (.slice a2 b.parts.length c2) v3 v4 (.func (.yield l) #[] #[]) W.heap.size (W.heap.size+1+1) (W.heap.size+1) (W.heap.size+1+1+1) O:=by
  refine⟨lN.box b1 (by simp;omega),lN.box b2 (by simp),by rw[hF];exact Tj,?_,?_,?_,?_,by omega,by omega,by omega,by omega,hold.trans (hk.below (by simp) bW),λk hx=>(hO k hx).1⟩;all_goals(intro hx;have:=(hO _ hx).2.1;omega)
 have XI:J [] O A4:=hR.stay hJ hk.size (λk hx=>hk.block k (hO k hx).2.1 (by simp));have hC:=GP hb hv iQ hR b.parts.length 0 (by omega) (λ_=>0) [] O A4 (λ_ _=>rfl) hI (lN.box b3 (by simp)) XI (by simpa using hlen);have c5:=b5.c1;have f5:A3.frozen? ⟨W.heap.size+1+1+1,0,none⟩=false:=b5.aL 0;have c6:=Tj.c1;have HK:=hid hk;rw[<-hF]at c6;clear hlen hI XI hb hv hR hold hJ b1 b2 b3 b5 Tj iR lN hk bW hO iQ;subst hF;have bK:∀(a:Addr) (f:Fn) (x y:Array Value) (w:World),(store a (.func f x y) .plain).run ZP w=stored ZP w a (.func f x y) .plain:=λa f x y w=>run_store ZP w a _ _ rfl;go_enter ZF88,Tryz.ntmps88
 go_wp2_with(go_at_call 107;refine hC.mono ?_;rintro e w1 (⟨rfl,t2,h1,h2,hB,O2,th,E8,rP⟩|⟨rfl,Og,Oh,rP⟩))
 .go_end0
  refine⟨⟨_,rfl⟩,.inl ⟨O2,(λk hk=>(th k hk).imp id (λh=>zAP HK.o.size h)),by simpa using E8,(HK.o.mono (O':=O) (by simp)).trans rP λx hx=>?_⟩⟩;rcases zAS.1 hx with rfl|hx
  .exact .inr (by omega)
  .exact .inl hx
 .go_end0
  refine⟨⟨_,rfl⟩,.inr ⟨Og,Oh,(HK.o.mono (O':=O) (by simp)).trans rP λx hx=>?_⟩⟩;rcases zAS.1 hx with rfl|hx
  .exact .inr (by omega)
  .exact .inl hx
end Go.Proofs.Cz
