/- A part. Conditions: none. -/
import Derived.Test.YtddlcmejelobdaaGreatDoorT29
import Derived.RangeFuncNested
import Derived.RangeFuncBound
import Derived.RangeFuncCalls
import Derived.RangeFuncLeaves
import Derived.Shelf.Abstract
import Derived.Shelf.RegionOpen
import Derived.OwnWalkIn
import Derived.TacticsInMore
import Derived.LoopNIn
import Derived.LoopIn
set_option linter.all false
set_option maxHeartbeats 8000000
set_option maxRecDepth 100000
namespace Go.Proofs.Cz
open Go.RowKit
variable {J:List (Nat->Int)->List Nat->nq->Prop} {Jx:nq->Prop} {K g1 g2 g3 g4 g5 k l mask n p:Nat} {O:List Nat} {W W' W0:nq} {b:aj} {bit:Nat->Bool} {m:Nat->Int} {v2 v3 v4:fu} {x:Int} {α:Type}
attribute [local go_sem] Oper.semAt_some
def upd (m:Nat->Int) (p:Nat) (k:Int):Nat->Int:=λi=>if i=p then k else m i
def cw (m:Nat->Int) (p:Nat) (k:Int):upd m p k p=k:=by simp[upd]
def aC (m:Nat->Int) {i:Nat} (k:Int) (h:i≠p):upd m p k i=m i:=by simp[upd,h]
def uK (m:Nat->Int) (p:Nat) (x k:Int):upd (upd m p x) p k=upd m p k:=by funext i;unfold upd;split<;>rfl
def DG (h:m p=0):upd m p 0=m:=by funext i;unfold upd;split<;>simp_all
def bZ (m:Nat->Int):Array fu:=#[.int .i64 (m 0),.int .i64 (m 1),.int .i64 (m 2),.int .i64 (m 3)]
def uL (hp:p<4) (m:Nat->Int) (k:Int):(bZ m).setIfInBounds p (.int .i64 k)=bZ (upd m p k):=by
 match p,hp with
 |0,_=>simp[bZ,upd]
 |1,_=>simp[bZ,upd]
 |2,_=>simp[bZ,upd]
 |3,_=>simp[bZ,upd]
def gt (hp:p<4) (m:Nat->Int):(bZ m)[p]?=some (.int .i64 (m p)):=by
 match p,hp with
 |0,_=>rfl
 |1,_=>rfl
 |2,_=>rfl
 |3,_=>rfl
open Classical in
noncomputable def fill (b:aj) (bit:Nat->Bool):Nat->Nat->(Nat->Int)->List (Nat->Int)
 |0,_,m=>[m]
 |n+1,p,m=>
  if bit p=true then(et b p).flatMap λk=>if 0<p/\bit (p-1)=true/\Apart b.cj (m (p-1)) k then []else fill b bit n (p+1) (upd m p k)
  else fill b bit n (p+1) m
abbrev ptr (g:Nat):fu:=.pointer (some ⟨g,0,none⟩)
structure Xp (W0 W:nq) (b:aj) (v2 v3 v4 y:fu) (mask:Nat) (g1 g2 g3 g4 g5:Nat) (O:List Nat):Prop where
 b1:aL W g1 78 #[.int .i64 b.aB,.int .i64 b.aq,v2,v3,v4]
 b2:aL W g2 104 #[y]
 b4:aL W g4 3 #[.int .i64 mask]
 b5:aL W g5 121 #[.func (.func 140) #[] #[ptr g1,ptr g2,ptr g3,ptr g4,ptr g5]]
 n1:g1∉O
 n2:g2∉O
 n3:g3∉O
 n4:g4∉O
 n5:g5∉O
 d1:g1≠g3
 d2:g2≠g3
 d4:g4≠g3
 d5:g5≠g3
 ge:W0.heap.size<=g3
 old:Below W0.heap.size W0 W
 geO:∀k∈O,W0.heap.size<=k
def Xp.on {y:fu} {O':List Nat} (h:Xp W0 W b v2 v3 v4 y mask g1 g2 g3 g4 g5 O) (h3:g3<W.heap.size)
 (hk:ab (g3::O) W W') (hO:∀k∈O',k∈O\/W.heap.size<=k):Xp W0 W' b v2 v3 v4 y mask g1 g2 g3 g4 g5 O':=by
 have l1:=h.b1.lt;have l2:=h.b2.lt;have l4:=h.b4.lt;have l5:=h.b5.lt
 have hW:=h.old.size
 refine⟨hk.box h.b1 (by simp[h.d1,h.n1]),hk.box h.b2 (by simp[h.d2,h.n2]),hk.box h.b4 (by simp[h.d4,h.n4]),hk.box h.b5 (by simp[h.d5,h.n5]),?_,?_,?_,?_,?_,h.d1,h.d2,h.d4,h.d5,h.ge,
  h.old.trans (hk.below (λk hx=>by rcases zAQ.1 hx with rfl|hx;exact h.ge;exact h.geO k hx) hW),λk hx=>(hO k hx).elim (h.geO k) (λhx=>by omega)⟩
 .intro hx;exact(hO _ hx).elim h.n1 (λhx=>by omega)
 .intro hx;exact(hO _ hx).elim h.n2 (λhx=>by omega)
 .intro hx;exact(hO _ hx).elim h.n3 (λhx=>by omega)
 .intro hx;exact(hO _ hx).elim h.n4 (λhx=>by omega)
 .intro hx;exact(hO _ hx).elim h.n5 (λhx=>by omega)
def AO (J:List (Nat->Int)->List Nat->nq->Prop) (Jx:nq->Prop) (g3:Nat) (L:List (Nat->Int)) (m:Nat->Int) (ms:List (Nat->Int)) (O:List Nat) (W:nq) (e:Ending) (W':nq):Prop:=
 (e=.returned (.bool true)/\aL W' g3 94 (bZ m)/\∃O',(∀k∈O',k∈O\/W.heap.size<=k)/\J (ms++L) O' W'/\ab (g3::O) W W')\/
 (e=.returned (.bool false)/\L≠ []/\Jx W'/\ab (g3::O) W W')
abbrev AP (W0:nq) (g1 g4 l K:Nat) (J:List (Nat->Int)->List Nat->nq->Prop) (Jx:nq->Prop):Prop:=
 GE ZP W0.heap.size [g1,g4] l (λm=>.agg (bZ m)) K J Jx
def KJ {ms:List (Nat->Int)}
 (hp:(p:Int)=b.aq) (hR:AP W0 g1 g4 l K J Jx) (hI:Xp W0 W b v2 v3 v4 (.func (.yield l) #[] #[]) mask g1 g2 g3 g4 g5 O) (h3:aL W g3 94 (bZ m)) (hJ:J ms O W) (hlen:ms.length<K):
 Calls ZP 140 #[.int .i64 p,ptr g1,ptr g2,ptr g3,ptr g4,ptr g5] W (AO J Jx g3 [m] m ms O W):=by
 obtain⟨fn,tmps,assign,body,hy,hr⟩:=hR.yield ms m O W hJ hlen;obtain⟨y0,y1⟩:=hI.b1.c2;have y2:=hI.b2.c1;obtain⟨x0,x1,x2,x3⟩:=h3.c4;simp only[bZ]at hy;have HI:=hid hI;have H3:=hid h3;refine(callsIn_wide (n:=0)).1 ?_;refine callsIn_of_wp ZF140 rfl trivial ?_
 simp only[Tryz.ntmps140,zFQ,zBV,zCL,Nat.reduceAdd,Nat.reduceSub,zFE,
  zFF,zFR,zFK,zEG,zEP]
 gi_wp2
 refine⟨rfl,hr.mono ?_⟩;rintro e W' (⟨rfl,O',RW,hJ',hk⟩|⟨rfl,hx,hk⟩)
 .gi_wp2
  go_ret;exact .inl ⟨rfl,hk.box H3.o HI.o.n3,O',RW,hJ',hk.mono λx hx=>.inl (zAS _ hx)⟩
 .gi_wp2
  go_ret;exact .inr ⟨rfl,(by simp),hx,hk.mono λx hx=>.inl (zAS _ hx)⟩
def DH:∀(mask:Fin 16) (p:Fin 4),bits BinOp.and IntKind.i64 (((mask.1:Nat):Int)/2^p.1) 1=if mask.1.testBit p.1 then 1 else 0:=by decide+kernel
def DI (hm:mask<16) (hp:p<4) (h:mask.testBit p=true):bits BinOp.and IntKind.i64 ((mask:Int)/2^p) 1=1:=by
 have:=DH ⟨mask,hm⟩ ⟨p,hp⟩;rwa [zAE h]at this
def IZ (hm:mask<16) (hp:p<4) (h:¬mask.testBit p=true):bits BinOp.and IntKind.i64 ((mask:Int)/2^p) 1=0:=by
 have:=DH ⟨mask,hm⟩ ⟨p,hp⟩;rwa [zAG h]at this
noncomputable abbrev dL (b:aj) (bit:Nat->Bool) (n p:Nat) (m:Nat->Int) (k:Int):List (Nat->Int):=
 open Classical in if 0<p/\bit (p-1)=true/\Apart b.cj (m (p-1)) k then []else fill b bit n (p+1) (upd m p k)
def AQ (h:¬bit p=true):fill b bit (n+1) p m=fill b bit n (p+1) m:=by
 rw[fill,zAG h]
def wl (h:bit p=true):fill b bit (n+1) p m=(et b p).flatMap (dL b bit n p m):=by
 rw[fill,zAE h]
def lD {l:List Int} {f:Int->List α} (hx:l[k]?=some x):(l.take (k+1)).flatMap f=(l.take k).flatMap f++f x:=by
 rw[zAX,hx];simp
def AS {l:List Int} {f:Int->List α} (hx:l[k]?=some x) (h:f x≠ []):l.flatMap f≠ []:=λhe=>by
 rw[List.flatMap_eq_nil_iff]at he;exact h (he x (zAT hx))
def AT {l:List Int} {f:Int->List α} (hx:l[k]?=some x):((l.take k).flatMap f).length+(f x).length<=(l.flatMap f).length:=by
 have h:l=l.take (k+1)++l.drop (k+1):=(zEH _ _).symm
 have h2:(l.flatMap f).length=((l.take (k+1)).flatMap f).length+((l.drop (k+1)).flatMap f).length:=by
  conv=>lhs;rw[h]
  rw[zDQ,zAV]
 rw[lD hx,zAV]at h2;omega
def Oj
 (hb:az W0 (.agg #[.int .i64 b.aB,.int .i64 b.aq,v2,v3,v4]) b) (hv:Valid b) (hm:mask<16) (hR:AP W0 g1 g4 l K J Jx):
 ∀(n p:Nat),((p+n:Nat):Int)=b.aq->∀(m:Nat->Int) (ms:List (Nat->Int)) (O:List Nat) (W:nq),(∀i,p<=i->m i=0)->
  Xp W0 W b v2 v3 v4 (.func (.yield l) #[] #[]) mask g1 g2 g3 g4 g5 O->aL W g3 94 (bZ m)->J ms O W->ms.length+(fill b mask.testBit n p m).length<=K->
  Calls ZP 140 #[.int .i64 p,ptr g1,ptr g2,ptr g3,ptr g4,ptr g5] W (AO J Jx g3 (fill b mask.testBit n p m) m ms O W):=by
 intro n;induction n with
 |zero=>exact λp hp m ms O W _ hI h3 hJ hlen=>KJ hp hR hI h3 hJ (by simp only[fill,zBV,zCL]at hlen;omega)
 |succ n ih=>
  intro p hp m ms O W hz hI h3 hJ hlen;have tU:=hv.aq;have PE:p<4:=by omega
  obtain⟨-,y1⟩:=hI.b1.c2;have y4:=hI.b4.c1;have bu:¬(p:Int)=b.aq:=by omega
  have HI:=hid hI;have H3:=hid h3;have HM:=hid hv.ptz.many.2;have HP:=hid hv.nH;have Hp:=hid hp;have lL:wrap64 ((p:Int)+1)=p+1:=by unfold wrap64;omega
  by_cases hbt:mask.testBit p=true
  .rw[wl hbt]at hlen⊢;have HL:=hid hlen;have zgT:=DI hm PE hbt;obtain⟨z0,-,z2,z3,z4⟩:=HI.o.b1.c5;have hC:=RQ W _ b p (hb.later (Kp.of HI.o.old)) HM.o
   have IH:Hid (∀(p:Nat),((p+n:Nat):Int)=b.aq->∀(m:Nat->Int) (ms:List (Nat->Int)) (O:List Nat) (W:nq),(∀i,p<=i->m i=0)->
    Xp W0 W b v2 v3 v4 (.func (.yield l) #[] #[]) mask g1 g2 g3 g4 g5 O->aL W g3 94 (bZ m)->J ms O W->ms.length+(fill b mask.testBit n p m).length<=K->
    Calls ZP 140 #[.int .i64 p,ptr g1,ptr g2,ptr g3,ptr g4,ptr g5] W (AO J Jx g3 (fill b mask.testBit n p m) m ms O W)):=ih
   have HJ:=hid hJ;have HZ:=hid hz;have HBk:=hid hb;go_enter ZF140,Tryz.ntmps140
   go_wp2_with(go_at_call 141
               refine hC.mono ?_;rintro e w1 ⟨⟨v,rfl,hO⟩,bJ⟩;have HG:=hid (ip hO);obtain⟨a,cap,hS,hE⟩:=ah.bY hO;have HS:Hid (bi w1 v (et b p).length a cap/\_):=⟨hS,hE⟩
               have cO:=hid bJ;obtain⟨rfl,l1,m1,n1,r1⟩:=hS;unfold maxLen at m1;skip)
   have HI1:=hid (HI.o.on H3.o.lt (.of cO.o) (λ_ h=>.inl h));have H31:=hid ((ab.of (O:=[]) cO.o).box H3.o (by simp));have BW:Hid (∀o∈O,o<W.heap.size):=λo ho=>(hR.own HJ.o o ho).2.1;have HJ1:=hid (hR.stay HJ.o cO.o.size (λk hk=>cO.o.block k (BW.o k hk)))
   go_loopw [31,9] (λi u wr=>∃(k:Nat) (O':List Nat) (x:Int),k<=(et b p).length/\i=.int .i64 k/\
    Hid (J (ms++((et b p).take k).flatMap (dL b mask.testBit n p m)) O' wr/\(∀o∈O',o∈O\/w1.heap.size<=o)/\ab (g3::O) w1 wr/\aL wr g3 94 (bZ (upd m p x)))) (λi _ _=>(et b p).length-(intOf i).toNat)
   case atStart=>exact⟨0,O,0,zAJ _,rfl,(by rw[DG (HZ.o p (zAA _))];exact⟨by simpa using HJ1.o,λ_ h=>.inl h,ab.refl _ _,H31.o⟩:_/\_/\_/\_)⟩
   case round=>
    obtain⟨k,O',x,hk,rfl,hL⟩:=hrel;by_cases au:k<(et b p).length
    .obtain⟨⟨blk,off,sp⟩,y,rfl,hy,y0⟩:=HS.o.1.elem HS.o.2 au;obtain rfl:sp=none:=y0.1;have znR:=HG.o blk rfl;have g0:=y0.2;simp only at g0;have Yl:=y0.lt
     have gy:wr.cell? ⟨blk,off+k,none⟩=some (.int .i64 y):=(hL.o.2.2.1.on (a:=⟨blk,off+k,none⟩) Yl (by
      have:=H3.o.lt;simp only[zAQ,not_or];exact⟨by omega,λh=>by have:=BW.o _ h;omega⟩)).trans g0
     have HY:=hid hy;have PF:=hid (HI1.o.on H31.o.lt hL.o.2.2.1 hL.o.2.1);by_cases YN:0<p
     .have YO:(0:Int)<(p:Int):=by omega
      have hwm:wrap64 ((p:Int)-1)=((p-1:Nat):Int):=by unfold wrap64;omega
      have q4:=PF.o.b4.a1;by_cases hbm:mask.testBit (p-1)=true
      .have zgW:=DI hm (show p-1<4 by omega) hbm;obtain⟨r0,r1,r2,r3,r4⟩:=PF.o.b1.a5
       have r5:∀X:ak wr,X.1.cell? ⟨g3,p-1,none⟩=some (.int .i64 (m (p-1))):=λX=>X.cell (by
        have:=hL.o.2.2.2.cell (p-1) (gt (show p-1<4 by omega) _);rwa [aC _ _ (show p-1≠p by omega)]at this)
       have Yv:((p-1:Nat):Int)<4:=by omega
       have hA:∀X:ak wr,Calls ZP 116 #[.agg #[.int .i64 b.aB,.int .i64 b.aq,v2,v3,v4],.int .i64 (m (p-1)),.int .i64 y] X.1 (dF X.1 λr=>Tr r (Apart b.cj (m (p-1)) y)):=λX=>
        qe X.1 _ b _ _ (HBk.o.later (Kp.trans (Kp.of PF.o.old) X.kp PF.o.old.size)) HP.o
       by_cases wi:Apart b.cj (m (p-1)) y
       .have uk:Hid (dL b mask.testBit n p m y=[]):=zAE ⟨YN,hbm,wi⟩
        have hC2:∀X:ak wr,Calls ZP 116 #[.agg #[.int .i64 b.aB,.int .i64 b.aq,v2,v3,v4],.int .i64 (m (p-1)),.int .i64 y] X.1 (λe iL=>e=.returned (.bool true)/\∃Y:ak wr,iL=Y.1):=λX=>
         (hA X).mono λe w' ⟨⟨r,h1,h2⟩,h3⟩=>⟨by cases r with
           |true=>exact h1
           |false=>exact absurd wi h2.f,X.on h3⟩
        go_wp2
        refine ae (by kernel_rfl) (by kernel_rfl) ?_;repeat(go_big_quiet_step (first|(go_at_call 116;exact hC2 _)))
        refine wpQuiet_nil ?_;rintro _ ⟨X,rfl⟩;have HX:=hid (hL.o.2.2.1.trans' (.of X.2));have RX:=hid (PF.o.on hL.o.2.2.2.lt (.of X.2) (λ_ h=>.inl h));have gJ:=hid ((ab.of (O:=[]) X.2).box hL.o.2.2.2 (by simp));have Xq:=hid (hR.stay hL.o.1 X.2.size (λk hk=>X.2.block k (hR.own hL.o.1 k hk).2.1));have GH:=hid hL.o.2.1
        have oL:Hid (J (ms++((et b p).take (k+1)).flatMap (dL b mask.testBit n p m)) O' X.1/\(∀o∈O',o∈O\/w1.heap.size<=o)/\ab (g3::O) w1 X.1/\aL X.1 g3 94 (bZ (upd m p x))):=
         ⟨by rw[lD HY.o,uk.o,zCI];exact Xq.o,GH.out,HX.o,gJ.o⟩
        go_wp2
        go_round
        case rel=>exact⟨k+1,O',x,by omega,by go_num,oL⟩
        case measure=>simp[intOf];omega
       .have uk:Hid (dL b mask.testBit n p m y=fill b mask.testBit n (p+1) (upd m p y)):=zAG (λh=>wi h.2.2)
        have hC2:∀X:ak wr,Calls ZP 116 #[.agg #[.int .i64 b.aB,.int .i64 b.aq,v2,v3,v4],.int .i64 (m (p-1)),.int .i64 y] X.1 (λe iL=>e=.returned (.bool false)/\∃Y:ak wr,iL=Y.1):=λX=>
         (hA X).mono λe w' ⟨⟨r,h1,h2⟩,h3⟩=>⟨by cases r with
           |false=>exact h1
           |true=>exact absurd h2.t wi,X.on h3⟩
        go_wp2
        refine ae (by kernel_rfl) (by kernel_rfl) ?_;repeat(go_big_quiet_step (first|(go_at_call 116;exact hC2 _)))
        refine wpQuiet_nil ?_;rintro _ ⟨X,rfl⟩;have HX:=hid (hL.o.2.2.1.trans' (.of X.2));have RX:=hid (PF.o.on hL.o.2.2.2.lt (.of X.2) (λ_ h=>.inl h));have gJ:=hid ((ab.of (O:=[]) X.2).box hL.o.2.2.2 (by simp));have Xq:=hid (hR.stay hL.o.1 X.2.size (λk hk=>X.2.block k (hR.own hL.o.1 k hk).2.1));have GH:=hid hL.o.2.1;have c3:=gJ.o.cell p (gt PE _);have f3:=gJ.o.aH p;have HW:Hid (ab (g3::O') X.1 (X.1.setCell ⟨g3,p,none⟩ (.int .i64 y))):=ab.set X.1 (by simp) _;have Un:=hid (RX.o.on gJ.o.lt HW.o (λ_ h=>.inl h));have mV:Hid (aL (X.1.setCell ⟨g3,p,none⟩ (.int .i64 y)) g3 94 (bZ (upd m p y))):=by have:=gJ.o.set p (.int .i64 y);rwa [uL PE,uK]at this
        have Uo:Hid (J (ms++((et b p).take k).flatMap (dL b mask.testBit n p m)) O' (X.1.setCell ⟨g3,p,none⟩ (.int .i64 y))):=
         hR.stay Xq.o HW.o.size (λk hk=>Below.heap_setCell _ _ _ _ (λ(e:k=g3)=>RX.o.n3 (by rw[<-e];exact hk)))
        have c5:=Un.o.b5.cell 0 rfl
        have hN:=IH.o (p+1) (by have:=Hp.o;omega) (upd m p y) (ms++((et b p).take k).flatMap (dL b mask.testBit n p m)) O' (X.1.setCell ⟨g3,p,none⟩ (.int .i64 y))
         (λi hi=>by rw[aC _ _ (by omega)];exact HZ.o i (by omega)) Un.o mV.o Uo.o (by have h1:=HL.o;have h2:=AT (f:=dL b mask.testBit n p m) HY.o;rw[uk.o]at h2;rw[zAV];omega)
        rw[show((p+1:Nat):Int)=(p:Int)+1 by omega]at hN
        have BY:Hid (∀o∈g3::O',o∈g3::O\/w1.heap.size<=o):=λo ho=>by
         rcases zAQ.1 ho with rfl|ho
         .exact .inl (by simp)
         .exact(GH.out o ho).imp (zAS _) id
        have Ol:=hid (HX.o.trans HW.o BY.o);go_wp2_with(go_at_call 140;refine hN.mono ?_;rintro e w2 (⟨rfl,Xj,O2,xp,Om,xU⟩|⟨rfl,RY,RZ,xU⟩))
        .have oL:Hid (J (ms++((et b p).take (k+1)).flatMap (dL b mask.testBit n p m)) O2 w2/\(∀o∈O2,o∈O\/w1.heap.size<=o)/\ab (g3::O) w1 w2/\aL w2 g3 94 (bZ (upd m p y))):=
          ⟨by rw[lD HY.o,<-zCZ,uk.o];exact Om,(λo ho=>(xp o ho).elim (GH.out o) (λh=>.inr (zAM Ol.o.size h))),Ol.o.trans xU BY.o,Xj⟩
         go_round
         case rel=>exact⟨k+1,O2,y,by omega,by go_num,oL⟩
         case measure=>simp[intOf];omega
        .go_ret;exact .inr ⟨rfl,AS HY.o (by rw[uk.o];exact RY),RZ,(ab.of cO.o).trans (Ol.o.trans xU BY.o) (λ_=>.inl)⟩
      .have zgW:=IZ hm (show p-1<4 by omega) hbm;have uk:Hid (dL b mask.testBit n p m y=fill b mask.testBit n (p+1) (upd m p y)):=zAG (λh=>hbm h.2.1);go_wp2
       refine ae (by kernel_rfl) (by kernel_rfl) ?_;repeat(go_big_quiet_step (fail))
       refine wpQuiet_nil ?_;rintro _ ⟨X,rfl⟩;have HX:=hid (hL.o.2.2.1.trans' (.of X.2));have RX:=hid (PF.o.on hL.o.2.2.2.lt (.of X.2) (λ_ h=>.inl h));have gJ:=hid ((ab.of (O:=[]) X.2).box hL.o.2.2.2 (by simp));have Xq:=hid (hR.stay hL.o.1 X.2.size (λk hk=>X.2.block k (hR.own hL.o.1 k hk).2.1));have GH:=hid hL.o.2.1;have c3:=gJ.o.cell p (gt PE _);have f3:=gJ.o.aH p;have HW:Hid (ab (g3::O') X.1 (X.1.setCell ⟨g3,p,none⟩ (.int .i64 y))):=ab.set X.1 (by simp) _;have Un:=hid (RX.o.on gJ.o.lt HW.o (λ_ h=>.inl h));have mV:Hid (aL (X.1.setCell ⟨g3,p,none⟩ (.int .i64 y)) g3 94 (bZ (upd m p y))):=by have:=gJ.o.set p (.int .i64 y);rwa [uL PE,uK]at this
       have Uo:Hid (J (ms++((et b p).take k).flatMap (dL b mask.testBit n p m)) O' (X.1.setCell ⟨g3,p,none⟩ (.int .i64 y))):=
        hR.stay Xq.o HW.o.size (λk hk=>Below.heap_setCell _ _ _ _ (λ(e:k=g3)=>RX.o.n3 (by rw[<-e];exact hk)))
       have c5:=Un.o.b5.cell 0 rfl
       have hN:=IH.o (p+1) (by have:=Hp.o;omega) (upd m p y) (ms++((et b p).take k).flatMap (dL b mask.testBit n p m)) O' (X.1.setCell ⟨g3,p,none⟩ (.int .i64 y))
        (λi hi=>by rw[aC _ _ (by omega)];exact HZ.o i (by omega)) Un.o mV.o Uo.o (by have h1:=HL.o;have h2:=AT (f:=dL b mask.testBit n p m) HY.o;rw[uk.o]at h2;rw[zAV];omega)
       rw[show((p+1:Nat):Int)=(p:Int)+1 by omega]at hN
       have BY:Hid (∀o∈g3::O',o∈g3::O\/w1.heap.size<=o):=λo ho=>by
        rcases zAQ.1 ho with rfl|ho
        .exact .inl (by simp)
        .exact(GH.out o ho).imp (zAS _) id
       have Ol:=hid (HX.o.trans HW.o BY.o);go_wp2_with(go_at_call 140;refine hN.mono ?_;rintro e w2 (⟨rfl,Xj,O2,xp,Om,xU⟩|⟨rfl,RY,RZ,xU⟩))
       .have oL:Hid (J (ms++((et b p).take (k+1)).flatMap (dL b mask.testBit n p m)) O2 w2/\(∀o∈O2,o∈O\/w1.heap.size<=o)/\ab (g3::O) w1 w2/\aL w2 g3 94 (bZ (upd m p y))):=
         ⟨by rw[lD HY.o,<-zCZ,uk.o];exact Om,(λo ho=>(xp o ho).elim (GH.out o) (λh=>.inr (zAM Ol.o.size h))),Ol.o.trans xU BY.o,Xj⟩
        go_round
        case rel=>exact⟨k+1,O2,y,by omega,by go_num,oL⟩
        case measure=>simp[intOf];omega
       .go_ret;exact .inr ⟨rfl,AS HY.o (by rw[uk.o];exact RY),RZ,(ab.of cO.o).trans (Ol.o.trans xU BY.o) (λ_=>.inl)⟩
     .have YO:¬(0:Int)<(p:Int):=by omega
      have uk:Hid (dL b mask.testBit n p m y=fill b mask.testBit n (p+1) (upd m p y)):=zAG (λh=>YN h.1);go_wp2
      refine ae (by kernel_rfl) (by kernel_rfl) ?_;repeat(go_big_quiet_step (fail))
      refine wpQuiet_nil ?_;rintro _ ⟨X,rfl⟩;have HX:=hid (hL.o.2.2.1.trans' (.of X.2));have RX:=hid (PF.o.on hL.o.2.2.2.lt (.of X.2) (λ_ h=>.inl h));have gJ:=hid ((ab.of (O:=[]) X.2).box hL.o.2.2.2 (by simp));have Xq:=hid (hR.stay hL.o.1 X.2.size (λk hk=>X.2.block k (hR.own hL.o.1 k hk).2.1));have GH:=hid hL.o.2.1;have c3:=gJ.o.cell p (gt PE _);have f3:=gJ.o.aH p;have HW:Hid (ab (g3::O') X.1 (X.1.setCell ⟨g3,p,none⟩ (.int .i64 y))):=ab.set X.1 (by simp) _;have Un:=hid (RX.o.on gJ.o.lt HW.o (λ_ h=>.inl h));have mV:Hid (aL (X.1.setCell ⟨g3,p,none⟩ (.int .i64 y)) g3 94 (bZ (upd m p y))):=by have:=gJ.o.set p (.int .i64 y);rwa [uL PE,uK]at this
      have Uo:Hid (J (ms++((et b p).take k).flatMap (dL b mask.testBit n p m)) O' (X.1.setCell ⟨g3,p,none⟩ (.int .i64 y))):=
       hR.stay Xq.o HW.o.size (λk hk=>Below.heap_setCell _ _ _ _ (λ(e:k=g3)=>RX.o.n3 (by rw[<-e];exact hk)))
      have c5:=Un.o.b5.cell 0 rfl
      have hN:=IH.o (p+1) (by have:=Hp.o;omega) (upd m p y) (ms++((et b p).take k).flatMap (dL b mask.testBit n p m)) O' (X.1.setCell ⟨g3,p,none⟩ (.int .i64 y))
       (λi hi=>by rw[aC _ _ (by omega)];exact HZ.o i (by omega)) Un.o mV.o Uo.o (by have h1:=HL.o;have h2:=AT (f:=dL b mask.testBit n p m) HY.o;rw[uk.o]at h2;rw[zAV];omega)
      rw[show((p+1:Nat):Int)=(p:Int)+1 by omega]at hN
      have BY:Hid (∀o∈g3::O',o∈g3::O\/w1.heap.size<=o):=λo ho=>by
       rcases zAQ.1 ho with rfl|ho
       .exact .inl (by simp)
       .exact(GH.out o ho).imp (zAS _) id
      have Ol:=hid (HX.o.trans HW.o BY.o);go_wp2_with(go_at_call 140;refine hN.mono ?_;rintro e w2 (⟨rfl,Xj,O2,xp,Om,xU⟩|⟨rfl,RY,RZ,xU⟩))
      .have oL:Hid (J (ms++((et b p).take (k+1)).flatMap (dL b mask.testBit n p m)) O2 w2/\(∀o∈O2,o∈O\/w1.heap.size<=o)/\ab (g3::O) w1 w2/\aL w2 g3 94 (bZ (upd m p y))):=
        ⟨by rw[lD HY.o,<-zCZ,uk.o];exact Om,(λo ho=>(xp o ho).elim (GH.out o) (λh=>.inr (zAM Ol.o.size h))),Ol.o.trans xU BY.o,Xj⟩
       go_round
       case rel=>exact⟨k+1,O2,y,by omega,by go_num,oL⟩
       case measure=>simp[intOf];omega
      .go_ret;exact .inr ⟨rfl,AS HY.o (by rw[uk.o];exact RY),RZ,(ab.of cO.o).trans (Ol.o.trans xU BY.o) (λ_=>.inl)⟩
    .have e:k=(et b p).length:=by omega
     subst e;have c3:=hL.o.2.2.2.cell p (gt PE _);have f3:=hL.o.2.2.2.aH p;have PF:=hid (HI1.o.on H31.o.lt hL.o.2.2.1 hL.o.2.1);go_wp2
     go_ret;have hW:ab (g3::O') wr (wr.setCell ⟨g3,p,none⟩ (.int .i64 0)):=ab.set wr (by simp) _;have RW:=hL.o.2.1;have hs:=cO.o.size;refine .inl ⟨rfl,?_,O',(λo ho=>(RW o ho).imp id (λh=>by omega)),?_,?_⟩
     .have:=hL.o.2.2.2.set p (.int .i64 0);rwa [uL PE,uK,DG (HZ.o p (zAA _))]at this
     .refine hR.stay ?_ hW.size (λk hk=>Below.heap_setCell _ _ _ _ (λ(e:k=g3)=>PF.o.n3 (by rw[<-e];exact hk)));have:=hL.o.1;rwa [zBN]at this
     .refine(ab.of cO.o).trans (hL.o.2.2.1.trans hW λo ho=>?_) (λ_=>.inl);rcases zAQ.1 ho with rfl|ho
      .exact .inl (by simp)
      .exact(RW o ho).imp (zAS _) id
  .rw[AQ hbt]at hlen⊢;have zgT:=IZ hm PE hbt;have y5:=HI.o.b5.c1;have hC:=ih (p+1) (by omega) m ms O W (λi hi=>hz i (by omega)) HI.o H3.o hJ hlen;rw[show((p+1:Nat):Int)=(p:Int)+1 by omega]at hC;go_enter ZF140,Tryz.ntmps140
   go_wp2_with(go_at_call 140;refine hC.mono ?_;rintro e w1 (⟨rfl,hx⟩|⟨rfl,hx⟩))
   .go_ret;exact .inl ⟨rfl,hx⟩
   .go_ret;exact .inr ⟨rfl,hx⟩
def ab.fG (h:ab O W W') (o:Obj):ab O W (W'.alloc o):=h.trans (ab.alloc [] W' o) (λ_ h=>by cases h)
def Oo {N:Nat}
 (hb:az W0 (.agg #[.int .i64 b.aB,.int .i64 b.aq,v2,v3,v4]) b) (hv:Valid b) (hm:mask<16) (hN:(N:Int)=b.aq) (hR:AP W0 g1 g4 l K J Jx)
 (h1:aL W g1 78 #[.int .i64 b.aB,.int .i64 b.aq,v2,v3,v4]) (h4:aL W g4 3 #[.int .i64 mask]) (hold:Below W0.heap.size W0 W) (hJ:J [] O W) (hlen:(fill b mask.testBit N 0 (λ_=>0)).length<=K):
 Calls ZP 139 #[.func (.yield l) #[] #[],ptr g1,ptr g4] W (GF J Jx (fill b mask.testBit N 0 (λ_=>0)) O W):=by
 obtain⟨A1,aZ⟩:=ex1 (W.alloc (.cells #[.func (.yield l) #[] #[]] 104));obtain⟨A2,cL⟩:=ex1 (A1.alloc (.cells #[.int .i64 0,.int .i64 0,.int .i64 0,.int .i64 0] 94));obtain⟨A3,jr⟩:=ex1 (A2.alloc (.cells #[.nilFunc] 121));have gE:=snew aZ;have ng:=snew2 cL gE;have If:=snew2 jr ng
 have b2:aL A3 W.heap.size 104 #[.func (.yield l) #[] #[]]:=by
  rw[<-jr];refine(ab.alloc [] _ _).box ?_ (by simp);rw[<-cL];refine(ab.alloc [] _ _).box ?_ (by simp);rw[<-aZ];exact aL.new _ _ _
 have b3:aL A3 (W.heap.size+1) 94 (bZ λ_=>0):=by
  rw[<-jr];refine(ab.alloc [] _ _).box ?_ (by simp);rw[<-cL,<-gE];exact aL.new _ _ _
 have b5:=(bnew2 jr ng).o;have lP:ab [] W A3:=by rw[<-jr,<-cL,<-aZ];exact((ab.alloc _ _ _).fG _).fG _
 obtain⟨F,hF⟩:∃F:fu,.func (.func 140) #[] #[ptr g1,ptr W.heap.size,ptr (W.heap.size+1),ptr g4,ptr (W.heap.size+1+1)]=F:=⟨_,rfl⟩
 obtain⟨A4,xV⟩:=ex1 (A3.setCell ⟨W.heap.size+1+1,0,none⟩ F);have qv:ab [W.heap.size+1+1] A3 A4:=by rw[<-xV];exact ab.set A3 (by simp) _
 have b5':aL A4 (W.heap.size+1+1) 121 #[F]:=by rw[<-xV];exact b5.set 0 F
 have hO:∀k∈O,W0.heap.size<=k/\k<W.heap.size/\k∉ [g1,g4]:=λk hk=>hR.own hJ k hk;have hk:=lP.trans qv (by simp;omega);have Gi:=h1.lt;have zgY:=h4.lt;have cB:=hold.size
 have hI:Xp W0 A4 b v2 v3 v4 (.func (.yield l) #[] #[]) mask g1 W.heap.size (W.heap.size+1) g4 (W.heap.size+1+1) O:=by
  refine⟨hk.box h1 (by simp),qv.box b2 (by simp;omega),hk.box h4 (by simp),by rw[hF];exact b5',?_,?_,?_,?_,?_,by omega,by omega,by omega,by omega,by omega,hold.trans (hk.below (by simp) cB),λk hx=>(hO k hx).1⟩
  .intro hx;exact(hO _ hx).2.2 (by simp)
  .intro hx;have:=(hO _ hx).2.1;omega
  .intro hx;have:=(hO _ hx).2.1;omega
  .intro hx;exact(hO _ hx).2.2 (by simp)
  .intro hx;have:=(hO _ hx).2.1;omega
 have hJ4:=hR.stay hJ hk.size (λk hx=>hk.block k (hO k hx).2.1 (by simp));have hC:=Oj hb hv hm hR N 0 (by omega) (λ_=>0) [] O A4 (λ_ _=>rfl) hI (qv.box b3 (by simp)) hJ4 (by simpa using hlen);have c5:=b5.c1;have f5:=b5.aH 0;have c6:=b5'.c1;have HK:=hid hk;rw[<-hF]at c6;subst hF;have cD:∀(a:Addr) (f:Fn) (x y:Array fu) (w:nq),(store a (.func f x y) .plain).run ZP w=stored ZP w a (.func f x y) .plain:=λa f x y w=>run_store ZP w a _ _ rfl;go_enter ZF139,Tryz.ntmps139
 go_wp2_with(go_at_call 140;refine hC.mono ?_;rintro e w1 (⟨rfl,hB,O2,xp,Om,xU⟩|⟨rfl,RY,RZ,xU⟩))
 .go_end0
  refine⟨⟨_,rfl⟩,.inl ⟨O2,(λk hk=>(xp k hk).imp id (λh=>zAM HK.o.size h)),Om,(HK.o.mono (O':=O) (by simp)).trans xU λx hx=>?_⟩⟩;rcases zAQ.1 hx with rfl|hx
  .exact .inr (by omega)
  .exact .inl hx
 .go_end0
  refine⟨⟨_,rfl⟩,.inr ⟨RY,RZ,(HK.o.mono (O':=O) (by simp)).trans xU λx hx=>?_⟩⟩;rcases zAQ.1 hx with rfl|hx
  .exact .inr (by omega)
  .exact .inl hx
def zg0 (w:nq) (b:aj) (v2 v3 v4:fu) (mask:Nat) (e:Ending) (w':nq):Prop:=
 e=.returned (.func (.func 139) #[] #[ptr w.heap.size,ptr (w.heap.size+1)])/\w'=(w.alloc (.cells #[.int .i64 b.aB,.int .i64 b.aq,v2,v3,v4] 78)).alloc (.cells #[.int .i64 mask] 3)
def GI (w:nq) (b:aj) (v2 v3 v4:fu) (mask:Nat):Calls ZP 126 #[.agg #[.int .i64 b.aB,.int .i64 b.aq,v2,v3,v4],.int .i64 mask] w (zg0 w b v2 v3 v4 mask):=by
 go_enter ZF126,Tryz.ntmps126
 go_wp2
 go_ret;exact⟨rfl,rfl⟩
end Go.Proofs.Cz
