/- A part. Conditions: none. -/
import Derived.Test.YtddlcmejelobdaaGreatDoorT28
import Derived.RangeFuncNested
import Derived.RangeFuncBound
import Derived.RangeFuncCalls
import Derived.RangeFuncLeaves
import Derived.Shelf.Abstract
import Derived.Shelf.RegionOpen
import Derived.OwnWalkIn
import Derived.TacticsInMore
import Derived.LoopNIn
import Derived.LoopIn
set_option linter.all false
set_option maxHeartbeats 8000000
set_option maxRecDepth 100000
namespace Go.Proofs.Cz
open Go.RowKit
variable {J:List (Nat->Int)->List Nat->nq->Prop} {Jx:nq->Prop} {K g1 g2 g3 g4 g5 k l mask n p:Nat} {O:List Nat} {W W' W0:nq} {b:ab} {bit:Nat->Bool} {m:Nat->Int} {v2 v3 v4:fu} {x:Int} {α:Type}
attribute [local go_sem] Oper.semAt_some
def upd (m:Nat->Int) (p:Nat) (k:Int):Nat->Int:=λi=>if i=p then k else m i
def bO (m:Nat->Int) (p:Nat) (k:Int):upd m p k p=k:=by simp[upd]
def az (m:Nat->Int) {i:Nat} (k:Int) (h:i≠p):upd m p k i=m i:=by simp[upd,h]
def tU (m:Nat->Int) (p:Nat) (x k:Int):upd (upd m p x) p k=upd m p k:=by funext i;unfold upd;split<;>rfl
def Dl (h:m p=0):upd m p 0=m:=by funext i;unfold upd;split<;>simp_all
def bY (m:Nat->Int):Array fu:=#[.int .i64 (m 0),.int .i64 (m 1),.int .i64 (m 2),.int .i64 (m 3)]
def tV (hp:p<4) (m:Nat->Int) (k:Int):(bY m).setIfInBounds p (.int .i64 k)=bY (upd m p k):=by
 match p,hp with
 |0,_=>simp[bY,upd]
 |1,_=>simp[bY,upd]
 |2,_=>simp[bY,upd]
 |3,_=>simp[bY,upd]
def fR (hp:p<4) (m:Nat->Int):(bY m)[p]?=some (.int .i64 (m p)):=by
 match p,hp with
 |0,_=>rfl
 |1,_=>rfl
 |2,_=>rfl
 |3,_=>rfl
open Classical in
noncomputable def fill (b:ab) (bit:Nat->Bool):Nat->Nat->(Nat->Int)->List (Nat->Int)
 |0,_,m=>[m]
 |n+1,p,m=>
  if bit p=true then(df b p).flatMap λk=>if 0<p/\bit (p-1)=true/\Apart b.aL (m (p-1)) k then []else fill b bit n (p+1) (upd m p k)
  else fill b bit n (p+1) m
abbrev ptr (g:Nat):fu:=.pointer (some ⟨g,0,none⟩)
structure Dm (W0 W:nq) (b:ab) (v2 v3 v4 y:fu) (mask:Nat) (g1 g2 g3 g4 g5:Nat) (O:List Nat):Prop where
 b1:aA W g1 78 #[.int .i64 b.ak,.int .i64 b.ah,v2,v3,v4]
 b2:aA W g2 104 #[y]
 b4:aA W g4 3 #[.int .i64 mask]
 b5:aA W g5 121 #[.func (.func 140) #[] #[ptr g1,ptr g2,ptr g3,ptr g4,ptr g5]]
 n1:g1∉O
 n2:g2∉O
 n3:g3∉O
 n4:g4∉O
 n5:g5∉O
 d1:g1≠g3
 d2:g2≠g3
 d4:g4≠g3
 d5:g5≠g3
 ge:W0.heap.size<=g3
 old:Below W0.heap.size W0 W
 geO:∀k∈O,W0.heap.size<=k
def Dm.on {y:fu} {O':List Nat} (h:Dm W0 W b v2 v3 v4 y mask g1 g2 g3 g4 g5 O) (h3:g3<W.heap.size)
 (hk:aa (g3::O) W W') (hO:∀k∈O',k∈O\/W.heap.size<=k):Dm W0 W' b v2 v3 v4 y mask g1 g2 g3 g4 g5 O':=by
 have l1:=h.b1.lt;have l2:=h.b2.lt;have l4:=h.b4.lt;have l5:=h.b5.lt
 have hW:=h.old.size
 refine⟨hk.box h.b1 (by simp[h.d1,h.n1]),hk.box h.b2 (by simp[h.d2,h.n2]),hk.box h.b4 (by simp[h.d4,h.n4]),hk.box h.b5 (by simp[h.d5,h.n5]),?_,?_,?_,?_,?_,h.d1,h.d2,h.d4,h.d5,h.ge,
  h.old.trans (hk.below (λk hx=>by rcases zAL.1 hx with rfl|hx;exact h.ge;exact h.geO k hx) hW),λk hx=>(hO k hx).elim (h.geO k) (λhx=>by omega)⟩
 .intro hx;exact(hO _ hx).elim h.n1 (λhx=>by omega)
 .intro hx;exact(hO _ hx).elim h.n2 (λhx=>by omega)
 .intro hx;exact(hO _ hx).elim h.n3 (λhx=>by omega)
 .intro hx;exact(hO _ hx).elim h.n4 (λhx=>by omega)
 .intro hx;exact(hO _ hx).elim h.n5 (λhx=>by omega)
def Av (J:List (Nat->Int)->List Nat->nq->Prop) (Jx:nq->Prop) (g3:Nat) (L:List (Nat->Int)) (m:Nat->Int) (ms:List (Nat->Int)) (O:List Nat) (W:nq) (e:Ending) (W':nq):Prop:=
 (e=.returned (.bool true)/\aA W' g3 94 (bY m)/\∃O',(∀k∈O',k∈O\/W.heap.size<=k)/\J (ms++L) O' W'/\aa (g3::O) W W')\/
 (e=.returned (.bool false)/\L≠ []/\Jx W'/\aa (g3::O) W W')
abbrev Aw (W0:nq) (g1 g4 l K:Nat) (J:List (Nat->Int)->List Nat->nq->Prop) (Jx:nq->Prop):Prop:=
 Gg ZP W0.heap.size [g1,g4] l (λm=>.agg (bY m)) K J Jx
def Kg {ms:List (Nat->Int)}
 (hp:(p:Int)=b.ah) (hR:Aw W0 g1 g4 l K J Jx) (hI:Dm W0 W b v2 v3 v4 (.func (.yield l) #[] #[]) mask g1 g2 g3 g4 g5 O) (h3:aA W g3 94 (bY m)) (hJ:J ms O W) (hlen:ms.length<K):
 Calls ZP 140 #[.int .i64 p,ptr g1,ptr g2,ptr g3,ptr g4,ptr g5] W (Av J Jx g3 [m] m ms O W):=by
 obtain⟨fn,tmps,assign,body,hy,hr⟩:=hR.yield ms m O W hJ hlen;obtain⟨y0,y1⟩:=hI.b1.c2;have y2:=hI.b2.c1;obtain⟨x0,x1,x2,x3⟩:=h3.c4;simp only[bY]at hy;have HI:=hid hI;have H3:=hid h3;clear hI h3 hR;refine(callsIn_wide (n:=0)).1 ?_;refine callsIn_of_wp ZF140 rfl trivial ?_
 simp only[Tryz.ntmps140,zEY,zBU,zCC,Nat.reduceAdd,Nat.reduceSub,zEN,
  zEO,zEZ,zEU,zDW,zDG]
 gi_wp2
 refine⟨rfl,hr.mono ?_⟩;rintro e W' (⟨rfl,O',Pd,hJ',hk⟩|⟨rfl,hx,hk⟩)
 .gi_wp2
  go_ret;exact .inl ⟨rfl,hk.box H3.o HI.o.n3,O',Pd,hJ',hk.mono λx hx=>.inl (zAR _ hx)⟩
 .gi_wp2
  go_ret;exact .inr ⟨rfl,(by simp),hx,hk.mono λx hx=>.inl (zAR _ hx)⟩
def Dn:∀(mask:Fin 16) (p:Fin 4),bits BinOp.and IntKind.i64 (((mask.1:Nat):Int)/2^p.1) 1=if mask.1.testBit p.1 then 1 else 0:=by decide+kernel
def vt (hm:mask<16) (hp:p<4) (h:mask.testBit p=true):bits BinOp.and IntKind.i64 ((mask:Int)/2^p) 1=1:=by
 have:=Dn ⟨mask,hm⟩ ⟨p,hp⟩;rwa [zAF h]at this
def Ay (hm:mask<16) (hp:p<4) (h:¬mask.testBit p=true):bits BinOp.and IntKind.i64 ((mask:Int)/2^p) 1=0:=by
 have:=Dn ⟨mask,hm⟩ ⟨p,hp⟩;rwa [zAG h]at this
noncomputable abbrev cP (b:ab) (bit:Nat->Bool) (n p:Nat) (m:Nat->Int) (k:Int):List (Nat->Int):=
 open Classical in if 0<p/\bit (p-1)=true/\Apart b.aL (m (p-1)) k then []else fill b bit n (p+1) (upd m p k)
def Az (h:¬bit p=true):fill b bit (n+1) p m=fill b bit n (p+1) m:=by
 rw[fill,zAG h]
def vu (h:bit p=true):fill b bit (n+1) p m=(df b p).flatMap (cP b bit n p m):=by
 rw[fill,zAF h]
def kK {l:List Int} {f:Int->List α} (hx:l[k]?=some x):(l.take (k+1)).flatMap f=(l.take k).flatMap f++f x:=by
 rw[zBR,hx];simp
def AA {l:List Int} {f:Int->List α} (hx:l[k]?=some x) (h:f x≠ []):l.flatMap f≠ []:=λhe=>by
 rw[List.flatMap_eq_nil_iff]at he;exact h (he x (zBI hx))
def AB {l:List Int} {f:Int->List α} (hx:l[k]?=some x):((l.take k).flatMap f).length+(f x).length<=(l.flatMap f).length:=by
 have h:l=l.take (k+1)++l.drop (k+1):=(zFD _ _).symm
 have h2:(l.flatMap f).length=((l.take (k+1)).flatMap f).length+((l.drop (k+1)).flatMap f).length:=by
  conv=>lhs;rw[h]
  rw[zCR,zAZ]
 rw[kK hx,zAZ]at h2;omega
def NF
 (hb:ar W0 (.agg #[.int .i64 b.ak,.int .i64 b.ah,v2,v3,v4]) b) (hv:Valid b) (hm:mask<16) (hR:Aw W0 g1 g4 l K J Jx):
 ∀(n p:Nat),((p+n:Nat):Int)=b.ah->∀(m:Nat->Int) (ms:List (Nat->Int)) (O:List Nat) (W:nq),(∀i,p<=i->m i=0)->
  Dm W0 W b v2 v3 v4 (.func (.yield l) #[] #[]) mask g1 g2 g3 g4 g5 O->aA W g3 94 (bY m)->J ms O W->ms.length+(fill b mask.testBit n p m).length<=K->
  Calls ZP 140 #[.int .i64 p,ptr g1,ptr g2,ptr g3,ptr g4,ptr g5] W (Av J Jx g3 (fill b mask.testBit n p m) m ms O W):=by
 intro n;induction n with
 |zero=>exact λp hp m ms O W _ hI h3 hJ hlen=>Kg hp hR hI h3 hJ (by simp only[fill,zBU,zCC]at hlen;omega)
 |succ n ih=>
  intro p hp m ms O W hz hI h3 hJ hlen;have q7:=hv.ah;have Pe:p<4:=by omega
  obtain⟨-,y1⟩:=hI.b1.c2;have y4:=hI.b4.c1;have bC:¬(p:Int)=b.ah:=by omega
  have HI:=hid hI;have H3:=hid h3;have HM:Hid (b.ptz.length<=5):=hv.ptz.many.2;have HP:Hid (fQ b):=hv.gJ;have Hp:=hid hp;have iO:wrap64 ((p:Int)+1)=p+1:=by unfold wrap64;omega
  clear hI h3 q7 hv;by_cases NG:mask.testBit p=true
  .rw[vu NG]at hlen⊢;have HL:=hid hlen;clear hlen;have zf1:=vt hm Pe NG;obtain⟨z0,-,z2,z3,z4⟩:=HI.o.b1.c5;have hC:=Rn W _ b p (hb.later (Kp.of HI.o.old)) HM.o
   have IH:Hid (∀(p:Nat),((p+n:Nat):Int)=b.ah->∀(m:Nat->Int) (ms:List (Nat->Int)) (O:List Nat) (W:nq),(∀i,p<=i->m i=0)->
    Dm W0 W b v2 v3 v4 (.func (.yield l) #[] #[]) mask g1 g2 g3 g4 g5 O->aA W g3 94 (bY m)->J ms O W->ms.length+(fill b mask.testBit n p m).length<=K->
    Calls ZP 140 #[.int .i64 p,ptr g1,ptr g2,ptr g3,ptr g4,ptr g5] W (Av J Jx g3 (fill b mask.testBit n p m) m ms O W)):=ih
   have HJ:Hid (J ms O W):=hJ;have HZ:=hid hz;have HBk:=hid hb;clear ih hp hJ hz hb;go_enter ZF140,Tryz.ntmps140
   go_wp2_with(go_at_call 141
               refine hC.mono ?_;rintro e w1 ⟨⟨v,rfl,hO⟩,bq⟩;have HG:Hid (∀k,v.ownBlock=some k->W.heap.size+1<=k):=dD hO;obtain⟨a,cap,hS,hE⟩:=ao.eS hO;have HS:Hid (bT w1 v (df b p).length a cap/\_):=⟨hS,hE⟩
               have cV:=hid bq;obtain⟨rfl,l1,m1,n1,r1⟩:=hS;unfold maxLen at m1;clear hO hE n1 r1 bq)
   have HI1:Hid (Dm W0 w1 b v2 v3 v4 (.func (.yield l) #[] #[]) mask g1 g2 g3 g4 g5 O):=HI.o.on H3.o.lt (.of cV.o) (λ_ h=>.inl h);have H31:Hid (aA w1 g3 94 (bY m)):=(aa.of (O:=[]) cV.o).box H3.o (by simp);have WQ:Hid (∀o∈O,o<W.heap.size):=λo ho=>(hR.own HJ.o o ho).2.1;have HJ1:Hid (J ms O w1):=hR.stay HJ.o cV.o.size (λk hk=>cV.o.block k (WQ.o k hk));clear y1 y4 z0 z2 z3 z4
   go_loopw [31,9] (λi u wr=>∃(k:Nat) (O':List Nat) (x:Int),k<=(df b p).length/\i=.int .i64 k/\
    Hid (J (ms++((df b p).take k).flatMap (cP b mask.testBit n p m)) O' wr/\(∀o∈O',o∈O\/w1.heap.size<=o)/\aa (g3::O) w1 wr/\aA wr g3 94 (bY (upd m p x)))) (λi _ _=>(df b p).length-(intOf i).toNat)
   case atStart=>exact⟨0,O,0,zAM _,rfl,(by rw[Dl (HZ.o p (zAB _))];exact⟨by simpa using HJ1.o,λ_ h=>.inl h,aa.refl _ _,H31.o⟩:_/\_/\_/\_)⟩
   case round=>
    obtain⟨k,O',x,hk,rfl,hL⟩:=hrel;by_cases av:k<(df b p).length
    .obtain⟨⟨blk,off,sp⟩,y,rfl,hy,y0⟩:=HS.o.1.elem HS.o.2 av;obtain rfl:sp=none:=y0.1;have zmT:=HG.o blk rfl;have g0:=y0.2;simp only at g0;have XT:blk<w1.heap.size:=y0.lt
     have gy:wr.cell? ⟨blk,off+k,none⟩=some (.int .i64 y):=(hL.o.2.2.1.on (a:=⟨blk,off+k,none⟩) XT (by
      have:=H3.o.lt;simp only[zAL,not_or];exact⟨by omega,λh=>by have:=WQ.o _ h;omega⟩)).trans g0
     have HY:=hid hy;have xj:Hid (Dm W0 wr b v2 v3 v4 (.func (.yield l) #[] #[]) mask g1 g2 g3 g4 g5 O'):=HI1.o.on H31.o.lt hL.o.2.2.1 hL.o.2.1;clear y0 hy g0;by_cases hp0:0<p
     .have WV:(0:Int)<(p:Int):=by omega
      have hwm:wrap64 ((p:Int)-1)=((p-1:Nat):Int):=by unfold wrap64;omega
      have q4:=xj.o.b4.a1;by_cases WW:mask.testBit (p-1)=true
      .have zf4:=vt hm (show p-1<4 by omega) WW;obtain⟨r0,r1,r2,r3,r4⟩:=xj.o.b1.a5
       have r5:∀X:am wr,X.1.cell? ⟨g3,p-1,none⟩=some (.int .i64 (m (p-1))):=λX=>X.cell (by
        have:=hL.o.2.2.2.cell (p-1) (fR (show p-1<4 by omega) _);rwa [az _ _ (show p-1≠p by omega)]at this)
       have hj4:((p-1:Nat):Int)<4:=by omega
       have hA:∀X:am wr,Calls ZP 116 #[.agg #[.int .i64 b.ak,.int .i64 b.ah,v2,v3,v4],.int .i64 (m (p-1)),.int .i64 y] X.1 (dq X.1 λr=>Tr r (Apart b.aL (m (p-1)) y)):=λX=>
        oZ X.1 _ b _ _ (HBk.o.later (Kp.trans (Kp.of xj.o.old) X.kp xj.o.old.size)) HP.o
       by_cases tz:Apart b.aL (m (p-1)) y
       .have wD:Hid (cP b mask.testBit n p m y=[]):=zAF ⟨hp0,WW,tz⟩
        have hC2:∀X:am wr,Calls ZP 116 #[.agg #[.int .i64 b.ak,.int .i64 b.ah,v2,v3,v4],.int .i64 (m (p-1)),.int .i64 y] X.1 (λe jy=>e=.returned (.bool true)/\∃Y:am wr,jy=Y.1):=λX=>
         (hA X).mono λe w' ⟨⟨r,h1,h2⟩,h3⟩=>⟨by cases r with
           |true=>exact h1
           |false=>exact absurd tz h2.f,X.on h3⟩
        clear hA;go_wp2
        refine ap (by kernel_rfl) (by kernel_rfl) ?_;repeat(go_big_quiet_step (first|(go_at_call 116;exact hC2 _)))
        refine wpQuiet_nil ?_;rintro _ ⟨X,rfl⟩;have HX:Hid (aa (g3::O) w1 X.1):=hL.o.2.2.1.trans' (.of X.2);have Iu:Hid (Dm W0 X.1 b v2 v3 v4 (.func (.yield l) #[] #[]) mask g1 g2 g3 g4 g5 O'):=xj.o.on hL.o.2.2.2.lt (.of X.2) (λ_ h=>.inl h);have iI:Hid (aA X.1 g3 94 (bY (upd m p x))):=(aa.of (O:=[]) X.2).box hL.o.2.2.2 (by simp);have WX:Hid (J (ms++((df b p).take k).flatMap (cP b mask.testBit n p m)) O' X.1):=hR.stay hL.o.1 X.2.size (λk hk=>X.2.block k (hR.own hL.o.1 k hk).2.1);have Gi:Hid (∀o∈O',o∈O\/w1.heap.size<=o):=hL.o.2.1;clear hL xj gy;clear Iu
        have jA:Hid (J (ms++((df b p).take (k+1)).flatMap (cP b mask.testBit n p m)) O' X.1/\(∀o∈O',o∈O\/w1.heap.size<=o)/\aa (g3::O) w1 X.1/\aA X.1 g3 94 (bY (upd m p x))):=
         ⟨by rw[kK HY.o,wD.o,zCP];exact WX.o,Gi.out,HX.o,iI.o⟩
        go_wp2
        go_round
        case rel=>exact⟨k+1,O',x,by omega,by go_num,jA⟩
        case measure=>simp[intOf];omega
       .have wD:Hid (cP b mask.testBit n p m y=fill b mask.testBit n (p+1) (upd m p y)):=zAG (λh=>tz h.2.2)
        have hC2:∀X:am wr,Calls ZP 116 #[.agg #[.int .i64 b.ak,.int .i64 b.ah,v2,v3,v4],.int .i64 (m (p-1)),.int .i64 y] X.1 (λe jy=>e=.returned (.bool false)/\∃Y:am wr,jy=Y.1):=λX=>
         (hA X).mono λe w' ⟨⟨r,h1,h2⟩,h3⟩=>⟨by cases r with
           |false=>exact h1
           |true=>exact absurd h2.t tz,X.on h3⟩
        clear hA;go_wp2
        refine ap (by kernel_rfl) (by kernel_rfl) ?_;repeat(go_big_quiet_step (first|(go_at_call 116;exact hC2 _)))
        refine wpQuiet_nil ?_;rintro _ ⟨X,rfl⟩;have HX:Hid (aa (g3::O) w1 X.1):=hL.o.2.2.1.trans' (.of X.2);have Iu:Hid (Dm W0 X.1 b v2 v3 v4 (.func (.yield l) #[] #[]) mask g1 g2 g3 g4 g5 O'):=xj.o.on hL.o.2.2.2.lt (.of X.2) (λ_ h=>.inl h);have iI:Hid (aA X.1 g3 94 (bY (upd m p x))):=(aa.of (O:=[]) X.2).box hL.o.2.2.2 (by simp);have WX:Hid (J (ms++((df b p).take k).flatMap (cP b mask.testBit n p m)) O' X.1):=hR.stay hL.o.1 X.2.size (λk hk=>X.2.block k (hR.own hL.o.1 k hk).2.1);have Gi:Hid (∀o∈O',o∈O\/w1.heap.size<=o):=hL.o.2.1;clear hL xj gy;clear hC2 r0 r1 r2 r3 r4 r5 q4;have c3:X.1.cell? ⟨g3,p,none⟩=some (.int .i64 (upd m p x p)):=iI.o.cell p (fR Pe _);have f3:X.1.frozen? ⟨g3,p,none⟩=false:=iI.o.aH p;have HW:Hid (aa (g3::O') X.1 (X.1.setCell ⟨g3,p,none⟩ (.int .i64 y))):=aa.set X.1 (by simp) _;have Ua:Hid (Dm W0 (X.1.setCell ⟨g3,p,none⟩ (.int .i64 y)) b v2 v3 v4 (.func (.yield l) #[] #[]) mask g1 g2 g3 g4 g5 O'):=Iu.o.on iI.o.lt HW.o (λ_ h=>.inl h);have xk:Hid (aA (X.1.setCell ⟨g3,p,none⟩ (.int .i64 y)) g3 94 (bY (upd m p y))):=by have:=iI.o.set p (.int .i64 y);rwa [tV Pe,tU]at this
        have HJ4:Hid (J (ms++((df b p).take k).flatMap (cP b mask.testBit n p m)) O' (X.1.setCell ⟨g3,p,none⟩ (.int .i64 y))):=
         hR.stay WX.o HW.o.size (λk hk=>Below.heap_setCell _ _ _ _ (λ(e:k=g3)=>Iu.o.n3 (by rw[<-e];exact hk)))
        have c5:(X.1.setCell ⟨g3,p,none⟩ (.int .i64 y)).cell? ⟨g5,0,none⟩=some (.func (.func 140) #[] #[ptr g1,ptr g2,ptr g3,ptr g4,ptr g5]):=Ua.o.b5.cell 0 rfl
        have hN:=IH.o (p+1) (by have:=Hp.o;omega) (upd m p y) (ms++((df b p).take k).flatMap (cP b mask.testBit n p m)) O' (X.1.setCell ⟨g3,p,none⟩ (.int .i64 y))
         (λi hi=>by rw[az _ _ (by omega)];exact HZ.o i (by omega)) Ua.o xk.o HJ4.o (by have h1:=HL.o;have h2:=AB (f:=cP b mask.testBit n p m) HY.o;rw[wD.o]at h2;rw[zAZ];omega)
        rw[show((p+1:Nat):Int)=(p:Int)+1 by omega]at hN
        have NH:Hid (∀o∈g3::O',o∈g3::O\/w1.heap.size<=o):=λo ho=>by
         rcases zAL.1 ho with rfl|ho
         .exact .inl (by simp)
         .exact(Gi.out o ho).imp (zAR _) id
        have NI:Hid (aa (g3::O) w1 (X.1.setCell ⟨g3,p,none⟩ (.int .i64 y))):=HX.o.trans HW.o NH.o;go_wp2_with(go_at_call 140;refine hN.mono ?_;rintro e w2 (⟨rfl,Pb,O2,vr,Iv,tW⟩|⟨rfl,Rq,Rr,tW⟩))
        .have jA:Hid (J (ms++((df b p).take (k+1)).flatMap (cP b mask.testBit n p m)) O2 w2/\(∀o∈O2,o∈O\/w1.heap.size<=o)/\aa (g3::O) w1 w2/\aA w2 g3 94 (bY (upd m p y))):=
          ⟨by rw[kK HY.o,<-zDK,wD.o];exact Iv,(λo ho=>(vr o ho).elim (Gi.out o) (λh=>.inr (zAP NI.o.size h))),NI.o.trans tW NH.o,Pb⟩
         clear Pb vr Iv tW;go_round
         case rel=>exact⟨k+1,O2,y,by omega,by go_num,jA⟩
         case measure=>simp[intOf];omega
        .go_ret;exact .inr ⟨rfl,AA HY.o (by rw[wD.o];exact Rq),Rr,(aa.of cV.o).trans (NI.o.trans tW NH.o) (λ_=>.inl)⟩
      .have zf4:=Ay hm (show p-1<4 by omega) WW;have wD:Hid (cP b mask.testBit n p m y=fill b mask.testBit n (p+1) (upd m p y)):=zAG (λh=>WW h.2.1);go_wp2
       refine ap (by kernel_rfl) (by kernel_rfl) ?_;repeat(go_big_quiet_step (fail))
       refine wpQuiet_nil ?_;rintro _ ⟨X,rfl⟩;have HX:Hid (aa (g3::O) w1 X.1):=hL.o.2.2.1.trans' (.of X.2);have Iu:Hid (Dm W0 X.1 b v2 v3 v4 (.func (.yield l) #[] #[]) mask g1 g2 g3 g4 g5 O'):=xj.o.on hL.o.2.2.2.lt (.of X.2) (λ_ h=>.inl h);have iI:Hid (aA X.1 g3 94 (bY (upd m p x))):=(aa.of (O:=[]) X.2).box hL.o.2.2.2 (by simp);have WX:Hid (J (ms++((df b p).take k).flatMap (cP b mask.testBit n p m)) O' X.1):=hR.stay hL.o.1 X.2.size (λk hk=>X.2.block k (hR.own hL.o.1 k hk).2.1);have Gi:Hid (∀o∈O',o∈O\/w1.heap.size<=o):=hL.o.2.1;clear hL xj gy;clear q4;have c3:X.1.cell? ⟨g3,p,none⟩=some (.int .i64 (upd m p x p)):=iI.o.cell p (fR Pe _);have f3:X.1.frozen? ⟨g3,p,none⟩=false:=iI.o.aH p;have HW:Hid (aa (g3::O') X.1 (X.1.setCell ⟨g3,p,none⟩ (.int .i64 y))):=aa.set X.1 (by simp) _;have Ua:Hid (Dm W0 (X.1.setCell ⟨g3,p,none⟩ (.int .i64 y)) b v2 v3 v4 (.func (.yield l) #[] #[]) mask g1 g2 g3 g4 g5 O'):=Iu.o.on iI.o.lt HW.o (λ_ h=>.inl h);have xk:Hid (aA (X.1.setCell ⟨g3,p,none⟩ (.int .i64 y)) g3 94 (bY (upd m p y))):=by have:=iI.o.set p (.int .i64 y);rwa [tV Pe,tU]at this
       have HJ4:Hid (J (ms++((df b p).take k).flatMap (cP b mask.testBit n p m)) O' (X.1.setCell ⟨g3,p,none⟩ (.int .i64 y))):=
        hR.stay WX.o HW.o.size (λk hk=>Below.heap_setCell _ _ _ _ (λ(e:k=g3)=>Iu.o.n3 (by rw[<-e];exact hk)))
       have c5:(X.1.setCell ⟨g3,p,none⟩ (.int .i64 y)).cell? ⟨g5,0,none⟩=some (.func (.func 140) #[] #[ptr g1,ptr g2,ptr g3,ptr g4,ptr g5]):=Ua.o.b5.cell 0 rfl
       have hN:=IH.o (p+1) (by have:=Hp.o;omega) (upd m p y) (ms++((df b p).take k).flatMap (cP b mask.testBit n p m)) O' (X.1.setCell ⟨g3,p,none⟩ (.int .i64 y))
        (λi hi=>by rw[az _ _ (by omega)];exact HZ.o i (by omega)) Ua.o xk.o HJ4.o (by have h1:=HL.o;have h2:=AB (f:=cP b mask.testBit n p m) HY.o;rw[wD.o]at h2;rw[zAZ];omega)
       rw[show((p+1:Nat):Int)=(p:Int)+1 by omega]at hN
       have NH:Hid (∀o∈g3::O',o∈g3::O\/w1.heap.size<=o):=λo ho=>by
        rcases zAL.1 ho with rfl|ho
        .exact .inl (by simp)
        .exact(Gi.out o ho).imp (zAR _) id
       have NI:Hid (aa (g3::O) w1 (X.1.setCell ⟨g3,p,none⟩ (.int .i64 y))):=HX.o.trans HW.o NH.o;go_wp2_with(go_at_call 140;refine hN.mono ?_;rintro e w2 (⟨rfl,Pb,O2,vr,Iv,tW⟩|⟨rfl,Rq,Rr,tW⟩))
       .have jA:Hid (J (ms++((df b p).take (k+1)).flatMap (cP b mask.testBit n p m)) O2 w2/\(∀o∈O2,o∈O\/w1.heap.size<=o)/\aa (g3::O) w1 w2/\aA w2 g3 94 (bY (upd m p y))):=
         ⟨by rw[kK HY.o,<-zDK,wD.o];exact Iv,(λo ho=>(vr o ho).elim (Gi.out o) (λh=>.inr (zAP NI.o.size h))),NI.o.trans tW NH.o,Pb⟩
        clear Pb vr Iv tW;go_round
        case rel=>exact⟨k+1,O2,y,by omega,by go_num,jA⟩
        case measure=>simp[intOf];omega
       .go_ret;exact .inr ⟨rfl,AA HY.o (by rw[wD.o];exact Rq),Rr,(aa.of cV.o).trans (NI.o.trans tW NH.o) (λ_=>.inl)⟩
     .have WV:¬(0:Int)<(p:Int):=by omega
      have wD:Hid (cP b mask.testBit n p m y=fill b mask.testBit n (p+1) (upd m p y)):=zAG (λh=>hp0 h.1);go_wp2
      refine ap (by kernel_rfl) (by kernel_rfl) ?_;repeat(go_big_quiet_step (fail))
      refine wpQuiet_nil ?_;rintro _ ⟨X,rfl⟩;have HX:Hid (aa (g3::O) w1 X.1):=hL.o.2.2.1.trans' (.of X.2);have Iu:Hid (Dm W0 X.1 b v2 v3 v4 (.func (.yield l) #[] #[]) mask g1 g2 g3 g4 g5 O'):=xj.o.on hL.o.2.2.2.lt (.of X.2) (λ_ h=>.inl h);have iI:Hid (aA X.1 g3 94 (bY (upd m p x))):=(aa.of (O:=[]) X.2).box hL.o.2.2.2 (by simp);have WX:Hid (J (ms++((df b p).take k).flatMap (cP b mask.testBit n p m)) O' X.1):=hR.stay hL.o.1 X.2.size (λk hk=>X.2.block k (hR.own hL.o.1 k hk).2.1);have Gi:Hid (∀o∈O',o∈O\/w1.heap.size<=o):=hL.o.2.1;clear hL xj gy;have c3:X.1.cell? ⟨g3,p,none⟩=some (.int .i64 (upd m p x p)):=iI.o.cell p (fR Pe _);have f3:X.1.frozen? ⟨g3,p,none⟩=false:=iI.o.aH p;have HW:Hid (aa (g3::O') X.1 (X.1.setCell ⟨g3,p,none⟩ (.int .i64 y))):=aa.set X.1 (by simp) _;have Ua:Hid (Dm W0 (X.1.setCell ⟨g3,p,none⟩ (.int .i64 y)) b v2 v3 v4 (.func (.yield l) #[] #[]) mask g1 g2 g3 g4 g5 O'):=Iu.o.on iI.o.lt HW.o (λ_ h=>.inl h);have xk:Hid (aA (X.1.setCell ⟨g3,p,none⟩ (.int .i64 y)) g3 94 (bY (upd m p y))):=by have:=iI.o.set p (.int .i64 y);rwa [tV Pe,tU]at this
      have HJ4:Hid (J (ms++((df b p).take k).flatMap (cP b mask.testBit n p m)) O' (X.1.setCell ⟨g3,p,none⟩ (.int .i64 y))):=
       hR.stay WX.o HW.o.size (λk hk=>Below.heap_setCell _ _ _ _ (λ(e:k=g3)=>Iu.o.n3 (by rw[<-e];exact hk)))
      have c5:(X.1.setCell ⟨g3,p,none⟩ (.int .i64 y)).cell? ⟨g5,0,none⟩=some (.func (.func 140) #[] #[ptr g1,ptr g2,ptr g3,ptr g4,ptr g5]):=Ua.o.b5.cell 0 rfl
      have hN:=IH.o (p+1) (by have:=Hp.o;omega) (upd m p y) (ms++((df b p).take k).flatMap (cP b mask.testBit n p m)) O' (X.1.setCell ⟨g3,p,none⟩ (.int .i64 y))
       (λi hi=>by rw[az _ _ (by omega)];exact HZ.o i (by omega)) Ua.o xk.o HJ4.o (by have h1:=HL.o;have h2:=AB (f:=cP b mask.testBit n p m) HY.o;rw[wD.o]at h2;rw[zAZ];omega)
      rw[show((p+1:Nat):Int)=(p:Int)+1 by omega]at hN
      have NH:Hid (∀o∈g3::O',o∈g3::O\/w1.heap.size<=o):=λo ho=>by
       rcases zAL.1 ho with rfl|ho
       .exact .inl (by simp)
       .exact(Gi.out o ho).imp (zAR _) id
      have NI:Hid (aa (g3::O) w1 (X.1.setCell ⟨g3,p,none⟩ (.int .i64 y))):=HX.o.trans HW.o NH.o;go_wp2_with(go_at_call 140;refine hN.mono ?_;rintro e w2 (⟨rfl,Pb,O2,vr,Iv,tW⟩|⟨rfl,Rq,Rr,tW⟩))
      .have jA:Hid (J (ms++((df b p).take (k+1)).flatMap (cP b mask.testBit n p m)) O2 w2/\(∀o∈O2,o∈O\/w1.heap.size<=o)/\aa (g3::O) w1 w2/\aA w2 g3 94 (bY (upd m p y))):=
        ⟨by rw[kK HY.o,<-zDK,wD.o];exact Iv,(λo ho=>(vr o ho).elim (Gi.out o) (λh=>.inr (zAP NI.o.size h))),NI.o.trans tW NH.o,Pb⟩
       clear Pb vr Iv tW;go_round
       case rel=>exact⟨k+1,O2,y,by omega,by go_num,jA⟩
       case measure=>simp[intOf];omega
      .go_ret;exact .inr ⟨rfl,AA HY.o (by rw[wD.o];exact Rq),Rr,(aa.of cV.o).trans (NI.o.trans tW NH.o) (λ_=>.inl)⟩
    .have e:k=(df b p).length:=by omega
     subst e;have c3:wr.cell? ⟨g3,p,none⟩=some (.int .i64 (upd m p x p)):=hL.o.2.2.2.cell p (fR Pe _);have f3:wr.frozen? ⟨g3,p,none⟩=false:=hL.o.2.2.2.aH p;have xj:Hid (Dm W0 wr b v2 v3 v4 (.func (.yield l) #[] #[]) mask g1 g2 g3 g4 g5 O'):=HI1.o.on H31.o.lt hL.o.2.2.1 hL.o.2.1;go_wp2
     go_ret;have hW:aa (g3::O') wr (wr.setCell ⟨g3,p,none⟩ (.int .i64 0)):=aa.set wr (by simp) _;have Pd:=hL.o.2.1;have hs:=cV.o.size;refine .inl ⟨rfl,?_,O',(λo ho=>(Pd o ho).imp id (λh=>by omega)),?_,?_⟩
     .have:=hL.o.2.2.2.set p (.int .i64 0);rwa [tV Pe,tU,Dl (HZ.o p (zAB _))]at this
     .refine hR.stay ?_ hW.size (λk hk=>Below.heap_setCell _ _ _ _ (λ(e:k=g3)=>xj.o.n3 (by rw[<-e];exact hk)));have:=hL.o.1;rwa [zCU]at this
     .refine(aa.of cV.o).trans (hL.o.2.2.1.trans hW λo ho=>?_) (λ_=>.inl);rcases zAL.1 ho with rfl|ho
      .exact .inl (by simp)
      .exact(Pd o ho).imp (zAR _) id
  .rw[Az NG]at hlen⊢;have zf1:=Ay hm Pe NG;have y5:=HI.o.b5.c1;have hC:=ih (p+1) (by omega) m ms O W (λi hi=>hz i (by omega)) HI.o H3.o hJ hlen;rw[show((p+1:Nat):Int)=(p:Int)+1 by omega]at hC;clear ih hp;go_enter ZF140,Tryz.ntmps140
   go_wp2_with(go_at_call 140;refine hC.mono ?_;rintro e w1 (⟨rfl,hx⟩|⟨rfl,hx⟩))
   .go_ret;exact .inl ⟨rfl,hx⟩
   .go_ret;exact .inr ⟨rfl,hx⟩
def aa.cU (h:aa O W W') (o:Obj):aa O W (W'.alloc o):=h.trans (aa.alloc [] W' o) (λ_ h=>by cases h)
def Do {N:Nat}
 (hb:ar W0 (.agg #[.int .i64 b.ak,.int .i64 b.ah,v2,v3,v4]) b) (hv:Valid b) (hm:mask<16) (hN:(N:Int)=b.ah) (hR:Aw W0 g1 g4 l K J Jx)
 (h1:aA W g1 78 #[.int .i64 b.ak,.int .i64 b.ah,v2,v3,v4]) (h4:aA W g4 3 #[.int .i64 mask]) (hold:Below W0.heap.size W0 W) (hJ:J [] O W) (hlen:(fill b mask.testBit N 0 (λ_=>0)).length<=K):
 Calls ZP 139 #[.func (.yield l) #[] #[],ptr g1,ptr g4] W (Gh J Jx (fill b mask.testBit N 0 (λ_=>0)) O W):=by
 obtain⟨A1,bh⟩:=ex1 (W.alloc (.cells #[.func (.yield l) #[] #[]] 104));obtain⟨A2,bL⟩:=ex1 (A1.alloc (.cells #[.int .i64 0,.int .i64 0,.int .i64 0,.int .i64 0] 94));obtain⟨A3,gP⟩:=ex1 (A2.alloc (.cells #[.nilFunc] 121));have eL:=snew bh;have j8:=snew2 bL eL;have zH:=snew2 gP j8
 have b2:aA A3 W.heap.size 104 #[.func (.yield l) #[] #[]]:=by
  rw[<-gP];refine(aa.alloc [] _ _).box ?_ (by simp);rw[<-bL];refine(aa.alloc [] _ _).box ?_ (by simp);rw[<-bh];exact aA.new _ _ _
 have b3:aA A3 (W.heap.size+1) 94 (bY λ_=>0):=by
  rw[<-gP];refine(aa.alloc [] _ _).box ?_ (by simp);rw[<-bL,<-eL];exact aA.new _ _ _
 have b5:=(bnew2 gP j8).o;have mi:aa [] W A3:=by rw[<-gP,<-bL,<-bh];exact((aa.alloc _ _ _).cU _).cU _
 obtain⟨F,hF⟩:∃F:fu,.func (.func 140) #[] #[ptr g1,ptr W.heap.size,ptr (W.heap.size+1),ptr g4,ptr (W.heap.size+1+1)]=F:=⟨_,rfl⟩
 obtain⟨A4,pA⟩:=ex1 (A3.setCell ⟨W.heap.size+1+1,0,none⟩ F);have mw:aa [W.heap.size+1+1] A3 A4:=by rw[<-pA];exact aa.set A3 (by simp) _
 have WY:aA A4 (W.heap.size+1+1) 121 #[F]:=by rw[<-pA];exact b5.set 0 F
 have hO:∀k∈O,W0.heap.size<=k/\k<W.heap.size/\k∉ [g1,g4]:=λk hk=>hR.own hJ k hk;have hk:aa [] W A4:=mi.trans mw (by simp;omega);have CO:=h1.lt;have zf5:=h4.lt;have cr:=hold.size
 have hI:Dm W0 A4 b v2 v3 v4 (.func (.yield l) #[] #[]) mask g1 W.heap.size (W.heap.size+1) g4 (W.heap.size+1+1) O:=by
  refine⟨hk.box h1 (by simp),mw.box b2 (by simp;omega),hk.box h4 (by simp),by rw[hF];exact WY,?_,?_,?_,?_,?_,by omega,by omega,by omega,by omega,by omega,hold.trans (hk.below (by simp) cr),λk hx=>(hO k hx).1⟩
  .intro hx;exact(hO _ hx).2.2 (by simp)
  .intro hx;have:=(hO _ hx).2.1;omega
  .intro hx;have:=(hO _ hx).2.1;omega
  .intro hx;exact(hO _ hx).2.2 (by simp)
  .intro hx;have:=(hO _ hx).2.1;omega
 have hJ4:J [] O A4:=hR.stay hJ hk.size (λk hx=>hk.block k (hO k hx).2.1 (by simp));have hC:=NF hb hv hm hR N 0 (by omega) (λ_=>0) [] O A4 (λ_ _=>rfl) hI (mw.box b3 (by simp)) hJ4 (by simpa using hlen);have c5:=b5.c1;have f5:A3.frozen? ⟨W.heap.size+1+1,0,none⟩=false:=b5.aH 0;have c6:=WY.c1;have HK:=hid hk;rw[<-hF]at c6;clear hlen hI hJ4 hb hv hR h1 h4 hold hJ b2 b3 b5 WY mi mw hk CO zf5 cr hO;subst hF;have cu:∀(a:Addr) (f:Fn) (x y:Array fu) (w:nq),(store a (.func f x y) .plain).run ZP w=stored ZP w a (.func f x y) .plain:=λa f x y w=>run_store ZP w a _ _ rfl;go_enter ZF139,Tryz.ntmps139
 go_wp2_with(go_at_call 140;refine hC.mono ?_;rintro e w1 (⟨rfl,hB,O2,vr,Iv,tW⟩|⟨rfl,Rq,Rr,tW⟩))
 .go_end0
  refine⟨⟨_,rfl⟩,.inl ⟨O2,(λk hk=>(vr k hk).imp id (λh=>zAP HK.o.size h)),Iv,(HK.o.mono (O':=O) (by simp)).trans tW λx hx=>?_⟩⟩;rcases zAL.1 hx with rfl|hx
  .exact .inr (by omega)
  .exact .inl hx
 .go_end0
  refine⟨⟨_,rfl⟩,.inr ⟨Rq,Rr,(HK.o.mono (O':=O) (by simp)).trans tW λx hx=>?_⟩⟩;rcases zAL.1 hx with rfl|hx
  .exact .inr (by omega)
  .exact .inl hx
def zf6 (w:nq) (b:ab) (v2 v3 v4:fu) (mask:Nat) (e:Ending) (w':nq):Prop:=
 e=.returned (.func (.func 139) #[] #[ptr w.heap.size,ptr (w.heap.size+1)])/\w'=(w.alloc (.cells #[.int .i64 b.ak,.int .i64 b.ah,v2,v3,v4] 78)).alloc (.cells #[.int .i64 mask] 3)
def vv (w:nq) (b:ab) (v2 v3 v4:fu) (mask:Nat):Calls ZP 126 #[.agg #[.int .i64 b.ak,.int .i64 b.ah,v2,v3,v4],.int .i64 mask] w (zf6 w b v2 v3 v4 mask):=by
 go_enter ZF126,Tryz.ntmps126
 go_wp2
 go_ret;exact⟨rfl,rfl⟩
end Go.Proofs.Cz
