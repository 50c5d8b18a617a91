/- A part. Conditions: none. -/
import Derived.Test.YtehbindidbgacaaGreatDoorT27
import Derived.RangeFuncNested
import Derived.RangeFuncBound
import Derived.RangeFuncCalls
import Derived.RangeFuncLeaves
import Derived.Shelf.Abstract
import Derived.Shelf.RegionOpen
import Derived.OwnWalkIn
import Derived.TacticsInMore
import Derived.LoopNIn
import Derived.LoopIn
set_option linter.all false
set_option maxHeartbeats 8000000
set_option maxRecDepth 100000
namespace Go.Proofs.Cz
open Go.RowKit
variable {J:List (Nat->Int)->List Nat->World->Prop} {Jx:World->Prop} {K g1 g2 g3 g4 g5 k l mask n p:Nat} {O:List Nat} {W W' W0:World} {b:ap} {bit:Nat->Bool} {m:Nat->Int} {v2 v3 v4:Value} {x:Int} {α:Type}
attribute [local go_sem] Oper.semAt_some
def upd (m:Nat->Int) (p:Nat) (k:Int):Nat->Int:=λi=>if i=p then k else m i
theorem gW (m:Nat->Int) (p:Nat) (k:Int):upd m p k p=k:=by simp[upd]
theorem bS (m:Nat->Int) {i:Nat} (k:Int) (h:i≠p):upd m p k i=m i:=by simp[upd,h]
theorem rN (m:Nat->Int) (p:Nat) (x k:Int):upd (upd m p x) p k=upd m p k:=by funext i;unfold upd;split<;>rfl
theorem AC (h:m p=0):upd m p 0=m:=by funext i;unfold upd;split<;>simp_all
def bP (m:Nat->Int):Array Value:=#[.int .i64 (m 0),.int .i64 (m 1),.int .i64 (m 2),.int .i64 (m 3)]
theorem rO (hp:p<4) (m:Nat->Int) (k:Int):(bP m).setIfInBounds p (.int .i64 k)=bP (upd m p k):=by
 match p,hp with
 |0,_=>simp[bP,upd]
 |1,_=>simp[bP,upd]
 |2,_=>simp[bP,upd]
 |3,_=>simp[bP,upd]
theorem gR (hp:p<4) (m:Nat->Int):(bP m)[p]?=some (.int .i64 (m p)):=by
 match p,hp with
 |0,_=>rfl
 |1,_=>rfl
 |2,_=>rfl
 |3,_=>rfl
open Classical in
noncomputable def fill (b:ap) (bit:Nat->Bool):Nat->Nat->(Nat->Int)->List (Nat->Int)
 |0,_,m=>[m]
 |n+1,p,m=>
  if bit p=true then(db b p).flatMap λk=>if 0<p/\bit (p-1)=true/\Apart b.apart (m (p-1)) k then []else fill b bit n (p+1) (upd m p k)
  else fill b bit n (p+1) m
abbrev ptr (g:Nat):Value:=.pointer (some ⟨g,0,none⟩)
structure AD (W0 W:World) (b:ap) (v2 v3 v4 y:Value) (mask:Nat) (g1 g2 g3 g4 g5:Nat) (O:List Nat):Prop where
 b1:aA W g1 84 #[.int .i64 b.ac,.int .i64 b.places,v2,v3,v4]
 b2:aA W g2 118 #[y]
 b4:aA W g4 3 #[.int .i64 mask]
 b5:aA W g5 91 #[.func (.func 126) #[] #[ptr g1,ptr g2,ptr g3,ptr g4,ptr g5]]
 n1:g1∉O
 n2:g2∉O
 n3:g3∉O
 n4:g4∉O
 n5:g5∉O
 d1:g1≠g3
 d2:g2≠g3
 d4:g4≠g3
 d5:g5≠g3
 ge:W0.heap.size<=g3
 old:Below W0.heap.size W0 W
 XD:∀k∈O,W0.heap.size<=k
theorem AD.on {y:Value} {O':List Nat} (h:AD W0 W b v2 v3 v4 y mask g1 g2 g3 g4 g5 O) (h3:g3<W.heap.size)
 (hk:ab (g3::O) W W') (hO:∀k∈O',k∈O\/W.heap.size<=k):AD W0 W' b v2 v3 v4 y mask g1 g2 g3 g4 g5 O':=by
 have l1:=h.b1.lt;have l2:=h.b2.lt;have l4:=h.b4.lt;have l5:=h.b5.lt
 have hW:=h.old.size
 refine⟨hk.box h.b1 (by simp[h.d1,h.n1]),hk.box h.b2 (by simp[h.d2,h.n2]),hk.box h.b4 (by simp[h.d4,h.n4]),hk.box h.b5 (by simp[h.d5,h.n5]),?_,?_,?_,?_,?_,h.d1,h.d2,h.d4,h.d5,h.ge,
  h.old.trans (hk.below (λk hx=>by rcases zAS.1 hx with rfl|hx;exact h.ge;exact h.XD k hx) hW),λk hx=>(hO k hx).elim (h.XD k) (λhx=>by omega)⟩
 .intro hx;exact(hO _ hx).elim h.n1 (λhx=>by omega)
 .intro hx;exact(hO _ hx).elim h.n2 (λhx=>by omega)
 .intro hx;exact(hO _ hx).elim h.n3 (λhx=>by omega)
 .intro hx;exact(hO _ hx).elim h.n4 (λhx=>by omega)
 .intro hx;exact(hO _ hx).elim h.n5 (λhx=>by omega)
def xW (J:List (Nat->Int)->List Nat->World->Prop) (Jx:World->Prop) (g3:Nat) (L:List (Nat->Int)) (m:Nat->Int) (ms:List (Nat->Int)) (O:List Nat) (W:World) (e:Ending) (W':World):Prop:=
 (e=.returned (.bool true)/\aA W' g3 107 (bP m)/\∃O',(∀k∈O',k∈O\/W.heap.size<=k)/\J (ms++L) O' W'/\ab (g3::O) W W')\/
 (e=.returned (.bool false)/\L≠ []/\Jx W'/\ab (g3::O) W W')
abbrev xX (W0:World) (g1 g4 l K:Nat) (J:List (Nat->Int)->List Nat->World->Prop) (Jx:World->Prop):Prop:=
 Du ZP W0.heap.size [g1,g4] l (λm=>.agg (bP m)) K J Jx
theorem GN {ms:List (Nat->Int)}
 (hp:(p:Int)=b.places) (hR:xX W0 g1 g4 l K J Jx) (hI:AD W0 W b v2 v3 v4 (.func (.yield l) #[] #[]) mask g1 g2 g3 g4 g5 O) (h3:aA W g3 107 (bP m)) (hJ:J ms O W) (hlen:ms.length<K):
 Calls ZP 126 #[.int .i64 p,ptr g1,ptr g2,ptr g3,ptr g4,ptr g5] W (xW J Jx g3 [m] m ms O W):=by
 obtain⟨fn,tmps,assign,body,hy,hr⟩:=hR.yield ms m O W hJ hlen;obtain⟨y0,y1⟩:=hI.b1.c2;have y2:=hI.b2.c1;obtain⟨x0,x1,x2,x3⟩:=h3.c4;simp only[bP]at hy;have HI:=hid hI;have H3:=hid h3;clear hI h3 hR;refine(callsIn_wide (n:=0)).1 ?_;refine callsIn_of_wp ZF126 rfl trivial ?_
 simp only[Tryz.ntmps126,zFQ,zBS,zCO,Nat.reduceAdd,Nat.reduceSub,zEZ,
  zFA,zFR,zFG,zDS,zDW]
 gi_wp2
 refine⟨rfl,hr.mono ?_⟩;rintro e W' (⟨rfl,O',Of,hJ',hk⟩|⟨rfl,hx,hk⟩)
 .gi_wp2
  go_ret;exact .inl ⟨rfl,hk.box H3.o HI.o.n3,O',Of,hJ',hk.mono λx hx=>.inl (zBH _ hx)⟩
 .gi_wp2
  go_ret;exact .inr ⟨rfl,(by simp),hx,hk.mono λx hx=>.inl (zBH _ hx)⟩
theorem AE:∀(mask:Fin 16) (p:Fin 4),bits BinOp.and IntKind.i64 (((mask.1:Nat):Int)/2^p.1) 1=if mask.1.testBit p.1 then 1 else 0:=by decide+kernel
theorem AF (hm:mask<16) (hp:p<4) (h:mask.testBit p=true):bits BinOp.and IntKind.i64 ((mask:Int)/2^p) 1=1:=by
 have:=AE ⟨mask,hm⟩ ⟨p,hp⟩;rwa [zAI h]at this
theorem E6 (hm:mask<16) (hp:p<4) (h:¬mask.testBit p=true):bits BinOp.and IntKind.i64 ((mask:Int)/2^p) 1=0:=by
 have:=AE ⟨mask,hm⟩ ⟨p,hp⟩;rwa [zAH h]at this
noncomputable abbrev cw (b:ap) (bit:Nat->Bool) (n p:Nat) (m:Nat->Int) (k:Int):List (Nat->Int):=
 open Classical in if 0<p/\bit (p-1)=true/\Apart b.apart (m (p-1)) k then []else fill b bit n (p+1) (upd m p k)
theorem xY (h:¬bit p=true):fill b bit (n+1) p m=fill b bit n (p+1) m:=by
 rw[fill,zAH h]
theorem ti (h:bit p=true):fill b bit (n+1) p m=(db b p).flatMap (cw b bit n p m):=by
 rw[fill,zAI h]
theorem j7 {l:List Int} {f:Int->List α} (hx:l[k]?=some x):(l.take (k+1)).flatMap f=(l.take k).flatMap f++f x:=by
 rw[zCA,hx];simp
theorem xZ {l:List Int} {f:Int->List α} (hx:l[k]?=some x) (h:f x≠ []):l.flatMap f≠ []:=λhe=>by
 rw[zFP]at he;exact h (he x (zAX hx))
theorem x9 {l:List Int} {f:Int->List α} (hx:l[k]?=some x):((l.take k).flatMap f).length+(f x).length<=(l.flatMap f).length:=by
 have h:l=l.take (k+1)++l.drop (k+1):=(zEW _ _).symm
 have h2:(l.flatMap f).length=((l.take (k+1)).flatMap f).length+((l.drop (k+1)).flatMap f).length:=by
  conv=>lhs;rw[h]
  rw[zCJ,zBA]
 rw[j7 hx,zBA]at h2;omega
theorem KA
 (hb:ar W0 (.agg #[.int .i64 b.ac,.int .i64 b.places,v2,v3,v4]) b) (hv:Valid b) (hm:mask<16) (hR:xX W0 g1 g4 l K J Jx):
 ∀(n p:Nat),((p+n:Nat):Int)=b.places->∀(m:Nat->Int) (ms:List (Nat->Int)) (O:List Nat) (W:World),(∀i,p<=i->m i=0)->
  AD W0 W b v2 v3 v4 (.func (.yield l) #[] #[]) mask g1 g2 g3 g4 g5 O->aA W g3 107 (bP m)->J ms O W->ms.length+(fill b mask.testBit n p m).length<=K->
  Calls ZP 126 #[.int .i64 p,ptr g1,ptr g2,ptr g3,ptr g4,ptr g5] W (xW J Jx g3 (fill b mask.testBit n p m) m ms O W):=by
 intro n;induction n with
 |zero=>exact λp hp m ms O W _ hI h3 hJ hlen=>GN hp hR hI h3 hJ (by simp only[fill,zBS,zCO]at hlen;omega)
 |succ n ih=>
  intro p hp m ms O W hz hI h3 hJ hlen;have wI:=hv.places;have Il:p<4:=by omega
  obtain⟨-,y1⟩:=hI.b1.c2;have y4:=hI.b4.c1;have bE:¬(p:Int)=b.places:=by omega
  have HI:=hid hI;have H3:=hid h3;have HM:Hid (b.parts.length<=5):=hv.parts.many.2;have HP:Hid (fy b):=hv.iq;have Hp:=hid hp;have jJ:wrap64 ((p:Int)+1)=p+1:=by unfold wrap64;omega
  clear hI h3 wI hv;by_cases Z9:mask.testBit p=true
  .rw[ti Z9]at hlen⊢;have HL:=hid hlen;clear hlen;have zdg:=AF hm Il Z9;obtain⟨z0,-,z2,z3,z4⟩:=HI.o.b1.c5;have hC:=Oc W _ b p (hb.later (Kp.of HI.o.old)) HM.o
   have IH:Hid (∀(p:Nat),((p+n:Nat):Int)=b.places->∀(m:Nat->Int) (ms:List (Nat->Int)) (O:List Nat) (W:World),(∀i,p<=i->m i=0)->
    AD W0 W b v2 v3 v4 (.func (.yield l) #[] #[]) mask g1 g2 g3 g4 g5 O->aA W g3 107 (bP m)->J ms O W->ms.length+(fill b mask.testBit n p m).length<=K->
    Calls ZP 126 #[.int .i64 p,ptr g1,ptr g2,ptr g3,ptr g4,ptr g5] W (xW J Jx g3 (fill b mask.testBit n p m) m ms O W)):=ih
   have HJ:Hid (J ms O W):=hJ;have HZ:=hid hz;have HBk:=hid hb;clear ih hp hJ hz hb;go_enter ZF126,Tryz.ntmps126
   go_wp2_with(go_at_call 127
               refine hC.mono ?_;rintro e w1 ⟨⟨v,rfl,hO⟩,bi⟩;have HG:Hid (∀k,v.ownBlock=some k->W.heap.size+1<=k):=oQ hO;obtain⟨a,cap,hS,hE⟩:=am.eD hO;have HS:Hid (bA w1 v (db b p).length a cap/\_):=⟨hS,hE⟩
               have dh:=hid bi;obtain⟨rfl,l1,m1,n1,r1⟩:=hS;unfold maxLen at m1;clear hO hE n1 r1 bi)
   have XE:Hid (AD W0 w1 b v2 v3 v4 (.func (.yield l) #[] #[]) mask g1 g2 g3 g4 g5 O):=HI.o.on H3.o.lt (.of dh.o) (λ_ h=>.inl h);have H31:Hid (aA w1 g3 107 (bP m)):=(ab.of (O:=[]) dh.o).box H3.o (by simp);have Th:Hid (∀o∈O,o<W.heap.size):=λo ho=>(hR.own HJ.o o ho).2.1;have HJ1:Hid (J ms O w1):=hR.stay HJ.o dh.o.size (λk hk=>dh.o.block k (Th.o k hk));clear y1 y4 z0 z2 z3 z4
   go_loopw [31,9] (λi u wr=>∃(k:Nat) (O':List Nat) (x:Int),k<=(db b p).length/\i=.int .i64 k/\
    Hid (J (ms++((db b p).take k).flatMap (cw b mask.testBit n p m)) O' wr/\(∀o∈O',o∈O\/w1.heap.size<=o)/\ab (g3::O) w1 wr/\aA wr g3 107 (bP (upd m p x)))) (λi _ _=>(db b p).length-(intOf i).toNat)
   case atStart=>exact⟨0,O,0,zAR _,rfl,(by rw[AC (HZ.o p (zAC _))];exact⟨by simpa using HJ1.o,λ_ h=>.inl h,ab.refl _ _,H31.o⟩:_/\_/\_/\_)⟩
   case round=>
    obtain⟨k,O',x,hk,rfl,hL⟩:=hrel;by_cases az:k<(db b p).length
    .obtain⟨⟨blk,off,sp⟩,y,rfl,hy,y0⟩:=HS.o.1.elem HS.o.2 az;obtain rfl:sp=none:=y0.1;have zjP:=HG.o blk rfl;have g0:=y0.2;simp only at g0;have LU:blk<w1.heap.size:=y0.lt
     have gy:wr.cell? ⟨blk,off+k,none⟩=some (.int .i64 y):=(hL.o.2.2.1.on (a:=⟨blk,off+k,none⟩) LU (by
      have:=H3.o.lt;simp only[zAS,not_or];exact⟨by omega,λh=>by have:=Th.o _ h;omega⟩)).trans g0
     have HY:=hid hy;have E7:Hid (AD W0 wr b v2 v3 v4 (.func (.yield l) #[] #[]) mask g1 g2 g3 g4 g5 O'):=XE.o.on H31.o.lt hL.o.2.2.1 hL.o.2.1;clear y0 hy g0;by_cases XF:0<p
     .have XG:(0:Int)<(p:Int):=by omega
      have hwm:wrap64 ((p:Int)-1)=((p-1:Nat):Int):=by unfold wrap64;omega
      have q4:=E7.o.b4.a1;by_cases hbm:mask.testBit (p-1)=true
      .have zdj:=AF hm (show p-1<4 by omega) hbm;obtain⟨r0,r1,r2,r3,r4⟩:=E7.o.b1.a5
       have r5:∀X:aj wr,X.1.cell? ⟨g3,p-1,none⟩=some (.int .i64 (m (p-1))):=λX=>X.cell (by
        have:=hL.o.2.2.2.cell (p-1) (gR (show p-1<4 by omega) _);rwa [bS _ _ (show p-1≠p by omega)]at this)
       have hj4:((p-1:Nat):Int)<4:=by omega
       have hA:∀X:aj wr,Calls ZP 100 #[.agg #[.int .i64 b.ac,.int .i64 b.places,v2,v3,v4],.int .i64 (m (p-1)),.int .i64 y] X.1 (cI X.1 λr=>Tr r (Apart b.apart (m (p-1)) y)):=λX=>
        nG X.1 _ b _ _ (HBk.o.later (Kp.trans (Kp.of E7.o.old) X.kp E7.o.old.size)) HP.o
       by_cases rr:Apart b.apart (m (p-1)) y
       .have yc:Hid (cw b mask.testBit n p m y=[]):=zAI ⟨XF,hbm,rr⟩
        have hC2:∀X:aj wr,Calls ZP 100 #[.agg #[.int .i64 b.ac,.int .i64 b.places,v2,v3,v4],.int .i64 (m (p-1)),.int .i64 y] X.1 (λe iu=>e=.returned (.bool true)/\∃Y:aj wr,iu=Y.1):=λX=>
         (hA X).mono λe w' ⟨⟨r,h1,h2⟩,h3⟩=>⟨by cases r with
           |true=>exact h1
           |false=>exact absurd rr h2.f,X.on h3⟩
        clear hA;go_wp2
        refine ao (by kernel_rfl) (by kernel_rfl) ?_;repeat(go_big_quiet_step (first|(go_at_call 100;exact hC2 _)))
        refine wpQuiet_nil ?_;rintro _ ⟨X,rfl⟩;have HX:Hid (ab (g3::O) w1 X.1):=hL.o.2.2.1.trans' (.of X.2);have L9:Hid (AD W0 X.1 b v2 v3 v4 (.func (.yield l) #[] #[]) mask g1 g2 g3 g4 g5 O'):=E7.o.on hL.o.2.2.2.lt (.of X.2) (λ_ h=>.inl h);have fL:Hid (aA X.1 g3 107 (bP (upd m p x))):=(ab.of (O:=[]) X.2).box hL.o.2.2.2 (by simp);have Ti:Hid (J (ms++((db b p).take k).flatMap (cw b mask.testBit n p m)) O' X.1):=hR.stay hL.o.1 X.2.size (λk hk=>X.2.block k (hR.own hL.o.1 k hk).2.1);have Dw:Hid (∀o∈O',o∈O\/w1.heap.size<=o):=hL.o.2.1;clear hL E7 gy;clear L9
        have m7:Hid (J (ms++((db b p).take (k+1)).flatMap (cw b mask.testBit n p m)) O' X.1/\(∀o∈O',o∈O\/w1.heap.size<=o)/\ab (g3::O) w1 X.1/\aA X.1 g3 107 (bP (upd m p x))):=
         ⟨by rw[j7 HY.o,yc.o,zCY];exact Ti.o,Dw.out,HX.o,fL.o⟩
        go_wp2
        go_round
        case rel=>exact⟨k+1,O',x,by omega,by go_num,m7⟩
        case measure=>simp[intOf];omega
       .have yc:Hid (cw b mask.testBit n p m y=fill b mask.testBit n (p+1) (upd m p y)):=zAH (λh=>rr h.2.2)
        have hC2:∀X:aj wr,Calls ZP 100 #[.agg #[.int .i64 b.ac,.int .i64 b.places,v2,v3,v4],.int .i64 (m (p-1)),.int .i64 y] X.1 (λe iu=>e=.returned (.bool false)/\∃Y:aj wr,iu=Y.1):=λX=>
         (hA X).mono λe w' ⟨⟨r,h1,h2⟩,h3⟩=>⟨by cases r with
           |false=>exact h1
           |true=>exact absurd h2.t rr,X.on h3⟩
        clear hA;go_wp2
        refine ao (by kernel_rfl) (by kernel_rfl) ?_;repeat(go_big_quiet_step (first|(go_at_call 100;exact hC2 _)))
        refine wpQuiet_nil ?_;rintro _ ⟨X,rfl⟩;have HX:Hid (ab (g3::O) w1 X.1):=hL.o.2.2.1.trans' (.of X.2);have L9:Hid (AD W0 X.1 b v2 v3 v4 (.func (.yield l) #[] #[]) mask g1 g2 g3 g4 g5 O'):=E7.o.on hL.o.2.2.2.lt (.of X.2) (λ_ h=>.inl h);have fL:Hid (aA X.1 g3 107 (bP (upd m p x))):=(ab.of (O:=[]) X.2).box hL.o.2.2.2 (by simp);have Ti:Hid (J (ms++((db b p).take k).flatMap (cw b mask.testBit n p m)) O' X.1):=hR.stay hL.o.1 X.2.size (λk hk=>X.2.block k (hR.own hL.o.1 k hk).2.1);have Dw:Hid (∀o∈O',o∈O\/w1.heap.size<=o):=hL.o.2.1;clear hL E7 gy;clear hC2 r0 r1 r2 r3 r4 r5 q4;have c3:X.1.cell? ⟨g3,p,none⟩=some (.int .i64 (upd m p x p)):=fL.o.cell p (gR Il _);have f3:X.1.frozen? ⟨g3,p,none⟩=false:=fL.o.aL p;have HW:Hid (ab (g3::O') X.1 (X.1.setCell ⟨g3,p,none⟩ (.int .i64 y))):=ab.set X.1 (by simp) _;have Qb:Hid (AD W0 (X.1.setCell ⟨g3,p,none⟩ (.int .i64 y)) b v2 v3 v4 (.func (.yield l) #[] #[]) mask g1 g2 g3 g4 g5 O'):=L9.o.on fL.o.lt HW.o (λ_ h=>.inl h);have mz:Hid (aA (X.1.setCell ⟨g3,p,none⟩ (.int .i64 y)) g3 107 (bP (upd m p y))):=by have:=fL.o.set p (.int .i64 y);rwa [rO Il,rN]at this
        have XH:Hid (J (ms++((db b p).take k).flatMap (cw b mask.testBit n p m)) O' (X.1.setCell ⟨g3,p,none⟩ (.int .i64 y))):=
         hR.stay Ti.o HW.o.size (λk hk=>Below.heap_setCell _ _ _ _ (λ(e:k=g3)=>L9.o.n3 (by rw[<-e];exact hk)))
        have c5:(X.1.setCell ⟨g3,p,none⟩ (.int .i64 y)).cell? ⟨g5,0,none⟩=some (.func (.func 126) #[] #[ptr g1,ptr g2,ptr g3,ptr g4,ptr g5]):=Qb.o.b5.cell 0 rfl
        have hN:=IH.o (p+1) (by have:=Hp.o;omega) (upd m p y) (ms++((db b p).take k).flatMap (cw b mask.testBit n p m)) O' (X.1.setCell ⟨g3,p,none⟩ (.int .i64 y))
         (λi hi=>by rw[bS _ _ (by omega)];exact HZ.o i (by omega)) Qb.o mz.o XH.o (by have h1:=HL.o;have h2:=x9 (f:=cw b mask.testBit n p m) HY.o;rw[yc.o]at h2;rw[zBA];omega)
        rw[show((p+1:Nat):Int)=(p:Int)+1 by omega]at hN
        have KC:Hid (∀o∈g3::O',o∈g3::O\/w1.heap.size<=o):=λo ho=>by
         rcases zAS.1 ho with rfl|ho
         .exact .inl (by simp)
         .exact(Dw.out o ho).imp (zBH _) id
        have KD:Hid (ab (g3::O) w1 (X.1.setCell ⟨g3,p,none⟩ (.int .i64 y))):=HX.o.trans HW.o KC.o;go_wp2_with(go_at_call 126;refine hN.mono ?_;rintro e w2 (⟨rfl,L7,O2,th,E8,rP⟩|⟨rfl,Og,Oh,rP⟩))
        .have m7:Hid (J (ms++((db b p).take (k+1)).flatMap (cw b mask.testBit n p m)) O2 w2/\(∀o∈O2,o∈O\/w1.heap.size<=o)/\ab (g3::O) w1 w2/\aA w2 g3 107 (bP (upd m p y))):=
          ⟨by rw[j7 HY.o,<-zEE,yc.o];exact E8,(λo ho=>(th o ho).elim (Dw.out o) (λh=>.inr (zAP KD.o.size h))),KD.o.trans rP KC.o,L7⟩
         clear L7 th E8 rP;go_round
         case rel=>exact⟨k+1,O2,y,by omega,by go_num,m7⟩
         case measure=>simp[intOf];omega
        .go_ret;exact .inr ⟨rfl,xZ HY.o (by rw[yc.o];exact Og),Oh,(ab.of dh.o).trans (KD.o.trans rP KC.o) (λ_=>.inl)⟩
      .have zdj:=E6 hm (show p-1<4 by omega) hbm;have yc:Hid (cw b mask.testBit n p m y=fill b mask.testBit n (p+1) (upd m p y)):=zAH (λh=>hbm h.2.1);go_wp2
       refine ao (by kernel_rfl) (by kernel_rfl) ?_;repeat(go_big_quiet_step (fail))
       refine wpQuiet_nil ?_;rintro _ ⟨X,rfl⟩;have HX:Hid (ab (g3::O) w1 X.1):=hL.o.2.2.1.trans' (.of X.2);have L9:Hid (AD W0 X.1 b v2 v3 v4 (.func (.yield l) #[] #[]) mask g1 g2 g3 g4 g5 O'):=E7.o.on hL.o.2.2.2.lt (.of X.2) (λ_ h=>.inl h);have fL:Hid (aA X.1 g3 107 (bP (upd m p x))):=(ab.of (O:=[]) X.2).box hL.o.2.2.2 (by simp);have Ti:Hid (J (ms++((db b p).take k).flatMap (cw b mask.testBit n p m)) O' X.1):=hR.stay hL.o.1 X.2.size (λk hk=>X.2.block k (hR.own hL.o.1 k hk).2.1);have Dw:Hid (∀o∈O',o∈O\/w1.heap.size<=o):=hL.o.2.1;clear hL E7 gy;clear q4;have c3:X.1.cell? ⟨g3,p,none⟩=some (.int .i64 (upd m p x p)):=fL.o.cell p (gR Il _);have f3:X.1.frozen? ⟨g3,p,none⟩=false:=fL.o.aL p;have HW:Hid (ab (g3::O') X.1 (X.1.setCell ⟨g3,p,none⟩ (.int .i64 y))):=ab.set X.1 (by simp) _;have Qb:Hid (AD W0 (X.1.setCell ⟨g3,p,none⟩ (.int .i64 y)) b v2 v3 v4 (.func (.yield l) #[] #[]) mask g1 g2 g3 g4 g5 O'):=L9.o.on fL.o.lt HW.o (λ_ h=>.inl h);have mz:Hid (aA (X.1.setCell ⟨g3,p,none⟩ (.int .i64 y)) g3 107 (bP (upd m p y))):=by have:=fL.o.set p (.int .i64 y);rwa [rO Il,rN]at this
       have XH:Hid (J (ms++((db b p).take k).flatMap (cw b mask.testBit n p m)) O' (X.1.setCell ⟨g3,p,none⟩ (.int .i64 y))):=
        hR.stay Ti.o HW.o.size (λk hk=>Below.heap_setCell _ _ _ _ (λ(e:k=g3)=>L9.o.n3 (by rw[<-e];exact hk)))
       have c5:(X.1.setCell ⟨g3,p,none⟩ (.int .i64 y)).cell? ⟨g5,0,none⟩=some (.func (.func 126) #[] #[ptr g1,ptr g2,ptr g3,ptr g4,ptr g5]):=Qb.o.b5.cell 0 rfl
       have hN:=IH.o (p+1) (by have:=Hp.o;omega) (upd m p y) (ms++((db b p).take k).flatMap (cw b mask.testBit n p m)) O' (X.1.setCell ⟨g3,p,none⟩ (.int .i64 y))
        (λi hi=>by rw[bS _ _ (by omega)];exact HZ.o i (by omega)) Qb.o mz.o XH.o (by have h1:=HL.o;have h2:=x9 (f:=cw b mask.testBit n p m) HY.o;rw[yc.o]at h2;rw[zBA];omega)
       rw[show((p+1:Nat):Int)=(p:Int)+1 by omega]at hN
       have KC:Hid (∀o∈g3::O',o∈g3::O\/w1.heap.size<=o):=λo ho=>by
        rcases zAS.1 ho with rfl|ho
        .exact .inl (by simp)
        .exact(Dw.out o ho).imp (zBH _) id
       have KD:Hid (ab (g3::O) w1 (X.1.setCell ⟨g3,p,none⟩ (.int .i64 y))):=HX.o.trans HW.o KC.o;go_wp2_with(go_at_call 126;refine hN.mono ?_;rintro e w2 (⟨rfl,L7,O2,th,E8,rP⟩|⟨rfl,Og,Oh,rP⟩))
       .have m7:Hid (J (ms++((db b p).take (k+1)).flatMap (cw b mask.testBit n p m)) O2 w2/\(∀o∈O2,o∈O\/w1.heap.size<=o)/\ab (g3::O) w1 w2/\aA w2 g3 107 (bP (upd m p y))):=
         ⟨by rw[j7 HY.o,<-zEE,yc.o];exact E8,(λo ho=>(th o ho).elim (Dw.out o) (λh=>.inr (zAP KD.o.size h))),KD.o.trans rP KC.o,L7⟩
        clear L7 th E8 rP;go_round
        case rel=>exact⟨k+1,O2,y,by omega,by go_num,m7⟩
        case measure=>simp[intOf];omega
       .go_ret;exact .inr ⟨rfl,xZ HY.o (by rw[yc.o];exact Og),Oh,(ab.of dh.o).trans (KD.o.trans rP KC.o) (λ_=>.inl)⟩
     .have XG:¬(0:Int)<(p:Int):=by omega
      have yc:Hid (cw b mask.testBit n p m y=fill b mask.testBit n (p+1) (upd m p y)):=zAH (λh=>XF h.1);go_wp2
      refine ao (by kernel_rfl) (by kernel_rfl) ?_;repeat(go_big_quiet_step (fail))
      refine wpQuiet_nil ?_;rintro _ ⟨X,rfl⟩;have HX:Hid (ab (g3::O) w1 X.1):=hL.o.2.2.1.trans' (.of X.2);have L9:Hid (AD W0 X.1 b v2 v3 v4 (.func (.yield l) #[] #[]) mask g1 g2 g3 g4 g5 O'):=E7.o.on hL.o.2.2.2.lt (.of X.2) (λ_ h=>.inl h);have fL:Hid (aA X.1 g3 107 (bP (upd m p x))):=(ab.of (O:=[]) X.2).box hL.o.2.2.2 (by simp);have Ti:Hid (J (ms++((db b p).take k).flatMap (cw b mask.testBit n p m)) O' X.1):=hR.stay hL.o.1 X.2.size (λk hk=>X.2.block k (hR.own hL.o.1 k hk).2.1);have Dw:Hid (∀o∈O',o∈O\/w1.heap.size<=o):=hL.o.2.1;clear hL E7 gy;have c3:X.1.cell? ⟨g3,p,none⟩=some (.int .i64 (upd m p x p)):=fL.o.cell p (gR Il _);have f3:X.1.frozen? ⟨g3,p,none⟩=false:=fL.o.aL p;have HW:Hid (ab (g3::O') X.1 (X.1.setCell ⟨g3,p,none⟩ (.int .i64 y))):=ab.set X.1 (by simp) _;have Qb:Hid (AD W0 (X.1.setCell ⟨g3,p,none⟩ (.int .i64 y)) b v2 v3 v4 (.func (.yield l) #[] #[]) mask g1 g2 g3 g4 g5 O'):=L9.o.on fL.o.lt HW.o (λ_ h=>.inl h);have mz:Hid (aA (X.1.setCell ⟨g3,p,none⟩ (.int .i64 y)) g3 107 (bP (upd m p y))):=by have:=fL.o.set p (.int .i64 y);rwa [rO Il,rN]at this
      have XH:Hid (J (ms++((db b p).take k).flatMap (cw b mask.testBit n p m)) O' (X.1.setCell ⟨g3,p,none⟩ (.int .i64 y))):=
       hR.stay Ti.o HW.o.size (λk hk=>Below.heap_setCell _ _ _ _ (λ(e:k=g3)=>L9.o.n3 (by rw[<-e];exact hk)))
      have c5:(X.1.setCell ⟨g3,p,none⟩ (.int .i64 y)).cell? ⟨g5,0,none⟩=some (.func (.func 126) #[] #[ptr g1,ptr g2,ptr g3,ptr g4,ptr g5]):=Qb.o.b5.cell 0 rfl
      have hN:=IH.o (p+1) (by have:=Hp.o;omega) (upd m p y) (ms++((db b p).take k).flatMap (cw b mask.testBit n p m)) O' (X.1.setCell ⟨g3,p,none⟩ (.int .i64 y))
       (λi hi=>by rw[bS _ _ (by omega)];exact HZ.o i (by omega)) Qb.o mz.o XH.o (by have h1:=HL.o;have h2:=x9 (f:=cw b mask.testBit n p m) HY.o;rw[yc.o]at h2;rw[zBA];omega)
      rw[show((p+1:Nat):Int)=(p:Int)+1 by omega]at hN
      have KC:Hid (∀o∈g3::O',o∈g3::O\/w1.heap.size<=o):=λo ho=>by
       rcases zAS.1 ho with rfl|ho
       .exact .inl (by simp)
       .exact(Dw.out o ho).imp (zBH _) id
      have KD:Hid (ab (g3::O) w1 (X.1.setCell ⟨g3,p,none⟩ (.int .i64 y))):=HX.o.trans HW.o KC.o;go_wp2_with(go_at_call 126;refine hN.mono ?_;rintro e w2 (⟨rfl,L7,O2,th,E8,rP⟩|⟨rfl,Og,Oh,rP⟩))
      .have m7:Hid (J (ms++((db b p).take (k+1)).flatMap (cw b mask.testBit n p m)) O2 w2/\(∀o∈O2,o∈O\/w1.heap.size<=o)/\ab (g3::O) w1 w2/\aA w2 g3 107 (bP (upd m p y))):=
        ⟨by rw[j7 HY.o,<-zEE,yc.o];exact E8,(λo ho=>(th o ho).elim (Dw.out o) (λh=>.inr (zAP KD.o.size h))),KD.o.trans rP KC.o,L7⟩
       clear L7 th E8 rP;go_round
       case rel=>exact⟨k+1,O2,y,by omega,by go_num,m7⟩
       case measure=>simp[intOf];omega
      .go_ret;exact .inr ⟨rfl,xZ HY.o (by rw[yc.o];exact Og),Oh,(ab.of dh.o).trans (KD.o.trans rP KC.o) (λ_=>.inl)⟩
    .have e:k=(db b p).length:=by omega
     subst e;have c3:wr.cell? ⟨g3,p,none⟩=some (.int .i64 (upd m p x p)):=hL.o.2.2.2.cell p (gR Il _);have f3:wr.frozen? ⟨g3,p,none⟩=false:=hL.o.2.2.2.aL p;have E7:Hid (AD W0 wr b v2 v3 v4 (.func (.yield l) #[] #[]) mask g1 g2 g3 g4 g5 O'):=XE.o.on H31.o.lt hL.o.2.2.1 hL.o.2.1;go_wp2
     go_ret;have hW:ab (g3::O') wr (wr.setCell ⟨g3,p,none⟩ (.int .i64 0)):=ab.set wr (by simp) _;have Of:=hL.o.2.1;have hs:=dh.o.size;refine .inl ⟨rfl,?_,O',(λo ho=>(Of o ho).imp id (λh=>by omega)),?_,?_⟩
     .have:=hL.o.2.2.2.set p (.int .i64 0);rwa [rO Il,rN,AC (HZ.o p (zAC _))]at this
     .refine hR.stay ?_ hW.size (λk hk=>Below.heap_setCell _ _ _ _ (λ(e:k=g3)=>E7.o.n3 (by rw[<-e];exact hk)));have:=hL.o.1;rwa [zDK]at this
     .refine(ab.of dh.o).trans (hL.o.2.2.1.trans hW λo ho=>?_) (λ_=>.inl);rcases zAS.1 ho with rfl|ho
      .exact .inl (by simp)
      .exact(Of o ho).imp (zBH _) id
  .rw[xY Z9]at hlen⊢;have zdg:=E6 hm Il Z9;have y5:=HI.o.b5.c1;have hC:=ih (p+1) (by omega) m ms O W (λi hi=>hz i (by omega)) HI.o H3.o hJ hlen;rw[show((p+1:Nat):Int)=(p:Int)+1 by omega]at hC;clear ih hp;go_enter ZF126,Tryz.ntmps126
   go_wp2_with(go_at_call 126;refine hC.mono ?_;rintro e w1 (⟨rfl,hx⟩|⟨rfl,hx⟩))
   .go_ret;exact .inl ⟨rfl,hx⟩
   .go_ret;exact .inr ⟨rfl,hx⟩
theorem ab.lV (h:ab O W W') (o:Obj):ab O W (W'.alloc o):=h.trans (ab.alloc [] W' o) (λ_ h=>by cases h)
theorem KE {N:Nat}
 (hb:ar W0 (.agg #[.int .i64 b.ac,.int .i64 b.places,v2,v3,v4]) b) (hv:Valid b) (hm:mask<16) (hN:(N:Int)=b.places) (hR:xX W0 g1 g4 l K J Jx)
 (h1:aA W g1 84 #[.int .i64 b.ac,.int .i64 b.places,v2,v3,v4]) (h4:aA W g4 3 #[.int .i64 mask]) (hold:Below W0.heap.size W0 W) (hJ:J [] O W) (hlen:(fill b mask.testBit N 0 (λ_=>0)).length<=K):
 Calls ZP 125 #[.func (.yield l) #[] #[],ptr g1,ptr g4] W (Dv J Jx (fill b mask.testBit N 0 (λ_=>0)) O W):=by
 obtain⟨A1,aV⟩:=ex1 (W.alloc (.cells #[.func (.yield l) #[] #[]] 118));obtain⟨A2,bc⟩:=ex1 (A1.alloc (.cells #[.int .i64 0,.int .i64 0,.int .i64 0,.int .i64 0] 107));obtain⟨A3,eE⟩:=ex1 (A2.alloc (.cells #[.nilFunc] 91));have cS:=snew aV;have gV:=snew2 bc cS;have FP:=snew2 eE gV
 have b2:aA A3 W.heap.size 118 #[.func (.yield l) #[] #[]]:=by
  rw[<-eE];refine(ab.alloc [] _ _).box ?_ (by simp);rw[<-bc];refine(ab.alloc [] _ _).box ?_ (by simp);rw[<-aV];exact aA.new _ _ _
 have b3:aA A3 (W.heap.size+1) 107 (bP λ_=>0):=by
  rw[<-eE];refine(ab.alloc [] _ _).box ?_ (by simp);rw[<-bc,<-cS];exact aA.new _ _ _
 have b5:=(bnew2 eE gV).o;have iR:ab [] W A3:=by rw[<-eE,<-bc,<-aV];exact((ab.alloc _ _ _).lV _).lV _
 obtain⟨F,hF⟩:∃F:Value,.func (.func 126) #[] #[ptr g1,ptr W.heap.size,ptr (W.heap.size+1),ptr g4,ptr (W.heap.size+1+1)]=F:=⟨_,rfl⟩
 obtain⟨A4,uM⟩:=ex1 (A3.setCell ⟨W.heap.size+1+1,0,none⟩ F);have lN:ab [W.heap.size+1+1] A3 A4:=by rw[<-uM];exact ab.set A3 (by simp) _
 have Tj:aA A4 (W.heap.size+1+1) 91 #[F]:=by rw[<-uM];exact b5.set 0 F
 have hO:∀k∈O,W0.heap.size<=k/\k<W.heap.size/\k∉ [g1,g4]:=λk hk=>hR.own hJ k hk;have hk:ab [] W A4:=iR.trans lN (by simp;omega);have Aa:=h1.lt;have zdk:=h4.lt;have bW:=hold.size
 have hI:AD W0 A4 b v2 v3 v4 (.func (.yield l) #[] #[]) mask g1 W.heap.size (W.heap.size+1) g4 (W.heap.size+1+1) O:=by
  refine⟨hk.box h1 (by simp),lN.box b2 (by simp;omega),hk.box h4 (by simp),by rw[hF];exact Tj,?_,?_,?_,?_,?_,by omega,by omega,by omega,by omega,by omega,hold.trans (hk.below (by simp) bW),λk hx=>(hO k hx).1⟩
  .intro hx;exact(hO _ hx).2.2 (by simp)
  .intro hx;have:=(hO _ hx).2.1;omega
  .intro hx;have:=(hO _ hx).2.1;omega
  .intro hx;exact(hO _ hx).2.2 (by simp)
  .intro hx;have:=(hO _ hx).2.1;omega
 have XI:J [] O A4:=hR.stay hJ hk.size (λk hx=>hk.block k (hO k hx).2.1 (by simp));have hC:=KA hb hv hm hR N 0 (by omega) (λ_=>0) [] O A4 (λ_ _=>rfl) hI (lN.box b3 (by simp)) XI (by simpa using hlen);have c5:=b5.c1;have f5:A3.frozen? ⟨W.heap.size+1+1,0,none⟩=false:=b5.aL 0;have c6:=Tj.c1;have HK:=hid hk;rw[<-hF]at c6;clear hlen hI XI hb hv hR h1 h4 hold hJ b2 b3 b5 Tj iR lN hk Aa zdk bW hO;subst hF;have bK:∀(a:Addr) (f:Fn) (x y:Array Value) (w:World),(store a (.func f x y) .plain).run ZP w=stored ZP w a (.func f x y) .plain:=λa f x y w=>run_store ZP w a _ _ rfl;go_enter ZF125,Tryz.ntmps125
 go_wp2_with(go_at_call 126;refine hC.mono ?_;rintro e w1 (⟨rfl,hB,O2,th,E8,rP⟩|⟨rfl,Og,Oh,rP⟩))
 .go_end0
  refine⟨⟨_,rfl⟩,.inl ⟨O2,(λk hk=>(th k hk).imp id (λh=>zAP HK.o.size h)),E8,(HK.o.mono (O':=O) (by simp)).trans rP λx hx=>?_⟩⟩;rcases zAS.1 hx with rfl|hx
  .exact .inr (by omega)
  .exact .inl hx
 .go_end0
  refine⟨⟨_,rfl⟩,.inr ⟨Og,Oh,(HK.o.mono (O':=O) (by simp)).trans rP λx hx=>?_⟩⟩;rcases zAS.1 hx with rfl|hx
  .exact .inr (by omega)
  .exact .inl hx
def zdl (w:World) (b:ap) (v2 v3 v4:Value) (mask:Nat) (e:Ending) (w':World):Prop:=
 e=.returned (.func (.func 125) #[] #[ptr w.heap.size,ptr (w.heap.size+1)])/\w'=(w.alloc (.cells #[.int .i64 b.ac,.int .i64 b.places,v2,v3,v4] 84)).alloc (.cells #[.int .i64 mask] 3)
theorem Dx (w:World) (b:ap) (v2 v3 v4:Value) (mask:Nat):Calls ZP 105 #[.agg #[.int .i64 b.ac,.int .i64 b.places,v2,v3,v4],.int .i64 mask] w (zdl w b v2 v3 v4 mask):=by
 go_enter ZF105,Tryz.ntmps105
 go_wp2
 go_ret;exact⟨rfl,rfl⟩
end Go.Proofs.Cz
