/- A part. Conditions: none. -/
import Derived.Test.YtddlcmejelobdaaGreatDoorT27
import Derived.RangeFuncNested
import Derived.RangeFuncBound
import Derived.RangeFuncCalls
import Derived.RangeFuncLeaves
import Derived.Shelf.Abstract
import Derived.Shelf.RegionOpen
import Derived.OwnWalkIn
import Derived.TacticsInMore
import Derived.LoopNIn
import Derived.LoopIn
set_option linter.all false
set_option maxHeartbeats 8000000
set_option maxRecDepth 100000
namespace Go.Proofs.Cz
open Go.RowKit
variable {J:List (Nat->Int)->List Nat->World->Prop} {Jx:World->Prop} {K g1 g2 g3 g4 g5 k l mask n p:Nat} {O:List Nat} {W W' W0:World} {b:ai} {bit:Nat->Bool} {m:Nat->Int} {v2 v3 v4:Value} {x:Int} {α:Type}
attribute [local go_sem] Oper.semAt_some
def upd (m:Nat->Int) (p:Nat) (k:Int):Nat->Int:=fun i=>if i=p then k else m i
theorem aV (m:Nat->Int) (p:Nat) (k:Int):upd m p k p=k:=by simp[upd]
theorem an (m:Nat->Int) {i:Nat} (k:Int) (h:i≠p):upd m p k i=m i:=by simp[upd,h]
theorem qX (m:Nat->Int) (p:Nat) (x k:Int):upd (upd m p x) p k=upd m p k:=by funext i;unfold upd;split<;>rfl
theorem zG (h:m p=0):upd m p 0=m:=by funext i;unfold upd;split<;>simp_all
def cA (m:Nat->Int):Array Value:=#[.int .i64 (m 0),.int .i64 (m 1),.int .i64 (m 2),.int .i64 (m 3)]
theorem qY (hp:p<4) (m:Nat->Int) (k:Int):(cA m).setIfInBounds p (.int .i64 k)=cA (upd m p k):=by
 match p,hp with
 |0,_=>simp[cA,upd]
 |1,_=>simp[cA,upd]
 |2,_=>simp[cA,upd]
 |3,_=>simp[cA,upd]
theorem gG (hp:p<4) (m:Nat->Int):(cA m)[p]?=some (.int .i64 (m p)):=by
 match p,hp with
 |0,_=>rfl
 |1,_=>rfl
 |2,_=>rfl
 |3,_=>rfl
open Classical in
noncomputable def fill (b:ai) (bit:Nat->Bool):Nat->Nat->(Nat->Int)->List (Nat->Int)
 |0,_,m=>[m]
 |n+1,p,m=>
  if bit p=true then(cR b p).flatMap fun k=>if 0<p/\bit (p-1)=true/\Apart b.apart (m (p-1)) k then []else fill b bit n (p+1) (upd m p k)
  else fill b bit n (p+1) m
abbrev ptr (g:Nat):Value:=.pointer (some ⟨g,0,none⟩)
structure zH (W0 W:World) (b:ai) (v2 v3 v4 y:Value) (mask:Nat) (g1 g2 g3 g4 g5:Nat) (O:List Nat):Prop where
 b1:aD W g1 78 #[.int .i64 b.ao,.int .i64 b.places,v2,v3,v4]
 b2:aD W g2 104 #[y]
 b4:aD W g4 3 #[.int .i64 mask]
 b5:aD W g5 121 #[.func (.func 140) #[] #[ptr g1,ptr g2,ptr g3,ptr g4,ptr g5]]
 n1:g1∉O
 n2:g2∉O
 n3:g3∉O
 n4:g4∉O
 n5:g5∉O
 d1:g1≠g3
 d2:g2≠g3
 d4:g4≠g3
 d5:g5≠g3
 ge:W0.heap.size<=g3
 old:Below W0.heap.size W0 W
 VI:∀k∈O,W0.heap.size<=k
theorem zH.on {y:Value} {O':List Nat} (h:zH W0 W b v2 v3 v4 y mask g1 g2 g3 g4 g5 O) (h3:g3<W.heap.size)
 (hk:aa (g3::O) W W') (hO:∀k∈O',k∈O\/W.heap.size<=k):zH W0 W' b v2 v3 v4 y mask g1 g2 g3 g4 g5 O':=by
 have l1:=h.b1.lt;have l2:=h.b2.lt;have l4:=h.b4.lt;have l5:=h.b5.lt
 have hW:=h.old.size
 refine⟨hk.box h.b1 (by simp[h.d1,h.n1]),hk.box h.b2 (by simp[h.d2,h.n2]),hk.box h.b4 (by simp[h.d4,h.n4]),hk.box h.b5 (by simp[h.d5,h.n5]),?_,?_,?_,?_,?_,h.d1,h.d2,h.d4,h.d5,h.ge,
  h.old.trans (hk.below (fun k hx=>by rcases List.mem_cons.1 hx with rfl|hx;exact h.ge;exact h.VI k hx) hW),fun k hx=>(hO k hx).elim (h.VI k) (fun hx=>by omega)⟩
 .intro hx;exact(hO _ hx).elim h.n1 (fun hx=>by omega)
 .intro hx;exact(hO _ hx).elim h.n2 (fun hx=>by omega)
 .intro hx;exact(hO _ hx).elim h.n3 (fun hx=>by omega)
 .intro hx;exact(hO _ hx).elim h.n4 (fun hx=>by omega)
 .intro hx;exact(hO _ hx).elim h.n5 (fun hx=>by omega)
def wT (J:List (Nat->Int)->List Nat->World->Prop) (Jx:World->Prop) (g3:Nat) (L:List (Nat->Int)) (m:Nat->Int) (ms:List (Nat->Int)) (O:List Nat) (W:World) (e:Ending) (W':World):Prop:=
 (e=.returned (.bool true)/\aD W' g3 94 (cA m)/\∃O',(∀k∈O',k∈O\/W.heap.size<=k)/\J (ms++L) O' W'/\aa (g3::O) W W')\/
 (e=.returned (.bool false)/\L≠ []/\Jx W'/\aa (g3::O) W W')
abbrev wU (W0:World) (g1 g4 l K:Nat) (J:List (Nat->Int)->List Nat->World->Prop) (Jx:World->Prop):Prop:=
 Cy ZP W0.heap.size [g1,g4] l (fun m=>.agg (cA m)) K J Jx
theorem FZ {ms:List (Nat->Int)}
 (hp:(p:Int)=b.places) (hR:wU W0 g1 g4 l K J Jx) (hI:zH W0 W b v2 v3 v4 (.func (.yield l) #[] #[]) mask g1 g2 g3 g4 g5 O) (h3:aD W g3 94 (cA m)) (hJ:J ms O W) (hlen:ms.length<K):
 Calls ZP 140 #[.int .i64 p,ptr g1,ptr g2,ptr g3,ptr g4,ptr g5] W (wT J Jx g3 [m] m ms O W):=by
 obtain⟨fn,tmps,assign,body,hy,hr⟩:=hR.yield ms m O W hJ hlen;obtain⟨y0,y1⟩:=hI.b1.c2;have y2:=hI.b2.c1;obtain⟨x0,x1,x2,x3⟩:=h3.c4;simp only[cA]at hy;have HI:=hid hI;have H3:=hid h3;clear hI h3 hR;refine(callsIn_wide (n:=0)).1 ?_;refine callsIn_of_wp ZF140 rfl trivial ?_
 simp only[Tryz.ntmps140,List.size_toArray,List.length_cons,List.length_nil,Nat.reduceAdd,Nat.reduceSub,Array.replicate_succ,
  Array.replicate_zero,List.push_toArray,List.append_toArray,List.nil_append,List.cons_append]
 gi_wp2
 refine⟨rfl,hr.mono ?_⟩;rintro e W' (⟨rfl,O',MX,hJ',hk⟩|⟨rfl,hx,hk⟩)
 .gi_wp2
  go_ret;exact .inl ⟨rfl,hk.box H3.o HI.o.n3,O',MX,hJ',hk.mono fun x hx=>.inl (List.mem_cons_of_mem _ hx)⟩
 .gi_wp2
  go_ret;exact .inr ⟨rfl,(by simp),hx,hk.mono fun x hx=>.inl (List.mem_cons_of_mem _ hx)⟩
theorem zI:∀(mask:Fin 16) (p:Fin 4),bits BinOp.and IntKind.i64 (((mask.1:Nat):Int)/2^p.1) 1=if mask.1.testBit p.1 then 1 else 0:=by decide+kernel
theorem zJ (hm:mask<16) (hp:p<4) (h:mask.testBit p=true):bits BinOp.and IntKind.i64 ((mask:Int)/2^p) 1=1:=by
 have:=zI ⟨mask,hm⟩ ⟨p,hp⟩;rwa [if_pos h]at this
theorem Eb (hm:mask<16) (hp:p<4) (h:¬mask.testBit p=true):bits BinOp.and IntKind.i64 ((mask:Int)/2^p) 1=0:=by
 have:=zI ⟨mask,hm⟩ ⟨p,hp⟩;rwa [if_neg h]at this
noncomputable abbrev cj (b:ai) (bit:Nat->Bool) (n p:Nat) (m:Nat->Int) (k:Int):List (Nat->Int):=
 open Classical in if 0<p/\bit (p-1)=true/\Apart b.apart (m (p-1)) k then []else fill b bit n (p+1) (upd m p k)
theorem wV (h:¬bit p=true):fill b bit (n+1) p m=fill b bit n (p+1) m:=by
 rw[fill,if_neg h]
theorem sB (h:bit p=true):fill b bit (n+1) p m=(cR b p).flatMap (cj b bit n p m):=by
 rw[fill,if_pos h]
theorem jF {l:List Int} {f:Int->List α} (hx:l[k]?=some x):(l.take (k+1)).flatMap f=(l.take k).flatMap f++f x:=by
 rw[List.take_add_one,hx];simp
theorem wW {l:List Int} {f:Int->List α} (hx:l[k]?=some x) (h:f x≠ []):l.flatMap f≠ []:=fun he=>by
 rw[List.flatMap_eq_nil_iff]at he;exact h (he x (List.mem_of_getElem? hx))
theorem wX {l:List Int} {f:Int->List α} (hx:l[k]?=some x):((l.take k).flatMap f).length+(f x).length<=(l.flatMap f).length:=by
 have h:l=l.take (k+1)++l.drop (k+1):=(List.take_append_drop _ _).symm
 have h2:(l.flatMap f).length=((l.take (k+1)).flatMap f).length+((l.drop (k+1)).flatMap f).length:=by
  conv=>lhs;rw[h]
  rw[List.flatMap_append,List.length_append]
 rw[jF hx,List.length_append]at h2;omega
theorem JB
 (hb:au W0 (.agg #[.int .i64 b.ao,.int .i64 b.places,v2,v3,v4]) b) (hv:Valid b) (hm:mask<16) (hR:wU W0 g1 g4 l K J Jx):
 ∀(n p:Nat),((p+n:Nat):Int)=b.places->∀(m:Nat->Int) (ms:List (Nat->Int)) (O:List Nat) (W:World),(∀i,p<=i->m i=0)->
  zH W0 W b v2 v3 v4 (.func (.yield l) #[] #[]) mask g1 g2 g3 g4 g5 O->aD W g3 94 (cA m)->J ms O W->ms.length+(fill b mask.testBit n p m).length<=K->
  Calls ZP 140 #[.int .i64 p,ptr g1,ptr g2,ptr g3,ptr g4,ptr g5] W (wT J Jx g3 (fill b mask.testBit n p m) m ms O W):=by
 intro n;induction n with
 |zero=>exact fun p hp m ms O W _ hI h3 hJ hlen=>FZ hp hR hI h3 hJ (by simp only[fill,List.length_cons,List.length_nil]at hlen;omega)
 |succ n ih=>
  intro p hp m ms O W hz hI h3 hJ hlen;have t9:=hv.places;have KP:p<4:=by omega
  obtain⟨-,y1⟩:=hI.b1.c2;have y4:=hI.b4.c1;have bC:¬(p:Int)=b.places:=by omega
  have HI:=hid hI;have H3:=hid h3;have HM:Hid (b.parts.length<=5):=hv.parts.many.2;have HP:Hid (eP b):=hv.ic;have Hp:=hid hp;have jK:wrap64 ((p:Int)+1)=p+1:=by unfold wrap64;omega
  clear hI h3 t9 hv;by_cases XF:mask.testBit p=true
  .rw[sB XF]at hlen⊢;have HL:=hid hlen;clear hlen;have zbj:=zJ hm KP XF;obtain⟨z0,-,z2,z3,z4⟩:=HI.o.b1.c5;have hC:=MU W _ b p (hb.later (Kp.of HI.o.old)) HM.o
   have IH:Hid (∀(p:Nat),((p+n:Nat):Int)=b.places->∀(m:Nat->Int) (ms:List (Nat->Int)) (O:List Nat) (W:World),(∀i,p<=i->m i=0)->
    zH W0 W b v2 v3 v4 (.func (.yield l) #[] #[]) mask g1 g2 g3 g4 g5 O->aD W g3 94 (cA m)->J ms O W->ms.length+(fill b mask.testBit n p m).length<=K->
    Calls ZP 140 #[.int .i64 p,ptr g1,ptr g2,ptr g3,ptr g4,ptr g5] W (wT J Jx g3 (fill b mask.testBit n p m) m ms O W)):=ih
   have HJ:Hid (J ms O W):=hJ;have HZ:=hid hz;have HBk:=hid hb;clear ih hp hJ hz hb;go_enter ZF140,Tryz.ntmps140
   go_wp2_with(go_at_call 141
               refine hC.mono ?_;rintro e w1 ⟨⟨v,rfl,hO⟩,bE⟩;have HG:Hid (∀k,v.ownBlock=some k->W.heap.size+1<=k):=qW hO;obtain⟨a,cap,hS,hE⟩:=aC.ii hO;have HS:Hid (bS w1 v (cR b p).length a cap/\_):=⟨hS,hE⟩
               have fB:=hid bE;obtain⟨rfl,l1,m1,n1,r1⟩:=hS;unfold maxLen at m1;clear hO hE n1 r1 bE)
   have VJ:Hid (zH W0 w1 b v2 v3 v4 (.func (.yield l) #[] #[]) mask g1 g2 g3 g4 g5 O):=HI.o.on H3.o.lt (.of fB.o) (fun _ h=>.inl h);have H31:Hid (aD w1 g3 94 (cA m)):=(aa.of (O:=[]) fB.o).box H3.o (by simp);have Rw:Hid (∀o∈O,o<W.heap.size):=fun o ho=>(hR.own HJ.o o ho).2.1;have HJ1:Hid (J ms O w1):=hR.stay HJ.o fB.o.size (fun k hk=>fB.o.block k (Rw.o k hk));clear y1 y4 z0 z2 z3 z4
   go_loopw [31,9] (fun i u wr=>∃(k:Nat) (O':List Nat) (x:Int),k<=(cR b p).length/\i=.int .i64 k/\
    Hid (J (ms++((cR b p).take k).flatMap (cj b mask.testBit n p m)) O' wr/\(∀o∈O',o∈O\/w1.heap.size<=o)/\aa (g3::O) w1 wr/\aD wr g3 94 (cA (upd m p x)))) (fun i _ _=>(cR b p).length-(intOf i).toNat)
   case atStart=>exact⟨0,O,0,Nat.zero_le _,rfl,(by rw[zG (HZ.o p (Nat.le_refl _))];exact⟨by simpa using HJ1.o,fun _ h=>.inl h,aa.refl _ _,H31.o⟩:_/\_/\_/\_)⟩
   case round=>
    obtain⟨k,O',x,hk,rfl,hL⟩:=hrel;by_cases ar:k<(cR b p).length
    .obtain⟨⟨blk,off,sp⟩,y,rfl,hy,y0⟩:=HS.o.1.elem HS.o.2 ar;obtain rfl:sp=none:=y0.1;have zhM:=HG.o blk rfl;have g0:=y0.2;simp only at g0;have SC:blk<w1.heap.size:=y0.lt
     have gy:wr.cell? ⟨blk,off+k,none⟩=some (.int .i64 y):=(hL.o.2.2.1.on (a:=⟨blk,off+k,none⟩) SC (by
      have:=H3.o.lt;simp only[List.mem_cons,not_or];exact⟨by omega,fun h=>by have:=Rw.o _ h;omega⟩)).trans g0
     have HY:=hid hy;have Ec:Hid (zH W0 wr b v2 v3 v4 (.func (.yield l) #[] #[]) mask g1 g2 g3 g4 g5 O'):=VJ.o.on H31.o.lt hL.o.2.2.1 hL.o.2.1;clear y0 hy g0;by_cases XG:0<p
     .have Ry:(0:Int)<(p:Int):=by omega
      have hwm:wrap64 ((p:Int)-1)=((p-1:Nat):Int):=by unfold wrap64;omega
      have q4:=Ec.o.b4.a1;by_cases XH:mask.testBit (p-1)=true
      .have zbm:=zJ hm (show p-1<4 by omega) XH;obtain⟨r0,r1,r2,r3,r4⟩:=Ec.o.b1.a5
       have r5:∀X:ah wr,X.1.cell? ⟨g3,p-1,none⟩=some (.int .i64 (m (p-1))):=fun X=>X.cell (by
        have:=hL.o.2.2.2.cell (p-1) (gG (show p-1<4 by omega) _);rwa [an _ _ (show p-1≠p by omega)]at this)
       have ZI:((p-1:Nat):Int)<4:=by omega
       have hA:∀X:ah wr,Calls ZP 116 #[.agg #[.int .i64 b.ao,.int .i64 b.places,v2,v3,v4],.int .i64 (m (p-1)),.int .i64 y] X.1 (cy X.1 fun r=>Tr r (Apart b.apart (m (p-1)) y)):=fun X=>
        na X.1 _ b _ _ (HBk.o.later (Kp.trans (Kp.of Ec.o.old) X.kp Ec.o.old.size)) HP.o
       by_cases qE:Apart b.apart (m (p-1)) y
       .have F3:Hid (cj b mask.testBit n p m y=[]):=if_pos ⟨XG,XH,qE⟩
        have XI:∀X:ah wr,Calls ZP 116 #[.agg #[.int .i64 b.ao,.int .i64 b.places,v2,v3,v4],.int .i64 (m (p-1)),.int .i64 y] X.1 (fun e jk=>e=.returned (.bool true)/\∃Y:ah wr,jk=Y.1):=fun X=>
         (hA X).mono fun e w' ⟨⟨r,h1,h2⟩,h3⟩=>⟨by cases r with
           |true=>exact h1
           |false=>exact absurd qE h2.f,X.on h3⟩
        clear hA;go_wp2
        refine am (by kernel_rfl) (by kernel_rfl) ?_;repeat(go_big_quiet_step (first|(go_at_call 116;exact XI _)))
        refine wpQuiet_nil ?_;rintro _ ⟨X,rfl⟩;have HX:Hid (aa (g3::O) w1 X.1):=hL.o.2.2.1.trans' (.of X.2);have KQ:Hid (zH W0 X.1 b v2 v3 v4 (.func (.yield l) #[] #[]) mask g1 g2 g3 g4 g5 O'):=Ec.o.on hL.o.2.2.2.lt (.of X.2) (fun _ h=>.inl h);have jp:Hid (aD X.1 g3 94 (cA (upd m p x))):=(aa.of (O:=[]) X.2).box hL.o.2.2.2 (by simp);have RA:Hid (J (ms++((cR b p).take k).flatMap (cj b mask.testBit n p m)) O' X.1):=hR.stay hL.o.1 X.2.size (fun k hk=>X.2.block k (hR.own hL.o.1 k hk).2.1);have CB:Hid (∀o∈O',o∈O\/w1.heap.size<=o):=hL.o.2.1;clear hL Ec gy;clear KQ
        have xO:Hid (J (ms++((cR b p).take (k+1)).flatMap (cj b mask.testBit n p m)) O' X.1/\(∀o∈O',o∈O\/w1.heap.size<=o)/\aa (g3::O) w1 X.1/\aD X.1 g3 94 (cA (upd m p x))):=
         ⟨by rw[jF HY.o,F3.o,List.append_nil];exact RA.o,CB.out,HX.o,jp.o⟩
        go_wp2
        go_round
        case rel=>exact⟨k+1,O',x,by omega,by go_num,xO⟩
        case measure=>simp[intOf];omega
       .have F3:Hid (cj b mask.testBit n p m y=fill b mask.testBit n (p+1) (upd m p y)):=if_neg (fun h=>qE h.2.2)
        have XI:∀X:ah wr,Calls ZP 116 #[.agg #[.int .i64 b.ao,.int .i64 b.places,v2,v3,v4],.int .i64 (m (p-1)),.int .i64 y] X.1 (fun e jk=>e=.returned (.bool false)/\∃Y:ah wr,jk=Y.1):=fun X=>
         (hA X).mono fun e w' ⟨⟨r,h1,h2⟩,h3⟩=>⟨by cases r with
           |false=>exact h1
           |true=>exact absurd h2.t qE,X.on h3⟩
        clear hA;go_wp2
        refine am (by kernel_rfl) (by kernel_rfl) ?_;repeat(go_big_quiet_step (first|(go_at_call 116;exact XI _)))
        refine wpQuiet_nil ?_;rintro _ ⟨X,rfl⟩;have HX:Hid (aa (g3::O) w1 X.1):=hL.o.2.2.1.trans' (.of X.2);have KQ:Hid (zH W0 X.1 b v2 v3 v4 (.func (.yield l) #[] #[]) mask g1 g2 g3 g4 g5 O'):=Ec.o.on hL.o.2.2.2.lt (.of X.2) (fun _ h=>.inl h);have jp:Hid (aD X.1 g3 94 (cA (upd m p x))):=(aa.of (O:=[]) X.2).box hL.o.2.2.2 (by simp);have RA:Hid (J (ms++((cR b p).take k).flatMap (cj b mask.testBit n p m)) O' X.1):=hR.stay hL.o.1 X.2.size (fun k hk=>X.2.block k (hR.own hL.o.1 k hk).2.1);have CB:Hid (∀o∈O',o∈O\/w1.heap.size<=o):=hL.o.2.1;clear hL Ec gy;clear XI r0 r1 r2 r3 r4 r5 q4;have c3:X.1.cell? ⟨g3,p,none⟩=some (.int .i64 (upd m p x p)):=jp.o.cell p (gG KP _);have f3:X.1.frozen? ⟨g3,p,none⟩=false:=jp.o.cz p;have HW:Hid (aa (g3::O') X.1 (X.1.setCell ⟨g3,p,none⟩ (.int .i64 y))):=aa.set X.1 (by simp) _;have OO:Hid (zH W0 (X.1.setCell ⟨g3,p,none⟩ (.int .i64 y)) b v2 v3 v4 (.func (.yield l) #[] #[]) mask g1 g2 g3 g4 g5 O'):=KQ.o.on jp.o.lt HW.o (fun _ h=>.inl h);have qb:Hid (aD (X.1.setCell ⟨g3,p,none⟩ (.int .i64 y)) g3 94 (cA (upd m p y))):=by have:=jp.o.set p (.int .i64 y);rwa [qY KP,qX]at this
        have VK:Hid (J (ms++((cR b p).take k).flatMap (cj b mask.testBit n p m)) O' (X.1.setCell ⟨g3,p,none⟩ (.int .i64 y))):=
         hR.stay RA.o HW.o.size (fun k hk=>Below.heap_setCell _ _ _ _ (fun(e:k=g3)=>KQ.o.n3 (by rw[<-e];exact hk)))
        have c5:(X.1.setCell ⟨g3,p,none⟩ (.int .i64 y)).cell? ⟨g5,0,none⟩=some (.func (.func 140) #[] #[ptr g1,ptr g2,ptr g3,ptr g4,ptr g5]):=OO.o.b5.cell 0 rfl
        have hN:=IH.o (p+1) (by have:=Hp.o;omega) (upd m p y) (ms++((cR b p).take k).flatMap (cj b mask.testBit n p m)) O' (X.1.setCell ⟨g3,p,none⟩ (.int .i64 y))
         (fun i hi=>by rw[an _ _ (by omega)];exact HZ.o i (by omega)) OO.o qb.o VK.o (by have h1:=HL.o;have h2:=wX (f:=cj b mask.testBit n p m) HY.o;rw[F3.o]at h2;rw[List.length_append];omega)
        rw[show((p+1:Nat):Int)=(p:Int)+1 by omega]at hN
        have JC:Hid (∀o∈g3::O',o∈g3::O\/w1.heap.size<=o):=fun o ho=>by
         rcases List.mem_cons.1 ho with rfl|ho
         .exact .inl (by simp)
         .exact(CB.out o ho).imp (List.mem_cons_of_mem _) id
        have JD:Hid (aa (g3::O) w1 (X.1.setCell ⟨g3,p,none⟩ (.int .i64 y))):=HX.o.trans HW.o JC.o;go_wp2_with(go_at_call 140;refine hN.mono ?_;rintro e w2 (⟨rfl,KO,O2,sA,Ed,qZ⟩|⟨rfl,MY,MZ,qZ⟩))
        .have xO:Hid (J (ms++((cR b p).take (k+1)).flatMap (cj b mask.testBit n p m)) O2 w2/\(∀o∈O2,o∈O\/w1.heap.size<=o)/\aa (g3::O) w1 w2/\aD w2 g3 94 (cA (upd m p y))):=
          ⟨by rw[jF HY.o,<-List.append_assoc,F3.o];exact Ed,(fun o ho=>(sA o ho).elim (CB.out o) (fun h=>.inr (Nat.le_trans JD.o.size h))),JD.o.trans qZ JC.o,KO⟩
         clear KO sA Ed qZ;go_round
         case rel=>exact⟨k+1,O2,y,by omega,by go_num,xO⟩
         case measure=>simp[intOf];omega
        .go_ret;exact .inr ⟨rfl,wW HY.o (by rw[F3.o];exact MY),MZ,(aa.of fB.o).trans (JD.o.trans qZ JC.o) (fun _=>.inl)⟩
      .have zbm:=Eb hm (show p-1<4 by omega) XH;have F3:Hid (cj b mask.testBit n p m y=fill b mask.testBit n (p+1) (upd m p y)):=if_neg (fun h=>XH h.2.1);go_wp2
       refine am (by kernel_rfl) (by kernel_rfl) ?_;repeat(go_big_quiet_step (fail))
       refine wpQuiet_nil ?_;rintro _ ⟨X,rfl⟩;have HX:Hid (aa (g3::O) w1 X.1):=hL.o.2.2.1.trans' (.of X.2);have KQ:Hid (zH W0 X.1 b v2 v3 v4 (.func (.yield l) #[] #[]) mask g1 g2 g3 g4 g5 O'):=Ec.o.on hL.o.2.2.2.lt (.of X.2) (fun _ h=>.inl h);have jp:Hid (aD X.1 g3 94 (cA (upd m p x))):=(aa.of (O:=[]) X.2).box hL.o.2.2.2 (by simp);have RA:Hid (J (ms++((cR b p).take k).flatMap (cj b mask.testBit n p m)) O' X.1):=hR.stay hL.o.1 X.2.size (fun k hk=>X.2.block k (hR.own hL.o.1 k hk).2.1);have CB:Hid (∀o∈O',o∈O\/w1.heap.size<=o):=hL.o.2.1;clear hL Ec gy;clear q4;have c3:X.1.cell? ⟨g3,p,none⟩=some (.int .i64 (upd m p x p)):=jp.o.cell p (gG KP _);have f3:X.1.frozen? ⟨g3,p,none⟩=false:=jp.o.cz p;have HW:Hid (aa (g3::O') X.1 (X.1.setCell ⟨g3,p,none⟩ (.int .i64 y))):=aa.set X.1 (by simp) _;have OO:Hid (zH W0 (X.1.setCell ⟨g3,p,none⟩ (.int .i64 y)) b v2 v3 v4 (.func (.yield l) #[] #[]) mask g1 g2 g3 g4 g5 O'):=KQ.o.on jp.o.lt HW.o (fun _ h=>.inl h);have qb:Hid (aD (X.1.setCell ⟨g3,p,none⟩ (.int .i64 y)) g3 94 (cA (upd m p y))):=by have:=jp.o.set p (.int .i64 y);rwa [qY KP,qX]at this
       have VK:Hid (J (ms++((cR b p).take k).flatMap (cj b mask.testBit n p m)) O' (X.1.setCell ⟨g3,p,none⟩ (.int .i64 y))):=
        hR.stay RA.o HW.o.size (fun k hk=>Below.heap_setCell _ _ _ _ (fun(e:k=g3)=>KQ.o.n3 (by rw[<-e];exact hk)))
       have c5:(X.1.setCell ⟨g3,p,none⟩ (.int .i64 y)).cell? ⟨g5,0,none⟩=some (.func (.func 140) #[] #[ptr g1,ptr g2,ptr g3,ptr g4,ptr g5]):=OO.o.b5.cell 0 rfl
       have hN:=IH.o (p+1) (by have:=Hp.o;omega) (upd m p y) (ms++((cR b p).take k).flatMap (cj b mask.testBit n p m)) O' (X.1.setCell ⟨g3,p,none⟩ (.int .i64 y))
        (fun i hi=>by rw[an _ _ (by omega)];exact HZ.o i (by omega)) OO.o qb.o VK.o (by have h1:=HL.o;have h2:=wX (f:=cj b mask.testBit n p m) HY.o;rw[F3.o]at h2;rw[List.length_append];omega)
       rw[show((p+1:Nat):Int)=(p:Int)+1 by omega]at hN
       have JC:Hid (∀o∈g3::O',o∈g3::O\/w1.heap.size<=o):=fun o ho=>by
        rcases List.mem_cons.1 ho with rfl|ho
        .exact .inl (by simp)
        .exact(CB.out o ho).imp (List.mem_cons_of_mem _) id
       have JD:Hid (aa (g3::O) w1 (X.1.setCell ⟨g3,p,none⟩ (.int .i64 y))):=HX.o.trans HW.o JC.o;go_wp2_with(go_at_call 140;refine hN.mono ?_;rintro e w2 (⟨rfl,KO,O2,sA,Ed,qZ⟩|⟨rfl,MY,MZ,qZ⟩))
       .have xO:Hid (J (ms++((cR b p).take (k+1)).flatMap (cj b mask.testBit n p m)) O2 w2/\(∀o∈O2,o∈O\/w1.heap.size<=o)/\aa (g3::O) w1 w2/\aD w2 g3 94 (cA (upd m p y))):=
         ⟨by rw[jF HY.o,<-List.append_assoc,F3.o];exact Ed,(fun o ho=>(sA o ho).elim (CB.out o) (fun h=>.inr (Nat.le_trans JD.o.size h))),JD.o.trans qZ JC.o,KO⟩
        clear KO sA Ed qZ;go_round
        case rel=>exact⟨k+1,O2,y,by omega,by go_num,xO⟩
        case measure=>simp[intOf];omega
       .go_ret;exact .inr ⟨rfl,wW HY.o (by rw[F3.o];exact MY),MZ,(aa.of fB.o).trans (JD.o.trans qZ JC.o) (fun _=>.inl)⟩
     .have Ry:¬(0:Int)<(p:Int):=by omega
      have F3:Hid (cj b mask.testBit n p m y=fill b mask.testBit n (p+1) (upd m p y)):=if_neg (fun h=>XG h.1);go_wp2
      refine am (by kernel_rfl) (by kernel_rfl) ?_;repeat(go_big_quiet_step (fail))
      refine wpQuiet_nil ?_;rintro _ ⟨X,rfl⟩;have HX:Hid (aa (g3::O) w1 X.1):=hL.o.2.2.1.trans' (.of X.2);have KQ:Hid (zH W0 X.1 b v2 v3 v4 (.func (.yield l) #[] #[]) mask g1 g2 g3 g4 g5 O'):=Ec.o.on hL.o.2.2.2.lt (.of X.2) (fun _ h=>.inl h);have jp:Hid (aD X.1 g3 94 (cA (upd m p x))):=(aa.of (O:=[]) X.2).box hL.o.2.2.2 (by simp);have RA:Hid (J (ms++((cR b p).take k).flatMap (cj b mask.testBit n p m)) O' X.1):=hR.stay hL.o.1 X.2.size (fun k hk=>X.2.block k (hR.own hL.o.1 k hk).2.1);have CB:Hid (∀o∈O',o∈O\/w1.heap.size<=o):=hL.o.2.1;clear hL Ec gy;have c3:X.1.cell? ⟨g3,p,none⟩=some (.int .i64 (upd m p x p)):=jp.o.cell p (gG KP _);have f3:X.1.frozen? ⟨g3,p,none⟩=false:=jp.o.cz p;have HW:Hid (aa (g3::O') X.1 (X.1.setCell ⟨g3,p,none⟩ (.int .i64 y))):=aa.set X.1 (by simp) _;have OO:Hid (zH W0 (X.1.setCell ⟨g3,p,none⟩ (.int .i64 y)) b v2 v3 v4 (.func (.yield l) #[] #[]) mask g1 g2 g3 g4 g5 O'):=KQ.o.on jp.o.lt HW.o (fun _ h=>.inl h);have qb:Hid (aD (X.1.setCell ⟨g3,p,none⟩ (.int .i64 y)) g3 94 (cA (upd m p y))):=by have:=jp.o.set p (.int .i64 y);rwa [qY KP,qX]at this
      have VK:Hid (J (ms++((cR b p).take k).flatMap (cj b mask.testBit n p m)) O' (X.1.setCell ⟨g3,p,none⟩ (.int .i64 y))):=
       hR.stay RA.o HW.o.size (fun k hk=>Below.heap_setCell _ _ _ _ (fun(e:k=g3)=>KQ.o.n3 (by rw[<-e];exact hk)))
      have c5:(X.1.setCell ⟨g3,p,none⟩ (.int .i64 y)).cell? ⟨g5,0,none⟩=some (.func (.func 140) #[] #[ptr g1,ptr g2,ptr g3,ptr g4,ptr g5]):=OO.o.b5.cell 0 rfl
      have hN:=IH.o (p+1) (by have:=Hp.o;omega) (upd m p y) (ms++((cR b p).take k).flatMap (cj b mask.testBit n p m)) O' (X.1.setCell ⟨g3,p,none⟩ (.int .i64 y))
       (fun i hi=>by rw[an _ _ (by omega)];exact HZ.o i (by omega)) OO.o qb.o VK.o (by have h1:=HL.o;have h2:=wX (f:=cj b mask.testBit n p m) HY.o;rw[F3.o]at h2;rw[List.length_append];omega)
      rw[show((p+1:Nat):Int)=(p:Int)+1 by omega]at hN
      have JC:Hid (∀o∈g3::O',o∈g3::O\/w1.heap.size<=o):=fun o ho=>by
       rcases List.mem_cons.1 ho with rfl|ho
       .exact .inl (by simp)
       .exact(CB.out o ho).imp (List.mem_cons_of_mem _) id
      have JD:Hid (aa (g3::O) w1 (X.1.setCell ⟨g3,p,none⟩ (.int .i64 y))):=HX.o.trans HW.o JC.o;go_wp2_with(go_at_call 140;refine hN.mono ?_;rintro e w2 (⟨rfl,KO,O2,sA,Ed,qZ⟩|⟨rfl,MY,MZ,qZ⟩))
      .have xO:Hid (J (ms++((cR b p).take (k+1)).flatMap (cj b mask.testBit n p m)) O2 w2/\(∀o∈O2,o∈O\/w1.heap.size<=o)/\aa (g3::O) w1 w2/\aD w2 g3 94 (cA (upd m p y))):=
        ⟨by rw[jF HY.o,<-List.append_assoc,F3.o];exact Ed,(fun o ho=>(sA o ho).elim (CB.out o) (fun h=>.inr (Nat.le_trans JD.o.size h))),JD.o.trans qZ JC.o,KO⟩
       clear KO sA Ed qZ;go_round
       case rel=>exact⟨k+1,O2,y,by omega,by go_num,xO⟩
       case measure=>simp[intOf];omega
      .go_ret;exact .inr ⟨rfl,wW HY.o (by rw[F3.o];exact MY),MZ,(aa.of fB.o).trans (JD.o.trans qZ JC.o) (fun _=>.inl)⟩
    .have e:k=(cR b p).length:=by omega
     subst e;have c3:wr.cell? ⟨g3,p,none⟩=some (.int .i64 (upd m p x p)):=hL.o.2.2.2.cell p (gG KP _);have f3:wr.frozen? ⟨g3,p,none⟩=false:=hL.o.2.2.2.cz p;have Ec:Hid (zH W0 wr b v2 v3 v4 (.func (.yield l) #[] #[]) mask g1 g2 g3 g4 g5 O'):=VJ.o.on H31.o.lt hL.o.2.2.1 hL.o.2.1;go_wp2
     go_ret;have hW:aa (g3::O') wr (wr.setCell ⟨g3,p,none⟩ (.int .i64 0)):=aa.set wr (by simp) _;have MX:=hL.o.2.1;have hs:=fB.o.size;refine .inl ⟨rfl,?_,O',(fun o ho=>(MX o ho).imp id (fun h=>by omega)),?_,?_⟩
     .have:=hL.o.2.2.2.set p (.int .i64 0);rwa [qY KP,qX,zG (HZ.o p (Nat.le_refl _))]at this
     .refine hR.stay ?_ hW.size (fun k hk=>Below.heap_setCell _ _ _ _ (fun(e:k=g3)=>Ec.o.n3 (by rw[<-e];exact hk)));have:=hL.o.1;rwa [List.take_length]at this
     .refine(aa.of fB.o).trans (hL.o.2.2.1.trans hW fun o ho=>?_) (fun _=>.inl);rcases List.mem_cons.1 ho with rfl|ho
      .exact .inl (by simp)
      .exact(MX o ho).imp (List.mem_cons_of_mem _) id
  .rw[wV XF]at hlen⊢;have zbj:=Eb hm KP XF;have y5:=HI.o.b5.c1;have hC:=ih (p+1) (by omega) m ms O W (fun i hi=>hz i (by omega)) HI.o H3.o hJ hlen;rw[show((p+1:Nat):Int)=(p:Int)+1 by omega]at hC;clear ih hp;go_enter ZF140,Tryz.ntmps140
   go_wp2_with(go_at_call 140;refine hC.mono ?_;rintro e w1 (⟨rfl,hx⟩|⟨rfl,hx⟩))
   .go_ret;exact .inl ⟨rfl,hx⟩
   .go_ret;exact .inr ⟨rfl,hx⟩
theorem aa.eY (h:aa O W W') (o:Obj):aa O W (W'.alloc o):=h.trans (aa.alloc [] W' o) (fun _ h=>by cases h)
theorem JE {N:Nat}
 (hb:au W0 (.agg #[.int .i64 b.ao,.int .i64 b.places,v2,v3,v4]) b) (hv:Valid b) (hm:mask<16) (hN:(N:Int)=b.places) (hR:wU W0 g1 g4 l K J Jx)
 (h1:aD W g1 78 #[.int .i64 b.ao,.int .i64 b.places,v2,v3,v4]) (h4:aD W g4 3 #[.int .i64 mask]) (hold:Below W0.heap.size W0 W) (hJ:J [] O W) (hlen:(fill b mask.testBit N 0 (fun _=>0)).length<=K):
 Calls ZP 139 #[.func (.yield l) #[] #[],ptr g1,ptr g4] W (CA J Jx (fill b mask.testBit N 0 (fun _=>0)) O W):=by
 obtain⟨A1,bI⟩:=ex1 (W.alloc (.cells #[.func (.yield l) #[] #[]] 104));obtain⟨A2,cF⟩:=ex1 (A1.alloc (.cells #[.int .i64 0,.int .i64 0,.int .i64 0,.int .i64 0] 94));obtain⟨A3,gh⟩:=ex1 (A2.alloc (.cells #[.nilFunc] 121));have fW:=snew bI;have mt:=snew2 cF fW;have Ay:=snew2 gh mt
 have b2:aD A3 W.heap.size 104 #[.func (.yield l) #[] #[]]:=by
  rw[<-gh];refine(aa.alloc [] _ _).box ?_ (by simp);rw[<-cF];refine(aa.alloc [] _ _).box ?_ (by simp);rw[<-bI];exact aD.new _ _ _
 have b3:aD A3 (W.heap.size+1) 94 (cA fun _=>0):=by
  rw[<-gh];refine(aa.alloc [] _ _).box ?_ (by simp);rw[<-cF,<-fW];exact aD.new _ _ _
 have b5:=(bnew2 gh mt).o;have od:aa [] W A3:=by rw[<-gh,<-cF,<-bI];exact((aa.alloc _ _ _).eY _).eY _
 obtain⟨F,hF⟩:∃F:Value,.func (.func 140) #[] #[ptr g1,ptr W.heap.size,ptr (W.heap.size+1),ptr g4,ptr (W.heap.size+1+1)]=F:=⟨_,rfl⟩
 obtain⟨A4,kF⟩:=ex1 (A3.setCell ⟨W.heap.size+1+1,0,none⟩ F);have mT:aa [W.heap.size+1+1] A3 A4:=by rw[<-kF];exact aa.set A3 (by simp) _
 have RB:aD A4 (W.heap.size+1+1) 121 #[F]:=by rw[<-kF];exact b5.set 0 F
 have hO:∀k∈O,W0.heap.size<=k/\k<W.heap.size/\k∉ [g1,g4]:=fun k hk=>hR.own hJ k hk;have hk:aa [] W A4:=od.trans mT (by simp;omega);have B7:=h1.lt;have zbn:=h4.lt;have bQ:=hold.size
 have hI:zH W0 A4 b v2 v3 v4 (.func (.yield l) #[] #[]) mask g1 W.heap.size (W.heap.size+1) g4 (W.heap.size+1+1) O:=by
  refine⟨hk.box h1 (by simp),mT.box b2 (by simp;omega),hk.box h4 (by simp),by rw[hF];exact RB,?_,?_,?_,?_,?_,by omega,by omega,by omega,by omega,by omega,hold.trans (hk.below (by simp) bQ),fun k hx=>(hO k hx).1⟩
  .intro hx;exact(hO _ hx).2.2 (by simp)
  .intro hx;have:=(hO _ hx).2.1;omega
  .intro hx;have:=(hO _ hx).2.1;omega
  .intro hx;exact(hO _ hx).2.2 (by simp)
  .intro hx;have:=(hO _ hx).2.1;omega
 have VL:J [] O A4:=hR.stay hJ hk.size (fun k hx=>hk.block k (hO k hx).2.1 (by simp));have hC:=JB hb hv hm hR N 0 (by omega) (fun _=>0) [] O A4 (fun _ _=>rfl) hI (mT.box b3 (by simp)) VL (by simpa using hlen);have c5:=b5.c1;have f5:A3.frozen? ⟨W.heap.size+1+1,0,none⟩=false:=b5.cz 0;have c6:=RB.c1;have HK:=hid hk;rw[<-hF]at c6;clear hlen hI VL hb hv hR h1 h4 hold hJ b2 b3 b5 RB od mT hk B7 zbn bQ hO;subst hF;have bM:∀(a:Addr) (f:Fn) (x y:Array Value) (w:World),(store a (.func f x y) .plain).run ZP w=stored ZP w a (.func f x y) .plain:=fun a f x y w=>run_store ZP w a _ _ rfl;go_enter ZF139,Tryz.ntmps139
 go_wp2_with(go_at_call 140;refine hC.mono ?_;rintro e w1 (⟨rfl,hB,O2,sA,Ed,qZ⟩|⟨rfl,MY,MZ,qZ⟩))
 .go_end0
  refine⟨⟨_,rfl⟩,.inl ⟨O2,(fun k hk=>(sA k hk).imp id (fun h=>Nat.le_trans HK.o.size h)),Ed,(HK.o.mono (O':=O) (by simp)).trans qZ fun x hx=>?_⟩⟩;rcases List.mem_cons.1 hx with rfl|hx
  .exact .inr (by omega)
  .exact .inl hx
 .go_end0
  refine⟨⟨_,rfl⟩,.inr ⟨MY,MZ,(HK.o.mono (O':=O) (by simp)).trans qZ fun x hx=>?_⟩⟩;rcases List.mem_cons.1 hx with rfl|hx
  .exact .inr (by omega)
  .exact .inl hx
def zbo (w:World) (b:ai) (v2 v3 v4:Value) (mask:Nat) (e:Ending) (w':World):Prop:=
 e=.returned (.func (.func 139) #[] #[ptr w.heap.size,ptr (w.heap.size+1)])/\w'=(w.alloc (.cells #[.int .i64 b.ao,.int .i64 b.places,v2,v3,v4] 78)).alloc (.cells #[.int .i64 mask] 3)
theorem CD (w:World) (b:ai) (v2 v3 v4:Value) (mask:Nat):Calls ZP 126 #[.agg #[.int .i64 b.ao,.int .i64 b.places,v2,v3,v4],.int .i64 mask] w (zbo w b v2 v3 v4 mask):=by
 go_enter ZF126,Tryz.ntmps126
 go_wp2
 go_ret;exact⟨rfl,rfl⟩
end Go.Proofs.Cz
