/- A part. Conditions: none. -/
import Derived.Test.YtboiakcocelkmaaGreatDoorT27
import Derived.RangeFuncNested
import Derived.RangeFuncBound
import Derived.RangeFuncCalls
import Derived.RangeFuncLeaves
import Derived.Shelf.Abstract
import Derived.Shelf.RegionOpen
import Derived.OwnWalkIn
import Derived.TacticsInMore
import Derived.LoopNIn
import Derived.LoopIn
set_option linter.all false
set_option maxHeartbeats 8000000
set_option maxRecDepth 100000
namespace Go.Proofs.Cz
open Go.RowKit
variable {J:List (Nat->Int)->List Nat->World->Prop} {Jx:World->Prop} {K g1 g2 g3 g4 g5 k l mask n p:Nat} {O:List Nat} {W W' W0:World} {b:ao} {bit:Nat->Bool} {m:Nat->Int} {v2 v3 v4:Value} {x:Int} {α:Type}
attribute [local go_sem] Oper.semAt_some
def upd (m:Nat->Int) (p:Nat) (k:Int):Nat->Int:=fun i=>if i=p then k else m i
theorem gu (m:Nat->Int) (p:Nat) (k:Int):upd m p k p=k:=by simp[upd]
theorem bR (m:Nat->Int) {i:Nat} (k:Int) (h:i≠p):upd m p k i=m i:=by simp[upd,h]
theorem ra (m:Nat->Int) (p:Nat) (x k:Int):upd (upd m p x) p k=upd m p k:=by funext i;unfold upd;split<;>rfl
theorem zB (h:m p=0):upd m p 0=m:=by funext i;unfold upd;split<;>simp_all
def cW (m:Nat->Int):Array Value:=#[.int .i64 (m 0),.int .i64 (m 1),.int .i64 (m 2),.int .i64 (m 3)]
theorem rb (hp:p<4) (m:Nat->Int) (k:Int):(cW m).setIfInBounds p (.int .i64 k)=cW (upd m p k):=by
 match p,hp with
 |0,_=>simp[cW,upd]
 |1,_=>simp[cW,upd]
 |2,_=>simp[cW,upd]
 |3,_=>simp[cW,upd]
theorem i6 (hp:p<4) (m:Nat->Int):(cW m)[p]?=some (.int .i64 (m p)):=by
 match p,hp with
 |0,_=>rfl
 |1,_=>rfl
 |2,_=>rfl
 |3,_=>rfl
open Classical in
noncomputable def fill (b:ao) (bit:Nat->Bool):Nat->Nat->(Nat->Int)->List (Nat->Int)
 |0,_,m=>[m]
 |n+1,p,m=>
  if bit p=true then(df b p).flatMap fun k=>if 0<p/\bit (p-1)=true/\Apart b.apart (m (p-1)) k then []else fill b bit n (p+1) (upd m p k)
  else fill b bit n (p+1) m
abbrev ptr (g:Nat):Value:=.pointer (some ⟨g,0,none⟩)
structure zC (W0 W:World) (b:ao) (v2 v3 v4 y:Value) (mask:Nat) (g1 g2 g3 g4 g5:Nat) (O:List Nat):Prop where
 b1:aF W g1 66 #[.int .i64 b.ak,.int .i64 b.places,v2,v3,v4]
 b2:aF W g2 93 #[y]
 b4:aF W g4 3 #[.int .i64 mask]
 b5:aF W g5 102 #[.func (.func 139) #[] #[ptr g1,ptr g2,ptr g3,ptr g4,ptr g5]]
 n1:g1∉O
 n2:g2∉O
 n3:g3∉O
 n4:g4∉O
 n5:g5∉O
 d1:g1≠g3
 d2:g2≠g3
 d4:g4≠g3
 d5:g5≠g3
 ge:W0.heap.size<=g3
 old:Below W0.heap.size W0 W
 Vg:∀k∈O,W0.heap.size<=k
theorem zC.on {y:Value} {O':List Nat} (h:zC W0 W b v2 v3 v4 y mask g1 g2 g3 g4 g5 O) (h3:g3<W.heap.size)
 (hk:ac (g3::O) W W') (hO:∀k∈O',k∈O\/W.heap.size<=k):zC W0 W' b v2 v3 v4 y mask g1 g2 g3 g4 g5 O':=by
 have l1:=h.b1.lt;have l2:=h.b2.lt;have l4:=h.b4.lt;have l5:=h.b5.lt
 have hW:=h.old.size
 refine⟨hk.box h.b1 (by simp[h.d1,h.n1]),hk.box h.b2 (by simp[h.d2,h.n2]),hk.box h.b4 (by simp[h.d4,h.n4]),hk.box h.b5 (by simp[h.d5,h.n5]),?_,?_,?_,?_,?_,h.d1,h.d2,h.d4,h.d5,h.ge,
  h.old.trans (hk.below (fun k hx=>by rcases List.mem_cons.1 hx with rfl|hx;exact h.ge;exact h.Vg k hx) hW),fun k hx=>(hO k hx).elim (h.Vg k) (fun hx=>by omega)⟩
 .intro hx;exact(hO _ hx).elim h.n1 (fun hx=>by omega)
 .intro hx;exact(hO _ hx).elim h.n2 (fun hx=>by omega)
 .intro hx;exact(hO _ hx).elim h.n3 (fun hx=>by omega)
 .intro hx;exact(hO _ hx).elim h.n4 (fun hx=>by omega)
 .intro hx;exact(hO _ hx).elim h.n5 (fun hx=>by omega)
def wU (J:List (Nat->Int)->List Nat->World->Prop) (Jx:World->Prop) (g3:Nat) (L:List (Nat->Int)) (m:Nat->Int) (ms:List (Nat->Int)) (O:List Nat) (W:World) (e:Ending) (W':World):Prop:=
 (e=.returned (.bool true)/\aF W' g3 86 (cW m)/\∃O',(∀k∈O',k∈O\/W.heap.size<=k)/\J (ms++L) O' W'/\ac (g3::O) W W')\/
 (e=.returned (.bool false)/\L≠ []/\Jx W'/\ac (g3::O) W W')
abbrev wV (W0:World) (g1 g4 l K:Nat) (J:List (Nat->Int)->List Nat->World->Prop) (Jx:World->Prop):Prop:=
 Cs ZP W0.heap.size [g1,g4] l (fun m=>.agg (cW m)) K J Jx
theorem FI {ms:List (Nat->Int)}
 (hp:(p:Int)=b.places) (hR:wV W0 g1 g4 l K J Jx) (hI:zC W0 W b v2 v3 v4 (.func (.yield l) #[] #[]) mask g1 g2 g3 g4 g5 O) (h3:aF W g3 86 (cW m)) (hJ:J ms O W) (hlen:ms.length<K):
 Calls ZP 139 #[.int .i64 p,ptr g1,ptr g2,ptr g3,ptr g4,ptr g5] W (wU J Jx g3 [m] m ms O W):=by
 obtain⟨fn,tmps,assign,body,hy,hr⟩:=hR.yield ms m O W hJ hlen;obtain⟨y0,y1⟩:=hI.b1.c2;have y2:=hI.b2.c1;obtain⟨x0,x1,x2,x3⟩:=h3.c4;simp only[cW]at hy;have HI:=hid hI;have H3:=hid h3;clear hI h3 hR;refine(callsIn_wide (n:=0)).1 ?_;refine callsIn_of_wp ZF139 rfl trivial ?_
 simp only[Tryz.ntmps139,List.size_toArray,List.length_cons,List.length_nil,Nat.reduceAdd,Nat.reduceSub,Array.replicate_succ,
  Array.replicate_zero,List.push_toArray,List.append_toArray,List.nil_append,List.cons_append]
 gi_wp2
 refine⟨rfl,hr.mono ?_⟩;rintro e W' (⟨rfl,O',MM,hJ',hk⟩|⟨rfl,hx,hk⟩)
 .gi_wp2
  go_ret;exact .inl ⟨rfl,hk.box H3.o HI.o.n3,O',MM,hJ',hk.mono fun x hx=>.inl (List.mem_cons_of_mem _ hx)⟩
 .gi_wp2
  go_ret;exact .inr ⟨rfl,(by simp),hx,hk.mono fun x hx=>.inl (List.mem_cons_of_mem _ hx)⟩
theorem zD:∀(mask:Fin 16) (p:Fin 4),bits BinOp.and IntKind.i64 (((mask.1:Nat):Int)/2^p.1) 1=if mask.1.testBit p.1 then 1 else 0:=by decide+kernel
theorem zE (hm:mask<16) (hp:p<4) (h:mask.testBit p=true):bits BinOp.and IntKind.i64 ((mask:Int)/2^p) 1=1:=by
 have:=zD ⟨mask,hm⟩ ⟨p,hp⟩;rwa [if_pos h]at this
theorem D3 (hm:mask<16) (hp:p<4) (h:¬mask.testBit p=true):bits BinOp.and IntKind.i64 ((mask:Int)/2^p) 1=0:=by
 have:=zD ⟨mask,hm⟩ ⟨p,hp⟩;rwa [if_neg h]at this
noncomputable abbrev cn (b:ao) (bit:Nat->Bool) (n p:Nat) (m:Nat->Int) (k:Int):List (Nat->Int):=
 open Classical in if 0<p/\bit (p-1)=true/\Apart b.apart (m (p-1)) k then []else fill b bit n (p+1) (upd m p k)
theorem wW (h:¬bit p=true):fill b bit (n+1) p m=fill b bit n (p+1) m:=by
 rw[fill,if_neg h]
theorem sE (h:bit p=true):fill b bit (n+1) p m=(df b p).flatMap (cn b bit n p m):=by
 rw[fill,if_pos h]
theorem jI {l:List Int} {f:Int->List α} (hx:l[k]?=some x):(l.take (k+1)).flatMap f=(l.take k).flatMap f++f x:=by
 rw[List.take_add_one,hx];simp
theorem wX {l:List Int} {f:Int->List α} (hx:l[k]?=some x) (h:f x≠ []):l.flatMap f≠ []:=fun he=>by
 rw[List.flatMap_eq_nil_iff]at he;exact h (he x (List.mem_of_getElem? hx))
theorem wY {l:List Int} {f:Int->List α} (hx:l[k]?=some x):((l.take k).flatMap f).length+(f x).length<=(l.flatMap f).length:=by
 have h:l=l.take (k+1)++l.drop (k+1):=(List.take_append_drop _ _).symm
 have h2:(l.flatMap f).length=((l.take (k+1)).flatMap f).length+((l.drop (k+1)).flatMap f).length:=by
  conv=>lhs;rw[h]
  rw[List.flatMap_append,List.length_append]
 rw[jI hx,List.length_append]at h2;omega
theorem Jj
 (hb:au W0 (.agg #[.int .i64 b.ak,.int .i64 b.places,v2,v3,v4]) b) (hv:Valid b) (hm:mask<16) (hR:wV W0 g1 g4 l K J Jx):
 ∀(n p:Nat),((p+n:Nat):Int)=b.places->∀(m:Nat->Int) (ms:List (Nat->Int)) (O:List Nat) (W:World),(∀i,p<=i->m i=0)->
  zC W0 W b v2 v3 v4 (.func (.yield l) #[] #[]) mask g1 g2 g3 g4 g5 O->aF W g3 86 (cW m)->J ms O W->ms.length+(fill b mask.testBit n p m).length<=K->
  Calls ZP 139 #[.int .i64 p,ptr g1,ptr g2,ptr g3,ptr g4,ptr g5] W (wU J Jx g3 (fill b mask.testBit n p m) m ms O W):=by
 intro n;induction n with
 |zero=>exact fun p hp m ms O W _ hI h3 hJ hlen=>FI hp hR hI h3 hJ (by simp only[fill,List.length_cons,List.length_nil]at hlen;omega)
 |succ n ih=>
  intro p hp m ms O W hz hI h3 hJ hlen;have oz:=hv.places;have KI:p<4:=by omega
  obtain⟨-,y1⟩:=hI.b1.c2;have y4:=hI.b4.c1;have bJ:¬(p:Int)=b.places:=by omega
  have HI:=hid hI;have H3:=hid h3;have HM:Hid (b.parts.length<=5):=hv.parts.many.2;have HP:Hid (fE b):=hv.jG;have Hp:=hid hp;have kd:wrap64 ((p:Int)+1)=p+1:=by unfold wrap64;omega
  clear hI h3 oz hv;by_cases Xk:mask.testBit p=true
  .rw[sE Xk]at hlen⊢;have HL:=hid hlen;clear hlen;have zaI:=zE hm KI Xk;obtain⟨z0,-,z2,z3,z4⟩:=HI.o.b1.c5;have hC:=MJ W _ b p (hb.later (Kp.of HI.o.old)) HM.o
   have IH:Hid (∀(p:Nat),((p+n:Nat):Int)=b.places->∀(m:Nat->Int) (ms:List (Nat->Int)) (O:List Nat) (W:World),(∀i,p<=i->m i=0)->
    zC W0 W b v2 v3 v4 (.func (.yield l) #[] #[]) mask g1 g2 g3 g4 g5 O->aF W g3 86 (cW m)->J ms O W->ms.length+(fill b mask.testBit n p m).length<=K->
    Calls ZP 139 #[.int .i64 p,ptr g1,ptr g2,ptr g3,ptr g4,ptr g5] W (wU J Jx g3 (fill b mask.testBit n p m) m ms O W)):=ih
   have HJ:Hid (J ms O W):=hJ;have HZ:=hid hz;have HBk:=hid hb;clear ih hp hJ hz hb;go_enter ZF139,Tryz.ntmps139
   go_wp2_with(go_at_call 67
               refine hC.mono ?_;rintro e w1 ⟨⟨v,rfl,hO⟩,bj⟩;have HG:Hid (∀k,v.ownBlock=some k->W.heap.size+1<=k):=iZ hO;obtain⟨a,cap,hS,hE⟩:=an.dW hO;have HS:Hid (bH w1 v (df b p).length a cap/\_):=⟨hS,hE⟩
               have eI:=hid bj;obtain⟨rfl,l1,m1,n1,r1⟩:=hS;unfold maxLen at m1;clear hO hE n1 r1 bj)
   have Vh:Hid (zC W0 w1 b v2 v3 v4 (.func (.yield l) #[] #[]) mask g1 g2 g3 g4 g5 O):=HI.o.on H3.o.lt (.of eI.o) (fun _ h=>.inl h);have H31:Hid (aF w1 g3 86 (cW m)):=(ac.of (O:=[]) eI.o).box H3.o (by simp);have xL:Hid (∀o∈O,o<W.heap.size):=fun o ho=>(hR.own HJ.o o ho).2.1;have HJ1:Hid (J ms O w1):=hR.stay HJ.o eI.o.size (fun k hk=>eI.o.block k (xL.o k hk));clear y1 y4 z0 z2 z3 z4
   go_loopw [31,9] (fun i u wr=>∃(k:Nat) (O':List Nat) (x:Int),k<=(df b p).length/\i=.int .i64 k/\
    Hid (J (ms++((df b p).take k).flatMap (cn b mask.testBit n p m)) O' wr/\(∀o∈O',o∈O\/w1.heap.size<=o)/\ac (g3::O) w1 wr/\aF wr g3 86 (cW (upd m p x)))) (fun i _ _=>(df b p).length-(intOf i).toNat)
   case atStart=>exact⟨0,O,0,Nat.zero_le _,rfl,(by rw[zB (HZ.o p (Nat.le_refl _))];exact⟨by simpa using HJ1.o,fun _ h=>.inl h,ac.refl _ _,H31.o⟩:_/\_/\_/\_)⟩
   case round=>
    obtain⟨k,O',x,hk,rfl,hL⟩:=hrel;by_cases az:k<(df b p).length
    .obtain⟨⟨blk,off,sp⟩,y,rfl,hy,y0⟩:=HS.o.1.elem HS.o.2 az;obtain rfl:sp=none:=y0.1;have zgu:=HG.o blk rfl;have g0:=y0.2;simp only at g0;have RN:blk<w1.heap.size:=y0.lt
     have gy:wr.cell? ⟨blk,off+k,none⟩=some (.int .i64 y):=(hL.o.2.2.1.on (a:=⟨blk,off+k,none⟩) RN (by
      have:=H3.o.lt;simp only[List.mem_cons,not_or];exact⟨by omega,fun h=>by have:=xL.o _ h;omega⟩)).trans g0
     have HY:=hid hy;have D4:Hid (zC W0 wr b v2 v3 v4 (.func (.yield l) #[] #[]) mask g1 g2 g3 g4 g5 O'):=Vh.o.on H31.o.lt hL.o.2.2.1 hL.o.2.1;clear y0 hy g0;by_cases Xl:0<p
     .have hp1:(0:Int)<(p:Int):=by omega
      have hwm:wrap64 ((p:Int)-1)=((p-1:Nat):Int):=by unfold wrap64;omega
      have q4:=D4.o.b4.a1;by_cases Xm:mask.testBit (p-1)=true
      .have zaL:=zE hm (show p-1<4 by omega) Xm;obtain⟨r0,r1,r2,r3,r4⟩:=D4.o.b1.a5
       have r5:∀X:ai wr,X.1.cell? ⟨g3,p-1,none⟩=some (.int .i64 (m (p-1))):=fun X=>X.cell (by
        have:=hL.o.2.2.2.cell (p-1) (i6 (show p-1<4 by omega) _);rwa [bR _ _ (show p-1≠p by omega)]at this)
       have Y7:((p-1:Nat):Int)<4:=by omega
       have hA:∀X:ai wr,Calls ZP 106 #[.agg #[.int .i64 b.ak,.int .i64 b.places,v2,v3,v4],.int .i64 (m (p-1)),.int .i64 y] X.1 (cZ X.1 fun r=>Tr r (Apart b.apart (m (p-1)) y)):=fun X=>
        mX X.1 _ b _ _ (HBk.o.later (Kp.trans (Kp.of D4.o.old) X.kp D4.o.old.size)) HP.o
       by_cases qE:Apart b.apart (m (p-1)) y
       .have FJ:Hid (cn b mask.testBit n p m y=[]):=if_pos ⟨Xl,Xm,qE⟩
        have Xn:∀X:ai wr,Calls ZP 106 #[.agg #[.int .i64 b.ak,.int .i64 b.places,v2,v3,v4],.int .i64 (m (p-1)),.int .i64 y] X.1 (fun e gI=>e=.returned (.bool true)/\∃Y:ai wr,gI=Y.1):=fun X=>
         (hA X).mono fun e w' ⟨⟨r,h1,h2⟩,h3⟩=>⟨by cases r with
           |true=>exact h1
           |false=>exact absurd qE h2.f,X.on h3⟩
        clear hA;go_wp2
        refine am (by kernel_rfl) (by kernel_rfl) ?_;repeat(go_big_quiet_step (first|(go_at_call 106;exact Xn _)))
        refine wpQuiet_nil ?_;rintro _ ⟨X,rfl⟩;have HX:Hid (ac (g3::O) w1 X.1):=hL.o.2.2.1.trans' (.of X.2);have KJ:Hid (zC W0 X.1 b v2 v3 v4 (.func (.yield l) #[] #[]) mask g1 g2 g3 g4 g5 O'):=D4.o.on hL.o.2.2.2.lt (.of X.2) (fun _ h=>.inl h);have gi:Hid (aF X.1 g3 86 (cW (upd m p x))):=(ac.of (O:=[]) X.2).box hL.o.2.2.2 (by simp);have QS:Hid (J (ms++((df b p).take k).flatMap (cn b mask.testBit n p m)) O' X.1):=hR.stay hL.o.1 X.2.size (fun k hk=>X.2.block k (hR.own hL.o.1 k hk).2.1);have zF:Hid (∀o∈O',o∈O\/w1.heap.size<=o):=hL.o.2.1;clear hL D4 gy;clear KJ
        have AN:Hid (J (ms++((df b p).take (k+1)).flatMap (cn b mask.testBit n p m)) O' X.1/\(∀o∈O',o∈O\/w1.heap.size<=o)/\ac (g3::O) w1 X.1/\aF X.1 g3 86 (cW (upd m p x))):=
         ⟨by rw[jI HY.o,FJ.o,List.append_nil];exact QS.o,zF.out,HX.o,gi.o⟩
        go_wp2
        go_round
        case rel=>exact⟨k+1,O',x,by omega,by go_num,AN⟩
        case measure=>simp[intOf];omega
       .have FJ:Hid (cn b mask.testBit n p m y=fill b mask.testBit n (p+1) (upd m p y)):=if_neg (fun h=>qE h.2.2)
        have Xn:∀X:ai wr,Calls ZP 106 #[.agg #[.int .i64 b.ak,.int .i64 b.places,v2,v3,v4],.int .i64 (m (p-1)),.int .i64 y] X.1 (fun e gI=>e=.returned (.bool false)/\∃Y:ai wr,gI=Y.1):=fun X=>
         (hA X).mono fun e w' ⟨⟨r,h1,h2⟩,h3⟩=>⟨by cases r with
           |false=>exact h1
           |true=>exact absurd h2.t qE,X.on h3⟩
        clear hA;go_wp2
        refine am (by kernel_rfl) (by kernel_rfl) ?_;repeat(go_big_quiet_step (first|(go_at_call 106;exact Xn _)))
        refine wpQuiet_nil ?_;rintro _ ⟨X,rfl⟩;have HX:Hid (ac (g3::O) w1 X.1):=hL.o.2.2.1.trans' (.of X.2);have KJ:Hid (zC W0 X.1 b v2 v3 v4 (.func (.yield l) #[] #[]) mask g1 g2 g3 g4 g5 O'):=D4.o.on hL.o.2.2.2.lt (.of X.2) (fun _ h=>.inl h);have gi:Hid (aF X.1 g3 86 (cW (upd m p x))):=(ac.of (O:=[]) X.2).box hL.o.2.2.2 (by simp);have QS:Hid (J (ms++((df b p).take k).flatMap (cn b mask.testBit n p m)) O' X.1):=hR.stay hL.o.1 X.2.size (fun k hk=>X.2.block k (hR.own hL.o.1 k hk).2.1);have zF:Hid (∀o∈O',o∈O\/w1.heap.size<=o):=hL.o.2.1;clear hL D4 gy;clear Xn r0 r1 r2 r3 r4 r5 q4;have c3:X.1.cell? ⟨g3,p,none⟩=some (.int .i64 (upd m p x p)):=gi.o.cell p (i6 KI _);have f3:X.1.frozen? ⟨g3,p,none⟩=false:=gi.o.bM p;have HW:Hid (ac (g3::O') X.1 (X.1.setCell ⟨g3,p,none⟩ (.int .i64 y))):=ac.set X.1 (by simp) _;have OA:Hid (zC W0 (X.1.setCell ⟨g3,p,none⟩ (.int .i64 y)) b v2 v3 v4 (.func (.yield l) #[] #[]) mask g1 g2 g3 g4 g5 O'):=KJ.o.on gi.o.lt HW.o (fun _ h=>.inl h);have oC:Hid (aF (X.1.setCell ⟨g3,p,none⟩ (.int .i64 y)) g3 86 (cW (upd m p y))):=by have:=gi.o.set p (.int .i64 y);rwa [rb KI,ra]at this
        have Vi:Hid (J (ms++((df b p).take k).flatMap (cn b mask.testBit n p m)) O' (X.1.setCell ⟨g3,p,none⟩ (.int .i64 y))):=
         hR.stay QS.o HW.o.size (fun k hk=>Below.heap_setCell _ _ _ _ (fun(e:k=g3)=>KJ.o.n3 (by rw[<-e];exact hk)))
        have c5:(X.1.setCell ⟨g3,p,none⟩ (.int .i64 y)).cell? ⟨g5,0,none⟩=some (.func (.func 139) #[] #[ptr g1,ptr g2,ptr g3,ptr g4,ptr g5]):=OA.o.b5.cell 0 rfl
        have hN:=IH.o (p+1) (by have:=Hp.o;omega) (upd m p y) (ms++((df b p).take k).flatMap (cn b mask.testBit n p m)) O' (X.1.setCell ⟨g3,p,none⟩ (.int .i64 y))
         (fun i hi=>by rw[bR _ _ (by omega)];exact HZ.o i (by omega)) OA.o oC.o Vi.o (by have h1:=HL.o;have h2:=wY (f:=cn b mask.testBit n p m) HY.o;rw[FJ.o]at h2;rw[List.length_append];omega)
        rw[show((p+1:Nat):Int)=(p:Int)+1 by omega]at hN
        have Cu:Hid (∀o∈g3::O',o∈g3::O\/w1.heap.size<=o):=fun o ho=>by
         rcases List.mem_cons.1 ho with rfl|ho
         .exact .inl (by simp)
         .exact(zF.out o ho).imp (List.mem_cons_of_mem _) id
        have Jk:Hid (ac (g3::O) w1 (X.1.setCell ⟨g3,p,none⟩ (.int .i64 y))):=HX.o.trans HW.o Cu.o;go_wp2_with(go_at_call 139;refine hN.mono ?_;rintro e w2 (⟨rfl,KG,O2,sD,D5,rc⟩|⟨rfl,MN,MO,rc⟩))
        .have AN:Hid (J (ms++((df b p).take (k+1)).flatMap (cn b mask.testBit n p m)) O2 w2/\(∀o∈O2,o∈O\/w1.heap.size<=o)/\ac (g3::O) w1 w2/\aF w2 g3 86 (cW (upd m p y))):=
          ⟨by rw[jI HY.o,<-List.append_assoc,FJ.o];exact D5,(fun o ho=>(sD o ho).elim (zF.out o) (fun h=>.inr (Nat.le_trans Jk.o.size h))),Jk.o.trans rc Cu.o,KG⟩
         clear KG sD D5 rc;go_round
         case rel=>exact⟨k+1,O2,y,by omega,by go_num,AN⟩
         case measure=>simp[intOf];omega
        .go_ret;exact .inr ⟨rfl,wX HY.o (by rw[FJ.o];exact MN),MO,(ac.of eI.o).trans (Jk.o.trans rc Cu.o) (fun _=>.inl)⟩
      .have zaL:=D3 hm (show p-1<4 by omega) Xm;have FJ:Hid (cn b mask.testBit n p m y=fill b mask.testBit n (p+1) (upd m p y)):=if_neg (fun h=>Xm h.2.1);go_wp2
       refine am (by kernel_rfl) (by kernel_rfl) ?_;repeat(go_big_quiet_step (fail))
       refine wpQuiet_nil ?_;rintro _ ⟨X,rfl⟩;have HX:Hid (ac (g3::O) w1 X.1):=hL.o.2.2.1.trans' (.of X.2);have KJ:Hid (zC W0 X.1 b v2 v3 v4 (.func (.yield l) #[] #[]) mask g1 g2 g3 g4 g5 O'):=D4.o.on hL.o.2.2.2.lt (.of X.2) (fun _ h=>.inl h);have gi:Hid (aF X.1 g3 86 (cW (upd m p x))):=(ac.of (O:=[]) X.2).box hL.o.2.2.2 (by simp);have QS:Hid (J (ms++((df b p).take k).flatMap (cn b mask.testBit n p m)) O' X.1):=hR.stay hL.o.1 X.2.size (fun k hk=>X.2.block k (hR.own hL.o.1 k hk).2.1);have zF:Hid (∀o∈O',o∈O\/w1.heap.size<=o):=hL.o.2.1;clear hL D4 gy;clear q4;have c3:X.1.cell? ⟨g3,p,none⟩=some (.int .i64 (upd m p x p)):=gi.o.cell p (i6 KI _);have f3:X.1.frozen? ⟨g3,p,none⟩=false:=gi.o.bM p;have HW:Hid (ac (g3::O') X.1 (X.1.setCell ⟨g3,p,none⟩ (.int .i64 y))):=ac.set X.1 (by simp) _;have OA:Hid (zC W0 (X.1.setCell ⟨g3,p,none⟩ (.int .i64 y)) b v2 v3 v4 (.func (.yield l) #[] #[]) mask g1 g2 g3 g4 g5 O'):=KJ.o.on gi.o.lt HW.o (fun _ h=>.inl h);have oC:Hid (aF (X.1.setCell ⟨g3,p,none⟩ (.int .i64 y)) g3 86 (cW (upd m p y))):=by have:=gi.o.set p (.int .i64 y);rwa [rb KI,ra]at this
       have Vi:Hid (J (ms++((df b p).take k).flatMap (cn b mask.testBit n p m)) O' (X.1.setCell ⟨g3,p,none⟩ (.int .i64 y))):=
        hR.stay QS.o HW.o.size (fun k hk=>Below.heap_setCell _ _ _ _ (fun(e:k=g3)=>KJ.o.n3 (by rw[<-e];exact hk)))
       have c5:(X.1.setCell ⟨g3,p,none⟩ (.int .i64 y)).cell? ⟨g5,0,none⟩=some (.func (.func 139) #[] #[ptr g1,ptr g2,ptr g3,ptr g4,ptr g5]):=OA.o.b5.cell 0 rfl
       have hN:=IH.o (p+1) (by have:=Hp.o;omega) (upd m p y) (ms++((df b p).take k).flatMap (cn b mask.testBit n p m)) O' (X.1.setCell ⟨g3,p,none⟩ (.int .i64 y))
        (fun i hi=>by rw[bR _ _ (by omega)];exact HZ.o i (by omega)) OA.o oC.o Vi.o (by have h1:=HL.o;have h2:=wY (f:=cn b mask.testBit n p m) HY.o;rw[FJ.o]at h2;rw[List.length_append];omega)
       rw[show((p+1:Nat):Int)=(p:Int)+1 by omega]at hN
       have Cu:Hid (∀o∈g3::O',o∈g3::O\/w1.heap.size<=o):=fun o ho=>by
        rcases List.mem_cons.1 ho with rfl|ho
        .exact .inl (by simp)
        .exact(zF.out o ho).imp (List.mem_cons_of_mem _) id
       have Jk:Hid (ac (g3::O) w1 (X.1.setCell ⟨g3,p,none⟩ (.int .i64 y))):=HX.o.trans HW.o Cu.o;go_wp2_with(go_at_call 139;refine hN.mono ?_;rintro e w2 (⟨rfl,KG,O2,sD,D5,rc⟩|⟨rfl,MN,MO,rc⟩))
       .have AN:Hid (J (ms++((df b p).take (k+1)).flatMap (cn b mask.testBit n p m)) O2 w2/\(∀o∈O2,o∈O\/w1.heap.size<=o)/\ac (g3::O) w1 w2/\aF w2 g3 86 (cW (upd m p y))):=
         ⟨by rw[jI HY.o,<-List.append_assoc,FJ.o];exact D5,(fun o ho=>(sD o ho).elim (zF.out o) (fun h=>.inr (Nat.le_trans Jk.o.size h))),Jk.o.trans rc Cu.o,KG⟩
        clear KG sD D5 rc;go_round
        case rel=>exact⟨k+1,O2,y,by omega,by go_num,AN⟩
        case measure=>simp[intOf];omega
       .go_ret;exact .inr ⟨rfl,wX HY.o (by rw[FJ.o];exact MN),MO,(ac.of eI.o).trans (Jk.o.trans rc Cu.o) (fun _=>.inl)⟩
     .have hp1:¬(0:Int)<(p:Int):=by omega
      have FJ:Hid (cn b mask.testBit n p m y=fill b mask.testBit n (p+1) (upd m p y)):=if_neg (fun h=>Xl h.1);go_wp2
      refine am (by kernel_rfl) (by kernel_rfl) ?_;repeat(go_big_quiet_step (fail))
      refine wpQuiet_nil ?_;rintro _ ⟨X,rfl⟩;have HX:Hid (ac (g3::O) w1 X.1):=hL.o.2.2.1.trans' (.of X.2);have KJ:Hid (zC W0 X.1 b v2 v3 v4 (.func (.yield l) #[] #[]) mask g1 g2 g3 g4 g5 O'):=D4.o.on hL.o.2.2.2.lt (.of X.2) (fun _ h=>.inl h);have gi:Hid (aF X.1 g3 86 (cW (upd m p x))):=(ac.of (O:=[]) X.2).box hL.o.2.2.2 (by simp);have QS:Hid (J (ms++((df b p).take k).flatMap (cn b mask.testBit n p m)) O' X.1):=hR.stay hL.o.1 X.2.size (fun k hk=>X.2.block k (hR.own hL.o.1 k hk).2.1);have zF:Hid (∀o∈O',o∈O\/w1.heap.size<=o):=hL.o.2.1;clear hL D4 gy;have c3:X.1.cell? ⟨g3,p,none⟩=some (.int .i64 (upd m p x p)):=gi.o.cell p (i6 KI _);have f3:X.1.frozen? ⟨g3,p,none⟩=false:=gi.o.bM p;have HW:Hid (ac (g3::O') X.1 (X.1.setCell ⟨g3,p,none⟩ (.int .i64 y))):=ac.set X.1 (by simp) _;have OA:Hid (zC W0 (X.1.setCell ⟨g3,p,none⟩ (.int .i64 y)) b v2 v3 v4 (.func (.yield l) #[] #[]) mask g1 g2 g3 g4 g5 O'):=KJ.o.on gi.o.lt HW.o (fun _ h=>.inl h);have oC:Hid (aF (X.1.setCell ⟨g3,p,none⟩ (.int .i64 y)) g3 86 (cW (upd m p y))):=by have:=gi.o.set p (.int .i64 y);rwa [rb KI,ra]at this
      have Vi:Hid (J (ms++((df b p).take k).flatMap (cn b mask.testBit n p m)) O' (X.1.setCell ⟨g3,p,none⟩ (.int .i64 y))):=
       hR.stay QS.o HW.o.size (fun k hk=>Below.heap_setCell _ _ _ _ (fun(e:k=g3)=>KJ.o.n3 (by rw[<-e];exact hk)))
      have c5:(X.1.setCell ⟨g3,p,none⟩ (.int .i64 y)).cell? ⟨g5,0,none⟩=some (.func (.func 139) #[] #[ptr g1,ptr g2,ptr g3,ptr g4,ptr g5]):=OA.o.b5.cell 0 rfl
      have hN:=IH.o (p+1) (by have:=Hp.o;omega) (upd m p y) (ms++((df b p).take k).flatMap (cn b mask.testBit n p m)) O' (X.1.setCell ⟨g3,p,none⟩ (.int .i64 y))
       (fun i hi=>by rw[bR _ _ (by omega)];exact HZ.o i (by omega)) OA.o oC.o Vi.o (by have h1:=HL.o;have h2:=wY (f:=cn b mask.testBit n p m) HY.o;rw[FJ.o]at h2;rw[List.length_append];omega)
      rw[show((p+1:Nat):Int)=(p:Int)+1 by omega]at hN
      have Cu:Hid (∀o∈g3::O',o∈g3::O\/w1.heap.size<=o):=fun o ho=>by
       rcases List.mem_cons.1 ho with rfl|ho
       .exact .inl (by simp)
       .exact(zF.out o ho).imp (List.mem_cons_of_mem _) id
      have Jk:Hid (ac (g3::O) w1 (X.1.setCell ⟨g3,p,none⟩ (.int .i64 y))):=HX.o.trans HW.o Cu.o;go_wp2_with(go_at_call 139;refine hN.mono ?_;rintro e w2 (⟨rfl,KG,O2,sD,D5,rc⟩|⟨rfl,MN,MO,rc⟩))
      .have AN:Hid (J (ms++((df b p).take (k+1)).flatMap (cn b mask.testBit n p m)) O2 w2/\(∀o∈O2,o∈O\/w1.heap.size<=o)/\ac (g3::O) w1 w2/\aF w2 g3 86 (cW (upd m p y))):=
        ⟨by rw[jI HY.o,<-List.append_assoc,FJ.o];exact D5,(fun o ho=>(sD o ho).elim (zF.out o) (fun h=>.inr (Nat.le_trans Jk.o.size h))),Jk.o.trans rc Cu.o,KG⟩
       clear KG sD D5 rc;go_round
       case rel=>exact⟨k+1,O2,y,by omega,by go_num,AN⟩
       case measure=>simp[intOf];omega
      .go_ret;exact .inr ⟨rfl,wX HY.o (by rw[FJ.o];exact MN),MO,(ac.of eI.o).trans (Jk.o.trans rc Cu.o) (fun _=>.inl)⟩
    .have e:k=(df b p).length:=by omega
     subst e;have c3:wr.cell? ⟨g3,p,none⟩=some (.int .i64 (upd m p x p)):=hL.o.2.2.2.cell p (i6 KI _);have f3:wr.frozen? ⟨g3,p,none⟩=false:=hL.o.2.2.2.bM p;have D4:Hid (zC W0 wr b v2 v3 v4 (.func (.yield l) #[] #[]) mask g1 g2 g3 g4 g5 O'):=Vh.o.on H31.o.lt hL.o.2.2.1 hL.o.2.1;go_wp2
     go_ret;have hW:ac (g3::O') wr (wr.setCell ⟨g3,p,none⟩ (.int .i64 0)):=ac.set wr (by simp) _;have MM:=hL.o.2.1;have hs:=eI.o.size;refine .inl ⟨rfl,?_,O',(fun o ho=>(MM o ho).imp id (fun h=>by omega)),?_,?_⟩
     .have:=hL.o.2.2.2.set p (.int .i64 0);rwa [rb KI,ra,zB (HZ.o p (Nat.le_refl _))]at this
     .refine hR.stay ?_ hW.size (fun k hk=>Below.heap_setCell _ _ _ _ (fun(e:k=g3)=>D4.o.n3 (by rw[<-e];exact hk)));have:=hL.o.1;rwa [List.take_length]at this
     .refine(ac.of eI.o).trans (hL.o.2.2.1.trans hW fun o ho=>?_) (fun _=>.inl);rcases List.mem_cons.1 ho with rfl|ho
      .exact .inl (by simp)
      .exact(MM o ho).imp (List.mem_cons_of_mem _) id
  .rw[wW Xk]at hlen⊢;have zaI:=D3 hm KI Xk;have y5:=HI.o.b5.c1;have hC:=ih (p+1) (by omega) m ms O W (fun i hi=>hz i (by omega)) HI.o H3.o hJ hlen;rw[show((p+1:Nat):Int)=(p:Int)+1 by omega]at hC;clear ih hp;go_enter ZF139,Tryz.ntmps139
   go_wp2_with(go_at_call 139;refine hC.mono ?_;rintro e w1 (⟨rfl,hx⟩|⟨rfl,hx⟩))
   .go_ret;exact .inl ⟨rfl,hx⟩
   .go_ret;exact .inr ⟨rfl,hx⟩
theorem ac.jk (h:ac O W W') (o:Obj):ac O W (W'.alloc o):=h.trans (ac.alloc [] W' o) (fun _ h=>by cases h)
theorem Jl {N:Nat}
 (hb:au W0 (.agg #[.int .i64 b.ak,.int .i64 b.places,v2,v3,v4]) b) (hv:Valid b) (hm:mask<16) (hN:(N:Int)=b.places) (hR:wV W0 g1 g4 l K J Jx)
 (h1:aF W g1 66 #[.int .i64 b.ak,.int .i64 b.places,v2,v3,v4]) (h4:aF W g4 3 #[.int .i64 mask]) (hold:Below W0.heap.size W0 W) (hJ:J [] O W) (hlen:(fill b mask.testBit N 0 (fun _=>0)).length<=K):
 Calls ZP 138 #[.func (.yield l) #[] #[],ptr g1,ptr g4] W (Ct J Jx (fill b mask.testBit N 0 (fun _=>0)) O W):=by
 obtain⟨A1,aV⟩:=ex1 (W.alloc (.cells #[.func (.yield l) #[] #[]] 93));obtain⟨A2,bY⟩:=ex1 (A1.alloc (.cells #[.int .i64 0,.int .i64 0,.int .i64 0,.int .i64 0] 86));obtain⟨A3,iI⟩:=ex1 (A2.alloc (.cells #[.nilFunc] 102));have eE:=snew aV;have mh:=snew2 bY eE;have A8:=snew2 iI mh
 have b2:aF A3 W.heap.size 93 #[.func (.yield l) #[] #[]]:=by
  rw[<-iI];refine(ac.alloc [] _ _).box ?_ (by simp);rw[<-bY];refine(ac.alloc [] _ _).box ?_ (by simp);rw[<-aV];exact aF.new _ _ _
 have b3:aF A3 (W.heap.size+1) 86 (cW fun _=>0):=by
  rw[<-iI];refine(ac.alloc [] _ _).box ?_ (by simp);rw[<-bY,<-eE];exact aF.new _ _ _
 have b5:=(bnew2 iI mh).o;have nO:ac [] W A3:=by rw[<-iI,<-bY,<-aV];exact((ac.alloc _ _ _).jk _).jk _
 obtain⟨F,hF⟩:∃F:Value,.func (.func 139) #[] #[ptr g1,ptr W.heap.size,ptr (W.heap.size+1),ptr g4,ptr (W.heap.size+1+1)]=F:=⟨_,rfl⟩
 obtain⟨A4,sF⟩:=ex1 (A3.setCell ⟨W.heap.size+1+1,0,none⟩ F);have oY:ac [W.heap.size+1+1] A3 A4:=by rw[<-sF];exact ac.set A3 (by simp) _
 have QT:aF A4 (W.heap.size+1+1) 102 #[F]:=by rw[<-sF];exact b5.set 0 F
 have hO:∀k∈O,W0.heap.size<=k/\k<W.heap.size/\k∉ [g1,g4]:=fun k hk=>hR.own hJ k hk;have hk:ac [] W A4:=nO.trans oY (by simp;omega);have y7:=h1.lt;have zaM:=h4.lt;have bX:=hold.size
 have hI:zC W0 A4 b v2 v3 v4 (.func (.yield l) #[] #[]) mask g1 W.heap.size (W.heap.size+1) g4 (W.heap.size+1+1) O:=by
  refine⟨hk.box h1 (by simp),oY.box b2 (by simp;omega),hk.box h4 (by simp),by rw[hF];exact QT,?_,?_,?_,?_,?_,by omega,by omega,by omega,by omega,by omega,hold.trans (hk.below (by simp) bX),fun k hx=>(hO k hx).1⟩
  .intro hx;exact(hO _ hx).2.2 (by simp)
  .intro hx;have:=(hO _ hx).2.1;omega
  .intro hx;have:=(hO _ hx).2.1;omega
  .intro hx;exact(hO _ hx).2.2 (by simp)
  .intro hx;have:=(hO _ hx).2.1;omega
 have Vj:J [] O A4:=hR.stay hJ hk.size (fun k hx=>hk.block k (hO k hx).2.1 (by simp));have hC:=Jj hb hv hm hR N 0 (by omega) (fun _=>0) [] O A4 (fun _ _=>rfl) hI (oY.box b3 (by simp)) Vj (by simpa using hlen);have c5:=b5.c1;have f5:A3.frozen? ⟨W.heap.size+1+1,0,none⟩=false:=b5.bM 0;have c6:=QT.c1;have HK:=hid hk;rw[<-hF]at c6;clear hlen hI Vj hb hv hR h1 h4 hold hJ b2 b3 b5 QT nO oY hk y7 zaM bX hO;subst hF;have bP:∀(a:Addr) (f:Fn) (x y:Array Value) (w:World),(store a (.func f x y) .plain).run ZP w=stored ZP w a (.func f x y) .plain:=fun a f x y w=>run_store ZP w a _ _ rfl;go_enter ZF138,Tryz.ntmps138
 go_wp2_with(go_at_call 139;refine hC.mono ?_;rintro e w1 (⟨rfl,hB,O2,sD,D5,rc⟩|⟨rfl,MN,MO,rc⟩))
 .go_end0
  refine⟨⟨_,rfl⟩,.inl ⟨O2,(fun k hk=>(sD k hk).imp id (fun h=>Nat.le_trans HK.o.size h)),D5,(HK.o.mono (O':=O) (by simp)).trans rc fun x hx=>?_⟩⟩;rcases List.mem_cons.1 hx with rfl|hx
  .exact .inr (by omega)
  .exact .inl hx
 .go_end0
  refine⟨⟨_,rfl⟩,.inr ⟨MN,MO,(HK.o.mono (O':=O) (by simp)).trans rc fun x hx=>?_⟩⟩;rcases List.mem_cons.1 hx with rfl|hx
  .exact .inr (by omega)
  .exact .inl hx
def zaN (w:World) (b:ao) (v2 v3 v4:Value) (mask:Nat) (e:Ending) (w':World):Prop:=
 e=.returned (.func (.func 138) #[] #[ptr w.heap.size,ptr (w.heap.size+1)])/\w'=(w.alloc (.cells #[.int .i64 b.ak,.int .i64 b.places,v2,v3,v4] 66)).alloc (.cells #[.int .i64 mask] 3)
theorem Cv (w:World) (b:ao) (v2 v3 v4:Value) (mask:Nat):Calls ZP 113 #[.agg #[.int .i64 b.ak,.int .i64 b.places,v2,v3,v4],.int .i64 mask] w (zaN w b v2 v3 v4 mask):=by
 go_enter ZF113,Tryz.ntmps113
 go_wp2
 go_ret;exact⟨rfl,rfl⟩
end Go.Proofs.Cz
