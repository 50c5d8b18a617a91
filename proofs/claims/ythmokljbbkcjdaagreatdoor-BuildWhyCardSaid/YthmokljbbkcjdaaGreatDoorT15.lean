/- A part of the proof that BuildWhy returns true. Conditions: none. -/
import Derived.Test.YthmokljbbkcjdaaGreatDoorT14
import Derived.RangeFuncNested
import Derived.RangeFuncBound
import Derived.RangeFuncCalls
import Derived.RangeFuncLeaves
import Derived.Shelf.Abstract
import Derived.Shelf.RegionOpen
import Derived.WalkKit
import Derived.OwnWalkIn
import Derived.TacticsInMore
import Derived.LoopNIn
import Derived.LoopIn
set_option linter.unusedVariables false
set_option linter.unusedSimpArgs false
section
namespace Go.Proofs.Cz
open Go.RowKit
attribute [local go_sem] Oper.semAt_some
def upd (m:Nat→Int) (p:Nat) (k:Int):Nat→Int:=fun i=>if i=p then k else m i
theorem upd_self (m:Nat→Int) (p:Nat) (k:Int):upd m p k p=k:=by simp[upd]
theorem upd_other (m:Nat→Int) {p i:Nat} (k:Int) (h:i≠p):upd m p k i=m i:=by simp[upd,h]
theorem upd_upd (m:Nat→Int) (p:Nat) (x k:Int):upd (upd m p x) p k=upd m p k:=by funext i;unfold upd;split<;>rfl
theorem upd_zero {m:Nat→Int} {p:Nat} (h:m p=0):upd m p 0=m:=by funext i;unfold upd;split<;>simp_all
def mac (m:Nat→Int):Array Value:=#[.int .i64 (m 0),.int .i64 (m 1),.int .i64 (m 2),.int .i64 (m 3)]
theorem mac_set {p:Nat} (hp:p<4) (m:Nat→Int) (k:Int):(mac m).setIfInBounds p (.int .i64 k)=mac (upd m p k):=by
 match p,hp with
 |0,_=>simp[mac,upd]
 |1,_=>simp[mac,upd]
 |2,_=>simp[mac,upd]
 |3,_=>simp[mac,upd]
theorem mac_get {p:Nat} (hp:p<4) (m:Nat→Int):(mac m)[p]?=some (.int .i64 (m p)):=by
 match p,hp with
 |0,_=>rfl
 |1,_=>rfl
 |2,_=>rfl
 |3,_=>rfl
open Classical in
noncomputable def fill (b:Book) (bit:Nat→Bool):Nat→Nat→(Nat→Int)→List (Nat→Int)
 |0,_,m=>[m]
 |n+1,p,m=>
  if bit p=true then(canL b p).flatMap fun k=>if 0<p∧bit (p-1)=true∧Apart b.apart (m (p-1)) k then []else fill b bit n (p+1) (upd m p k)
  else fill b bit n (p+1) m
abbrev ptr (g:Nat):Value:=.pointer (some ⟨g,0,none⟩)
structure Itr (W0 W:World) (b:Book) (v2 v3 v4 y:Value) (mask:Nat) (g1 g2 g3 g4 g5:Nat) (O:List Nat):Prop where
 b1:Box W g1 79 #[.int .i64 b.beat,.int .i64 b.places,v2,v3,v4]
 b2:Box W g2 92 #[y]
 b4:Box W g4 3 #[.int .i64 mask]
 b5:Box W g5 80 #[.func (.func 111) #[] #[ptr g1,ptr g2,ptr g3,ptr g4,ptr g5]]
 n1:g1∉O
 n2:g2∉O
 n3:g3∉O
 n4:g4∉O
 n5:g5∉O
 d1:g1≠g3
 d2:g2≠g3
 d4:g4≠g3
 d5:g5≠g3
 ge:W0.heap.size≤g3
 old:Below W0.heap.size W0 W
 geO:∀k∈O,W0.heap.size≤k
theorem Itr.on {W0 W W':World} {b:Book} {v2 v3 v4 y:Value} {mask g1 g2 g3 g4 g5:Nat} {O O':List Nat} (h:Itr W0 W b v2 v3 v4 y mask g1 g2 g3 g4 g5 O) (h3:g3<W.heap.size)
 (hk:Keep (g3::O) W W') (hO:∀k∈O',k∈O∨W.heap.size≤k):Itr W0 W' b v2 v3 v4 y mask g1 g2 g3 g4 g5 O':=by
 have l1:=h.b1.lt;have l2:=h.b2.lt;have l4:=h.b4.lt;have l5:=h.b5.lt
 have hW:=h.old.size
 refine⟨hk.box h.b1 (by simp[h.d1,h.n1]),hk.box h.b2 (by simp[h.d2,h.n2]),hk.box h.b4 (by simp[h.d4,h.n4]),hk.box h.b5 (by simp[h.d5,h.n5]),?_,?_,?_,?_,?_,h.d1,h.d2,h.d4,h.d5,h.ge,
  h.old.trans (hk.below (fun k hx=>by rcases List.mem_cons.1 hx with rfl|hx;exact h.ge;exact h.geO k hx) hW),fun k hx=>(hO k hx).elim (h.geO k) (fun hx=>by omega)⟩
 ·intro hx;exact(hO _ hx).elim h.n1 (fun hx=>by omega)
 ·intro hx;exact(hO _ hx).elim h.n2 (fun hx=>by omega)
 ·intro hx;exact(hO _ hx).elim h.n3 (fun hx=>by omega)
 ·intro hx;exact(hO _ hx).elim h.n4 (fun hx=>by omega)
 ·intro hx;exact(hO _ hx).elim h.n5 (fun hx=>by omega)
def NextEnd (J:List (Nat→Int)→List Nat→World→Prop) (Jx:World→Prop) (g3:Nat) (L:List (Nat→Int)) (m:Nat→Int) (ms:List (Nat→Int)) (O:List Nat) (W:World) (e:Ending) (W':World):Prop:=
 (e=.returned (.bool true)∧Box W' g3 91 (mac m)∧∃O',(∀k∈O',k∈O∨W.heap.size≤k)∧J (ms++L) O' W'∧Keep (g3::O) W W')∨
 (e=.returned (.bool false)∧L≠ []∧Jx W'∧Keep (g3::O) W W')
abbrev RoundsM (W0:World) (g1 g4 l K:Nat) (J:List (Nat→Int)→List Nat→World→Prop) (Jx:World→Prop):Prop:=
 Rounds Tz.prog W0.heap.size [g1,g4] l (fun m=>.agg (mac m)) K J Jx
set_option maxHeartbeats 4000000 in
theorem next_done {W0 W:World} {b:Book} {v2 v3 v4:Value} {mask g1 g2 g3 g4 g5 l K:Nat} {O:List Nat} {J:List (Nat→Int)→List Nat→World→Prop} {Jx:World→Prop} {m:Nat→Int} {ms:List (Nat→Int)} {p:Nat}
 (hp:(p:Int)=b.places) (hR:RoundsM W0 g1 g4 l K J Jx) (hI:Itr W0 W b v2 v3 v4 (.func (.yield l) #[] #[]) mask g1 g2 g3 g4 g5 O) (h3:Box W g3 91 (mac m)) (hJ:J ms O W) (hlen:ms.length<K):
 Calls Tz.prog 111 #[.int .i64 p,ptr g1,ptr g2,ptr g3,ptr g4,ptr g5] W (NextEnd J Jx g3 [m] m ms O W):=by
 obtain⟨fn,tmps,assign,body,hy,hr⟩:=hR.yield ms m O W hJ hlen
 have y0:W.cell? ⟨g1,0,none⟩=some (.int .i64 b.beat):=hI.b1.cell 0 rfl
 have y1:W.cell? ⟨g1,1,none⟩=some (.int .i64 b.places):=hI.b1.cell 1 rfl
 have y2:W.cell? ⟨g2,0,none⟩=some (.func (.yield l) #[] #[]):=hI.b2.cell 0 rfl
 have x0:W.cell? ⟨g3,0,none⟩=some (.int .i64 (m 0)):=h3.cell 0 rfl
 have x1:W.cell? ⟨g3,1,none⟩=some (.int .i64 (m 1)):=h3.cell 1 rfl
 have x2:W.cell? ⟨g3,2,none⟩=some (.int .i64 (m 2)):=h3.cell 2 rfl
 have x3:W.cell? ⟨g3,3,none⟩=some (.int .i64 (m 3)):=h3.cell 3 rfl
 simp only[mac]at hy
 have HI:Hid (Itr W0 W b v2 v3 v4 (.func (.yield l) #[] #[]) mask g1 g2 g3 g4 g5 O):=hI
 have H3:Hid (Box W g3 91 (mac m)):=h3
 clear hI h3 hR
 refine(callsIn_wide (n:=0)).1 ?_
 refine callsIn_of_wp Tz.func111 rfl trivial ?_
 simp only[Tz.ntmps111,List.size_toArray,List.length_cons,List.length_nil,Nat.reduceAdd,Nat.reduceSub,Array.replicate_succ,
  Array.replicate_zero,List.push_toArray,List.append_toArray,List.nil_append,List.cons_append]
 gi_wp2
 refine⟨rfl,hr.mono ?_⟩
 rintro e W' (⟨rfl,O',hO',hJ',hk⟩|⟨rfl,hx,hk⟩)
 ·gi_wp2
  go_ret
  exact .inl ⟨rfl,hk.box H3.out HI.out.n3,O',hO',hJ',hk.mono fun x hx=>.inl (List.mem_cons_of_mem _ hx)⟩
 ·gi_wp2
  go_ret
  exact .inr ⟨rfl,(by simp),hx,hk.mono fun x hx=>.inl (List.mem_cons_of_mem _ hx)⟩
theorem bits_one:∀(mask:Fin 16) (p:Fin 4),bits BinOp.and IntKind.i64 (((mask.1:Nat):Int)/2^p.1) 1=if mask.1.testBit p.1 then 1 else 0:=by decide+kernel
theorem bits_yes {mask p:Nat} (hm:mask<16) (hp:p<4) (h:mask.testBit p=true):bits BinOp.and IntKind.i64 ((mask:Int)/2^p) 1=1:=by
 have:=bits_one ⟨mask,hm⟩ ⟨p,hp⟩
 rwa [if_pos h]at this
theorem bits_no {mask p:Nat} (hm:mask<16) (hp:p<4) (h:¬mask.testBit p=true):bits BinOp.and IntKind.i64 ((mask:Int)/2^p) 1=0:=by
 have:=bits_one ⟨mask,hm⟩ ⟨p,hp⟩
 rwa [if_neg h]at this
noncomputable abbrev fillAt (b:Book) (bit:Nat→Bool) (n p:Nat) (m:Nat→Int) (k:Int):List (Nat→Int):=
 open Classical in if 0<p∧bit (p-1)=true∧Apart b.apart (m (p-1)) k then []else fill b bit n (p+1) (upd m p k)
theorem fill_no {b:Book} {bit:Nat→Bool} {n p:Nat} {m:Nat→Int} (h:¬bit p=true):fill b bit (n+1) p m=fill b bit n (p+1) m:=by
 rw[fill,if_neg h]
theorem fill_yes {b:Book} {bit:Nat→Bool} {n p:Nat} {m:Nat→Int} (h:bit p=true):fill b bit (n+1) p m=(canL b p).flatMap (fillAt b bit n p m):=by
 rw[fill,if_pos h]
theorem flat_succ {α:Type} {l:List Int} {f:Int→List α} {k:Nat} {x:Int} (hx:l[k]?=some x):(l.take (k+1)).flatMap f=(l.take k).flatMap f++f x:=by
 rw[List.take_add_one,hx];simp
theorem flat_ne {α:Type} {l:List Int} {f:Int→List α} {k:Nat} {x:Int} (hx:l[k]?=some x) (h:f x≠ []):l.flatMap f≠ []:=fun he=>by
 rw[List.flatMap_eq_nil_iff]at he
 exact h (he x (List.mem_of_getElem? hx))
theorem flat_le {α:Type} {l:List Int} {f:Int→List α} {k:Nat} {x:Int} (hx:l[k]?=some x):((l.take k).flatMap f).length+(f x).length≤(l.flatMap f).length:=by
 have h:l=l.take (k+1)++l.drop (k+1):=(List.take_append_drop _ _).symm
 have h2:(l.flatMap f).length=((l.take (k+1)).flatMap f).length+((l.drop (k+1)).flatMap f).length:=by
  conv=>lhs;rw[h]
  rw[List.flatMap_append,List.length_append]
 rw[flat_succ hx,List.length_append]at h2
 omega
set_option maxHeartbeats 4000000 in
set_option maxRecDepth 20000 in
theorem next_any {W0:World} {b:Book} {v2 v3 v4:Value} {mask g1 g2 g3 g4 g5 l K:Nat} {J:List (Nat→Int)→List Nat→World→Prop} {Jx:World→Prop}
 (hb:BookAt W0 (.agg #[.int .i64 b.beat,.int .i64 b.places,v2,v3,v4]) b) (hv:Valid b) (hm:mask<16) (hR:RoundsM W0 g1 g4 l K J Jx):
 ∀(n p:Nat),((p+n:Nat):Int)=b.places→∀(m:Nat→Int) (ms:List (Nat→Int)) (O:List Nat) (W:World),(∀i,p≤i→m i=0)→
  Itr W0 W b v2 v3 v4 (.func (.yield l) #[] #[]) mask g1 g2 g3 g4 g5 O→Box W g3 91 (mac m)→J ms O W→ms.length+(fill b mask.testBit n p m).length≤K→
  Calls Tz.prog 111 #[.int .i64 p,ptr g1,ptr g2,ptr g3,ptr g4,ptr g5] W (NextEnd J Jx g3 (fill b mask.testBit n p m) m ms O W):=by
 intro n
 induction n with
 |zero=>exact fun p hp m ms O W _ hI h3 hJ hlen=>next_done hp hR hI h3 hJ (by simp only[fill,List.length_cons,List.length_nil]at hlen;omega)
 |succ n ih=>
  intro p hp m ms O W hz hI h3 hJ hlen
  have hpl:=hv.places
  have hp4:p<4:=by omega
  have y1:W.cell? ⟨g1,1,none⟩=some (.int .i64 b.places):=hI.b1.cell 1 rfl
  have y4:W.cell? ⟨g4,0,none⟩=some (.int .i64 mask):=hI.b4.cell 0 rfl
  have hne:¬(p:Int)=b.places:=by omega
  have HI:Hid (Itr W0 W b v2 v3 v4 (.func (.yield l) #[] #[]) mask g1 g2 g3 g4 g5 O):=hI
  have H3:Hid (Box W g3 91 (mac m)):=h3
  have HM:Hid (b.parts.length≤5):=hv.parts.many.2
  have HP:Hid (PairsOk b):=hv.pairs
  have Hp:Hid (((p+(n+1):Nat):Int)=b.places):=hp
  have hw1:wrap64 ((p:Int)+1)=p+1:=by unfold wrap64;omega
  clear hI h3 hpl hv
  by_cases hbt:mask.testBit p=true
  ·rw[fill_yes hbt]at hlen⊢
   have HL:Hid (ms.length+((canL b p).flatMap (fillAt b mask.testBit n p m)).length≤K):=hlen
   clear hlen
   have hbt2:=bits_yes hm hp4 hbt
   have z0:W.cell? ⟨g1,0,none⟩=some (.int .i64 b.beat):=HI.out.b1.cell 0 rfl
   have z2:W.cell? ⟨g1,2,none⟩=some v2:=HI.out.b1.cell 2 rfl
   have z3:W.cell? ⟨g1,3,none⟩=some v3:=HI.out.b1.cell 3 rfl
   have z4:W.cell? ⟨g1,4,none⟩=some v4:=HI.out.b1.cell 4 rfl
   have hC:=can_own W _ b p (hb.later (Kp.of HI.out.old)) HM.out
   have IH:Hid (∀(p:Nat),((p+n:Nat):Int)=b.places→∀(m:Nat→Int) (ms:List (Nat→Int)) (O:List Nat) (W:World),(∀i,p≤i→m i=0)→
    Itr W0 W b v2 v3 v4 (.func (.yield l) #[] #[]) mask g1 g2 g3 g4 g5 O→Box W g3 91 (mac m)→J ms O W→ms.length+(fill b mask.testBit n p m).length≤K→
    Calls Tz.prog 111 #[.int .i64 p,ptr g1,ptr g2,ptr g3,ptr g4,ptr g5] W (NextEnd J Jx g3 (fill b mask.testBit n p m) m ms O W)):=ih
   have HJ:Hid (J ms O W):=hJ
   have HZ:Hid (∀i,p≤i→m i=0):=hz
   have HBk:Hid (BookAt W0 (.agg #[.int .i64 b.beat,.int .i64 b.places,v2,v3,v4]) b):=hb
   clear ih hp hJ hz hb
   go_enter Tz.func111,Tz.ntmps111
   go_wp2_with(go_at_call 76
               refine hC.mono ?_
               rintro e w1 ⟨⟨v,rfl,hO⟩,hb1⟩
               have HG:Hid (∀k,v.ownBlock=some k→W.heap.size+1≤k):=owns_ge hO
               obtain⟨a,cap,hS,hE⟩:=IntsAt.of_owns hO
               have HS:Hid (SlAt w1 v (canL b p).length a cap∧_):=⟨hS,hE⟩
               have HB1:Hid (Below W.heap.size W w1):=hb1
               obtain⟨rfl,l1,m1,n1,r1⟩:=hS
               unfold maxLen at m1
               clear hO hE n1 r1 hb1)
   have HI1:Hid (Itr W0 w1 b v2 v3 v4 (.func (.yield l) #[] #[]) mask g1 g2 g3 g4 g5 O):=HI.out.on H3.out.lt (.of HB1.out) (fun _ h=>.inl h)
   have H31:Hid (Box w1 g3 91 (mac m)):=(Keep.of (O:=[]) HB1.out).box H3.out (by simp)
   have HO1:Hid (∀o∈O,o<W.heap.size):=fun o ho=>(hR.own HJ.out o ho).2.1
   have HJ1:Hid (J ms O w1):=hR.stay HJ.out HB1.out.size (fun k hk=>HB1.out.block k (HO1.out k hk))
   clear y1 y4 z0 z2 z3 z4
   go_loopw [31,9] (fun i u wr=>∃(k:Nat) (O':List Nat) (x:Int),k≤(canL b p).length∧i=.int .i64 k∧
    Hid (J (ms++((canL b p).take k).flatMap (fillAt b mask.testBit n p m)) O' wr∧(∀o∈O',o∈O∨w1.heap.size≤o)∧Keep (g3::O) w1 wr∧Box wr g3 91 (mac (upd m p x)))) (fun i _ _=>(canL b p).length-(intOf i).toNat)
   case atStart=>exact⟨0,O,0,Nat.zero_le _,rfl,(by rw[upd_zero (HZ.out p (Nat.le_refl _))];exact⟨by simpa using HJ1.out,fun _ h=>.inl h,Keep.refl _ _,H31.out⟩:_∧_∧_∧_)⟩
   case round=>
    obtain⟨k,O',x,hk,rfl,hL⟩:=hrel
    by_cases hlt:k<(canL b p).length
    ·obtain⟨⟨blk,off,sp⟩,y,rfl,hy,y0⟩:=HS.out.1.elem HS.out.2 hlt
     obtain rfl:sp=none:=y0.1
     have hblk:=HG.out blk rfl
     have g0:=y0.2
     simp only at g0
     have hbl:blk<w1.heap.size:=y0.lt
     have gy:wr.cell? ⟨blk,off+k,none⟩=some (.int .i64 y):=(hL.out.2.2.1.on (a:=⟨blk,off+k,none⟩) hbl (by
      have:=H3.out.lt
      simp only[List.mem_cons,not_or]
      exact⟨by omega,fun h=>by have:=HO1.out _ h;omega⟩)).trans g0
     have HY:Hid ((canL b p)[k]?=some y):=hy
     have HI2:Hid (Itr W0 wr b v2 v3 v4 (.func (.yield l) #[] #[]) mask g1 g2 g3 g4 g5 O'):=HI1.out.on H31.out.lt hL.out.2.2.1 hL.out.2.1
     clear y0 hy g0
     by_cases hp0:0<p
     ·have hp1:(0:Int)<(p:Int):=by omega
      have hwm:wrap64 ((p:Int)-1)=((p-1:Nat):Int):=by unfold wrap64;omega
      have q4:∀X:After wr,X.1.cell? ⟨g4,0,none⟩=some (.int .i64 mask):=fun X=>X.cell (HI2.out.b4.cell 0 rfl)
      by_cases hbm:mask.testBit (p-1)=true
      ·have hbm2:=bits_yes hm (show p-1<4 by omega) hbm
       have r0:∀X:After wr,X.1.cell? ⟨g1,0,none⟩=some (.int .i64 b.beat):=fun X=>X.cell (HI2.out.b1.cell 0 rfl)
       have r1:∀X:After wr,X.1.cell? ⟨g1,1,none⟩=some (.int .i64 b.places):=fun X=>X.cell (HI2.out.b1.cell 1 rfl)
       have r2:∀X:After wr,X.1.cell? ⟨g1,2,none⟩=some v2:=fun X=>X.cell (HI2.out.b1.cell 2 rfl)
       have r3:∀X:After wr,X.1.cell? ⟨g1,3,none⟩=some v3:=fun X=>X.cell (HI2.out.b1.cell 3 rfl)
       have r4:∀X:After wr,X.1.cell? ⟨g1,4,none⟩=some v4:=fun X=>X.cell (HI2.out.b1.cell 4 rfl)
       have r5:∀X:After wr,X.1.cell? ⟨g3,p-1,none⟩=some (.int .i64 (m (p-1))):=fun X=>X.cell (by
        have:=hL.out.2.2.2.cell (p-1) (mac_get (show p-1<4 by omega) _)
        rwa [upd_other _ _ (show p-1≠p by omega)]at this)
       have hj4:((p-1:Nat):Int)<4:=by omega
       have hA:∀X:After wr,Calls Tz.prog 101 #[.agg #[.int .i64 b.beat,.int .i64 b.places,v2,v3,v4],.int .i64 (m (p-1)),.int .i64 y] X.1 (RetB X.1 fun r=>Tr r (Apart b.apart (m (p-1)) y)):=fun X=>
        bApart_any X.1 _ b _ _ (HBk.out.later (Kp.trans (Kp.of HI2.out.old) X.kp HI2.out.old.size)) HP.out
       by_cases hap:Apart b.apart (m (p-1)) y
       ·have hfa:Hid (fillAt b mask.testBit n p m y=[]):=if_pos ⟨hp0,hbm,hap⟩
        have hC2:∀X:After wr,Calls Tz.prog 101 #[.agg #[.int .i64 b.beat,.int .i64 b.places,v2,v3,v4],.int .i64 (m (p-1)),.int .i64 y] X.1 (fun e w''=>e=.returned (.bool true)∧∃Y:After wr,w''=Y.1):=fun X=>
         (hA X).mono fun e w' ⟨⟨r,h1,h2⟩,h3⟩=>⟨by cases r with
           |true=>exact h1
           |false=>exact absurd hap h2.f,X.on h3⟩
        clear hA
        go_wp2
        refine wp_region_after (by kernel_rfl) (by kernel_rfl) ?_
        repeat(go_big_quiet_step (first|(go_at_call 101;exact hC2 _)))
        refine wpQuiet_nil ?_
        rintro _ ⟨X,rfl⟩
        have HX:Hid (Keep (g3::O) w1 X.1):=hL.out.2.2.1.trans' (.of X.2)
        have HI3:Hid (Itr W0 X.1 b v2 v3 v4 (.func (.yield l) #[] #[]) mask g1 g2 g3 g4 g5 O'):=HI2.out.on hL.out.2.2.2.lt (.of X.2) (fun _ h=>.inl h)
        have HB3:Hid (Box X.1 g3 91 (mac (upd m p x))):=(Keep.of (O:=[]) X.2).box hL.out.2.2.2 (by simp)
        have HJ3:Hid (J (ms++((canL b p).take k).flatMap (fillAt b mask.testBit n p m)) O' X.1):=hR.stay hL.out.1 X.2.size (fun k hk=>X.2.block k (hR.own hL.out.1 k hk).2.1)
        have HO':Hid (∀o∈O',o∈O∨w1.heap.size≤o):=hL.out.2.1
        clear hL HI2 gy
        clear HI3
        have HR2:Hid (J (ms++((canL b p).take (k+1)).flatMap (fillAt b mask.testBit n p m)) O' X.1∧(∀o∈O',o∈O∨w1.heap.size≤o)∧Keep (g3::O) w1 X.1∧Box X.1 g3 91 (mac (upd m p x))):=
         ⟨by rw[flat_succ HY.out,hfa.out,List.append_nil];exact HJ3.out,HO'.out,HX.out,HB3.out⟩
        go_wp2
        go_round
        case rel=>exact⟨k+1,O',x,by omega,by go_num,HR2⟩
        case measure=>simp[intOf];omega
       ·have hfa:Hid (fillAt b mask.testBit n p m y=fill b mask.testBit n (p+1) (upd m p y)):=if_neg (fun h=>hap h.2.2)
        have hC2:∀X:After wr,Calls Tz.prog 101 #[.agg #[.int .i64 b.beat,.int .i64 b.places,v2,v3,v4],.int .i64 (m (p-1)),.int .i64 y] X.1 (fun e w''=>e=.returned (.bool false)∧∃Y:After wr,w''=Y.1):=fun X=>
         (hA X).mono fun e w' ⟨⟨r,h1,h2⟩,h3⟩=>⟨by cases r with
           |false=>exact h1
           |true=>exact absurd h2.t hap,X.on h3⟩
        clear hA
        go_wp2
        refine wp_region_after (by kernel_rfl) (by kernel_rfl) ?_
        repeat(go_big_quiet_step (first|(go_at_call 101;exact hC2 _)))
        refine wpQuiet_nil ?_
        rintro _ ⟨X,rfl⟩
        have HX:Hid (Keep (g3::O) w1 X.1):=hL.out.2.2.1.trans' (.of X.2)
        have HI3:Hid (Itr W0 X.1 b v2 v3 v4 (.func (.yield l) #[] #[]) mask g1 g2 g3 g4 g5 O'):=HI2.out.on hL.out.2.2.2.lt (.of X.2) (fun _ h=>.inl h)
        have HB3:Hid (Box X.1 g3 91 (mac (upd m p x))):=(Keep.of (O:=[]) X.2).box hL.out.2.2.2 (by simp)
        have HJ3:Hid (J (ms++((canL b p).take k).flatMap (fillAt b mask.testBit n p m)) O' X.1):=hR.stay hL.out.1 X.2.size (fun k hk=>X.2.block k (hR.own hL.out.1 k hk).2.1)
        have HO':Hid (∀o∈O',o∈O∨w1.heap.size≤o):=hL.out.2.1
        clear hL HI2 gy
        clear hC2 r0 r1 r2 r3 r4 r5 q4
        have c3:X.1.cell? ⟨g3,p,none⟩=some (.int .i64 (upd m p x p)):=HB3.out.cell p (mac_get hp4 _)
        have f3:X.1.frozen? ⟨g3,p,none⟩=false:=HB3.out.warm p
        have HW:Hid (Keep (g3::O') X.1 (X.1.setCell ⟨g3,p,none⟩ (.int .i64 y))):=Keep.set X.1 (by simp) _
        have HI4:Hid (Itr W0 (X.1.setCell ⟨g3,p,none⟩ (.int .i64 y)) b v2 v3 v4 (.func (.yield l) #[] #[]) mask g1 g2 g3 g4 g5 O'):=HI3.out.on HB3.out.lt HW.out (fun _ h=>.inl h)
        have HB4:Hid (Box (X.1.setCell ⟨g3,p,none⟩ (.int .i64 y)) g3 91 (mac (upd m p y))):=by have:=HB3.out.set p (.int .i64 y);rwa [mac_set hp4,upd_upd]at this
        have HJ4:Hid (J (ms++((canL b p).take k).flatMap (fillAt b mask.testBit n p m)) O' (X.1.setCell ⟨g3,p,none⟩ (.int .i64 y))):=
         hR.stay HJ3.out HW.out.size (fun k hk=>Below.heap_setCell _ _ _ _ (fun(e:k=g3)=>HI3.out.n3 (by rw[←e];exact hk)))
        have c5:(X.1.setCell ⟨g3,p,none⟩ (.int .i64 y)).cell? ⟨g5,0,none⟩=some (.func (.func 111) #[] #[ptr g1,ptr g2,ptr g3,ptr g4,ptr g5]):=HI4.out.b5.cell 0 rfl
        have hN:=IH.out (p+1) (by have:=Hp.out;omega) (upd m p y) (ms++((canL b p).take k).flatMap (fillAt b mask.testBit n p m)) O' (X.1.setCell ⟨g3,p,none⟩ (.int .i64 y))
         (fun i hi=>by rw[upd_other _ _ (by omega)];exact HZ.out i (by omega)) HI4.out HB4.out HJ4.out (by have h1:=HL.out;have h2:=flat_le (f:=fillAt b mask.testBit n p m) HY.out;rw[hfa.out]at h2;rw[List.length_append];omega)
        rw[show((p+1:Nat):Int)=(p:Int)+1 by omega]at hN
        have HG3:Hid (∀o∈g3::O',o∈g3::O∨w1.heap.size≤o):=fun o ho=>by
         rcases List.mem_cons.1 ho with rfl|ho
         ·exact .inl (by simp)
         ·exact(HO'.out o ho).imp (List.mem_cons_of_mem _) id
        have HXW:Hid (Keep (g3::O) w1 (X.1.setCell ⟨g3,p,none⟩ (.int .i64 y))):=HX.out.trans HW.out HG3.out
        go_wp2_with(go_at_call 111;refine hN.mono ?_;rintro e w2 (⟨rfl,hB5,O2,hO2,hJ5,hK5⟩|⟨rfl,hL5,hx5,hK5⟩))
        ·have HR2:Hid (J (ms++((canL b p).take (k+1)).flatMap (fillAt b mask.testBit n p m)) O2 w2∧(∀o∈O2,o∈O∨w1.heap.size≤o)∧Keep (g3::O) w1 w2∧Box w2 g3 91 (mac (upd m p y))):=
          ⟨by rw[flat_succ HY.out,←List.append_assoc,hfa.out];exact hJ5,(fun o ho=>(hO2 o ho).elim (HO'.out o) (fun h=>.inr (Nat.le_trans HXW.out.size h))),HXW.out.trans hK5 HG3.out,hB5⟩
         clear hB5 hO2 hJ5 hK5
         go_round
         case rel=>exact⟨k+1,O2,y,by omega,by go_num,HR2⟩
         case measure=>simp[intOf];omega
        ·go_ret
         exact .inr ⟨rfl,flat_ne HY.out (by rw[hfa.out];exact hL5),hx5,(Keep.of HB1.out).trans (HXW.out.trans hK5 HG3.out) (fun _=>.inl)⟩
      ·have hbm2:=bits_no hm (show p-1<4 by omega) hbm
       have hfa:Hid (fillAt b mask.testBit n p m y=fill b mask.testBit n (p+1) (upd m p y)):=if_neg (fun h=>hbm h.2.1)
       go_wp2
       refine wp_region_after (by kernel_rfl) (by kernel_rfl) ?_
       repeat(go_big_quiet_step (fail))
       refine wpQuiet_nil ?_
       rintro _ ⟨X,rfl⟩
       have HX:Hid (Keep (g3::O) w1 X.1):=hL.out.2.2.1.trans' (.of X.2)
       have HI3:Hid (Itr W0 X.1 b v2 v3 v4 (.func (.yield l) #[] #[]) mask g1 g2 g3 g4 g5 O'):=HI2.out.on hL.out.2.2.2.lt (.of X.2) (fun _ h=>.inl h)
       have HB3:Hid (Box X.1 g3 91 (mac (upd m p x))):=(Keep.of (O:=[]) X.2).box hL.out.2.2.2 (by simp)
       have HJ3:Hid (J (ms++((canL b p).take k).flatMap (fillAt b mask.testBit n p m)) O' X.1):=hR.stay hL.out.1 X.2.size (fun k hk=>X.2.block k (hR.own hL.out.1 k hk).2.1)
       have HO':Hid (∀o∈O',o∈O∨w1.heap.size≤o):=hL.out.2.1
       clear hL HI2 gy
       clear q4
       have c3:X.1.cell? ⟨g3,p,none⟩=some (.int .i64 (upd m p x p)):=HB3.out.cell p (mac_get hp4 _)
       have f3:X.1.frozen? ⟨g3,p,none⟩=false:=HB3.out.warm p
       have HW:Hid (Keep (g3::O') X.1 (X.1.setCell ⟨g3,p,none⟩ (.int .i64 y))):=Keep.set X.1 (by simp) _
       have HI4:Hid (Itr W0 (X.1.setCell ⟨g3,p,none⟩ (.int .i64 y)) b v2 v3 v4 (.func (.yield l) #[] #[]) mask g1 g2 g3 g4 g5 O'):=HI3.out.on HB3.out.lt HW.out (fun _ h=>.inl h)
       have HB4:Hid (Box (X.1.setCell ⟨g3,p,none⟩ (.int .i64 y)) g3 91 (mac (upd m p y))):=by have:=HB3.out.set p (.int .i64 y);rwa [mac_set hp4,upd_upd]at this
       have HJ4:Hid (J (ms++((canL b p).take k).flatMap (fillAt b mask.testBit n p m)) O' (X.1.setCell ⟨g3,p,none⟩ (.int .i64 y))):=
        hR.stay HJ3.out HW.out.size (fun k hk=>Below.heap_setCell _ _ _ _ (fun(e:k=g3)=>HI3.out.n3 (by rw[←e];exact hk)))
       have c5:(X.1.setCell ⟨g3,p,none⟩ (.int .i64 y)).cell? ⟨g5,0,none⟩=some (.func (.func 111) #[] #[ptr g1,ptr g2,ptr g3,ptr g4,ptr g5]):=HI4.out.b5.cell 0 rfl
       have hN:=IH.out (p+1) (by have:=Hp.out;omega) (upd m p y) (ms++((canL b p).take k).flatMap (fillAt b mask.testBit n p m)) O' (X.1.setCell ⟨g3,p,none⟩ (.int .i64 y))
        (fun i hi=>by rw[upd_other _ _ (by omega)];exact HZ.out i (by omega)) HI4.out HB4.out HJ4.out (by have h1:=HL.out;have h2:=flat_le (f:=fillAt b mask.testBit n p m) HY.out;rw[hfa.out]at h2;rw[List.length_append];omega)
       rw[show((p+1:Nat):Int)=(p:Int)+1 by omega]at hN
       have HG3:Hid (∀o∈g3::O',o∈g3::O∨w1.heap.size≤o):=fun o ho=>by
        rcases List.mem_cons.1 ho with rfl|ho
        ·exact .inl (by simp)
        ·exact(HO'.out o ho).imp (List.mem_cons_of_mem _) id
       have HXW:Hid (Keep (g3::O) w1 (X.1.setCell ⟨g3,p,none⟩ (.int .i64 y))):=HX.out.trans HW.out HG3.out
       go_wp2_with(go_at_call 111;refine hN.mono ?_;rintro e w2 (⟨rfl,hB5,O2,hO2,hJ5,hK5⟩|⟨rfl,hL5,hx5,hK5⟩))
       ·have HR2:Hid (J (ms++((canL b p).take (k+1)).flatMap (fillAt b mask.testBit n p m)) O2 w2∧(∀o∈O2,o∈O∨w1.heap.size≤o)∧Keep (g3::O) w1 w2∧Box w2 g3 91 (mac (upd m p y))):=
         ⟨by rw[flat_succ HY.out,←List.append_assoc,hfa.out];exact hJ5,(fun o ho=>(hO2 o ho).elim (HO'.out o) (fun h=>.inr (Nat.le_trans HXW.out.size h))),HXW.out.trans hK5 HG3.out,hB5⟩
        clear hB5 hO2 hJ5 hK5
        go_round
        case rel=>exact⟨k+1,O2,y,by omega,by go_num,HR2⟩
        case measure=>simp[intOf];omega
       ·go_ret
        exact .inr ⟨rfl,flat_ne HY.out (by rw[hfa.out];exact hL5),hx5,(Keep.of HB1.out).trans (HXW.out.trans hK5 HG3.out) (fun _=>.inl)⟩
     ·have hp1:¬(0:Int)<(p:Int):=by omega
      have hfa:Hid (fillAt b mask.testBit n p m y=fill b mask.testBit n (p+1) (upd m p y)):=if_neg (fun h=>hp0 h.1)
      go_wp2
      refine wp_region_after (by kernel_rfl) (by kernel_rfl) ?_
      repeat(go_big_quiet_step (fail))
      refine wpQuiet_nil ?_
      rintro _ ⟨X,rfl⟩
      have HX:Hid (Keep (g3::O) w1 X.1):=hL.out.2.2.1.trans' (.of X.2)
      have HI3:Hid (Itr W0 X.1 b v2 v3 v4 (.func (.yield l) #[] #[]) mask g1 g2 g3 g4 g5 O'):=HI2.out.on hL.out.2.2.2.lt (.of X.2) (fun _ h=>.inl h)
      have HB3:Hid (Box X.1 g3 91 (mac (upd m p x))):=(Keep.of (O:=[]) X.2).box hL.out.2.2.2 (by simp)
      have HJ3:Hid (J (ms++((canL b p).take k).flatMap (fillAt b mask.testBit n p m)) O' X.1):=hR.stay hL.out.1 X.2.size (fun k hk=>X.2.block k (hR.own hL.out.1 k hk).2.1)
      have HO':Hid (∀o∈O',o∈O∨w1.heap.size≤o):=hL.out.2.1
      clear hL HI2 gy
      have c3:X.1.cell? ⟨g3,p,none⟩=some (.int .i64 (upd m p x p)):=HB3.out.cell p (mac_get hp4 _)
      have f3:X.1.frozen? ⟨g3,p,none⟩=false:=HB3.out.warm p
      have HW:Hid (Keep (g3::O') X.1 (X.1.setCell ⟨g3,p,none⟩ (.int .i64 y))):=Keep.set X.1 (by simp) _
      have HI4:Hid (Itr W0 (X.1.setCell ⟨g3,p,none⟩ (.int .i64 y)) b v2 v3 v4 (.func (.yield l) #[] #[]) mask g1 g2 g3 g4 g5 O'):=HI3.out.on HB3.out.lt HW.out (fun _ h=>.inl h)
      have HB4:Hid (Box (X.1.setCell ⟨g3,p,none⟩ (.int .i64 y)) g3 91 (mac (upd m p y))):=by have:=HB3.out.set p (.int .i64 y);rwa [mac_set hp4,upd_upd]at this
      have HJ4:Hid (J (ms++((canL b p).take k).flatMap (fillAt b mask.testBit n p m)) O' (X.1.setCell ⟨g3,p,none⟩ (.int .i64 y))):=
       hR.stay HJ3.out HW.out.size (fun k hk=>Below.heap_setCell _ _ _ _ (fun(e:k=g3)=>HI3.out.n3 (by rw[←e];exact hk)))
      have c5:(X.1.setCell ⟨g3,p,none⟩ (.int .i64 y)).cell? ⟨g5,0,none⟩=some (.func (.func 111) #[] #[ptr g1,ptr g2,ptr g3,ptr g4,ptr g5]):=HI4.out.b5.cell 0 rfl
      have hN:=IH.out (p+1) (by have:=Hp.out;omega) (upd m p y) (ms++((canL b p).take k).flatMap (fillAt b mask.testBit n p m)) O' (X.1.setCell ⟨g3,p,none⟩ (.int .i64 y))
       (fun i hi=>by rw[upd_other _ _ (by omega)];exact HZ.out i (by omega)) HI4.out HB4.out HJ4.out (by have h1:=HL.out;have h2:=flat_le (f:=fillAt b mask.testBit n p m) HY.out;rw[hfa.out]at h2;rw[List.length_append];omega)
      rw[show((p+1:Nat):Int)=(p:Int)+1 by omega]at hN
      have HG3:Hid (∀o∈g3::O',o∈g3::O∨w1.heap.size≤o):=fun o ho=>by
       rcases List.mem_cons.1 ho with rfl|ho
       ·exact .inl (by simp)
       ·exact(HO'.out o ho).imp (List.mem_cons_of_mem _) id
      have HXW:Hid (Keep (g3::O) w1 (X.1.setCell ⟨g3,p,none⟩ (.int .i64 y))):=HX.out.trans HW.out HG3.out
      go_wp2_with(go_at_call 111;refine hN.mono ?_;rintro e w2 (⟨rfl,hB5,O2,hO2,hJ5,hK5⟩|⟨rfl,hL5,hx5,hK5⟩))
      ·have HR2:Hid (J (ms++((canL b p).take (k+1)).flatMap (fillAt b mask.testBit n p m)) O2 w2∧(∀o∈O2,o∈O∨w1.heap.size≤o)∧Keep (g3::O) w1 w2∧Box w2 g3 91 (mac (upd m p y))):=
        ⟨by rw[flat_succ HY.out,←List.append_assoc,hfa.out];exact hJ5,(fun o ho=>(hO2 o ho).elim (HO'.out o) (fun h=>.inr (Nat.le_trans HXW.out.size h))),HXW.out.trans hK5 HG3.out,hB5⟩
       clear hB5 hO2 hJ5 hK5
       go_round
       case rel=>exact⟨k+1,O2,y,by omega,by go_num,HR2⟩
       case measure=>simp[intOf];omega
      ·go_ret
       exact .inr ⟨rfl,flat_ne HY.out (by rw[hfa.out];exact hL5),hx5,(Keep.of HB1.out).trans (HXW.out.trans hK5 HG3.out) (fun _=>.inl)⟩
    ·have e:k=(canL b p).length:=by omega
     subst e
     have c3:wr.cell? ⟨g3,p,none⟩=some (.int .i64 (upd m p x p)):=hL.out.2.2.2.cell p (mac_get hp4 _)
     have f3:wr.frozen? ⟨g3,p,none⟩=false:=hL.out.2.2.2.warm p
     have HI2:Hid (Itr W0 wr b v2 v3 v4 (.func (.yield l) #[] #[]) mask g1 g2 g3 g4 g5 O'):=HI1.out.on H31.out.lt hL.out.2.2.1 hL.out.2.1
     go_wp2
     go_ret
     have hW:Keep (g3::O') wr (wr.setCell ⟨g3,p,none⟩ (.int .i64 0)):=Keep.set wr (by simp) _
     have hO':=hL.out.2.1
     have hs:=HB1.out.size
     refine .inl ⟨rfl,?_,O',(fun o ho=>(hO' o ho).imp id (fun h=>by omega)),?_,?_⟩
     ·have:=hL.out.2.2.2.set p (.int .i64 0)
      rwa [mac_set hp4,upd_upd,upd_zero (HZ.out p (Nat.le_refl _))]at this
     ·refine hR.stay ?_ hW.size (fun k hk=>Below.heap_setCell _ _ _ _ (fun(e:k=g3)=>HI2.out.n3 (by rw[←e];exact hk)))
      have:=hL.out.1
      rwa [List.take_length]at this
     ·refine(Keep.of HB1.out).trans (hL.out.2.2.1.trans hW fun o ho=>?_) (fun _=>.inl)
      rcases List.mem_cons.1 ho with rfl|ho
      ·exact .inl (by simp)
      ·exact(hO' o ho).imp (List.mem_cons_of_mem _) id
  ·rw[fill_no hbt]at hlen⊢
   have hbt2:=bits_no hm hp4 hbt
   have y5:W.cell? ⟨g5,0,none⟩=some (.func (.func 111) #[] #[ptr g1,ptr g2,ptr g3,ptr g4,ptr g5]):=HI.out.b5.cell 0 rfl
   have hC:=ih (p+1) (by omega) m ms O W (fun i hi=>hz i (by omega)) HI.out H3.out hJ hlen
   rw[show((p+1:Nat):Int)=(p:Int)+1 by omega]at hC
   clear ih hp
   go_enter Tz.func111,Tz.ntmps111
   go_wp2_with(go_at_call 111;refine hC.mono ?_;rintro e w1 (⟨rfl,hx⟩|⟨rfl,hx⟩))
   ·go_ret
    exact .inl ⟨rfl,hx⟩
   ·go_ret
    exact .inr ⟨rfl,hx⟩
end Go.Proofs.Cz
end
section
namespace Go.Proofs.Cz
open Go.RowKit
theorem Keep.allocs {O:List Nat} {W W':World} (h:Keep O W W') (o:Obj):Keep O W (W'.alloc o):=h.trans (Keep.alloc [] W' o) (fun _ h=>by cases h)
set_option maxHeartbeats 4000000 in
theorem iter_any {W0 W:World} {b:Book} {v2 v3 v4:Value} {mask g1 g4 l K:Nat} {O:List Nat} {J:List (Nat→Int)→List Nat→World→Prop} {Jx:World→Prop} {N:Nat}
 (hb:BookAt W0 (.agg #[.int .i64 b.beat,.int .i64 b.places,v2,v3,v4]) b) (hv:Valid b) (hm:mask<16) (hN:(N:Int)=b.places) (hR:RoundsM W0 g1 g4 l K J Jx)
 (h1:Box W g1 79 #[.int .i64 b.beat,.int .i64 b.places,v2,v3,v4]) (h4:Box W g4 3 #[.int .i64 mask]) (hold:Below W0.heap.size W0 W) (hJ:J [] O W) (hlen:(fill b mask.testBit N 0 (fun _=>0)).length≤K):
 Calls Tz.prog 110 #[.func (.yield l) #[] #[],ptr g1,ptr g4] W (Ranged J Jx (fill b mask.testBit N 0 (fun _=>0)) O W):=by
 obtain⟨A1,hA1⟩:∃A,W.alloc (.cells #[.func (.yield l) #[] #[]] 92)=A:=⟨_,rfl⟩
 obtain⟨A2,hA2⟩:∃A,A1.alloc (.cells #[.int .i64 0,.int .i64 0,.int .i64 0,.int .i64 0] 91)=A:=⟨_,rfl⟩
 obtain⟨A3,hA3⟩:∃A,A2.alloc (.cells #[.nilFunc] 80)=A:=⟨_,rfl⟩
 have hs1:A1.heap.size=W.heap.size+1:=by rw[←hA1];simp
 have hs2:A2.heap.size=W.heap.size+1+1:=by rw[←hA2];simp[hs1]
 have hs3:A3.heap.size=W.heap.size+1+1+1:=by rw[←hA3];simp[hs2]
 have b2:Box A3 W.heap.size 92 #[.func (.yield l) #[] #[]]:=by
  rw[←hA3];refine(Keep.alloc [] _ _).box ?_ (by simp)
  rw[←hA2];refine(Keep.alloc [] _ _).box ?_ (by simp)
  rw[←hA1];exact Box.new _ _ _
 have b3:Box A3 (W.heap.size+1) 91 (mac fun _=>0):=by
  rw[←hA3];refine(Keep.alloc [] _ _).box ?_ (by simp)
  rw[←hA2,←hs1];exact Box.new _ _ _
 have b5:Box A3 (W.heap.size+1+1) 80 #[.nilFunc]:=by rw[←hA3,←hs2];exact Box.new _ _ _
 have hk3:Keep [] W A3:=by rw[←hA3,←hA2,←hA1];exact((Keep.alloc _ _ _).allocs _).allocs _
 obtain⟨F,hF⟩:∃F:Value,.func (.func 111) #[] #[ptr g1,ptr W.heap.size,ptr (W.heap.size+1),ptr g4,ptr (W.heap.size+1+1)]=F:=⟨_,rfl⟩
 obtain⟨A4,hA4⟩:∃A,A3.setCell ⟨W.heap.size+1+1,0,none⟩ F=A:=⟨_,rfl⟩
 have hk4:Keep [W.heap.size+1+1] A3 A4:=by rw[←hA4];exact Keep.set A3 (by simp) _
 have b5':Box A4 (W.heap.size+1+1) 80 #[F]:=by rw[←hA4];exact b5.set 0 F
 have hO:∀k∈O,W0.heap.size≤k∧k<W.heap.size∧k∉ [g1,g4]:=fun k hk=>hR.own hJ k hk
 have hk:Keep [] W A4:=hk3.trans hk4 (by simp;omega)
 have hlt1:=h1.lt
 have hlt4:=h4.lt
 have hsz:=hold.size
 have hI:Itr W0 A4 b v2 v3 v4 (.func (.yield l) #[] #[]) mask g1 W.heap.size (W.heap.size+1) g4 (W.heap.size+1+1) O:=by
  refine⟨hk.box h1 (by simp),hk4.box b2 (by simp;omega),hk.box h4 (by simp),by rw[hF];exact b5',?_,?_,?_,?_,?_,by omega,by omega,by omega,by omega,by omega,hold.trans (hk.below (by simp) hsz),fun k hx=>(hO k hx).1⟩
  ·intro hx;exact(hO _ hx).2.2 (by simp)
  ·intro hx;have:=(hO _ hx).2.1;omega
  ·intro hx;have:=(hO _ hx).2.1;omega
  ·intro hx;exact(hO _ hx).2.2 (by simp)
  ·intro hx;have:=(hO _ hx).2.1;omega
 have hJ4:J [] O A4:=hR.stay hJ hk.size (fun k hx=>hk.block k (hO k hx).2.1 (by simp))
 have hC:=next_any hb hv hm hR N 0 (by omega) (fun _=>0) [] O A4 (fun _ _=>rfl) hI (hk4.box b3 (by simp)) hJ4 (by simpa using hlen)
 have c5:A3.cell? ⟨W.heap.size+1+1,0,none⟩=some .nilFunc:=b5.cell 0 rfl
 have f5:A3.frozen? ⟨W.heap.size+1+1,0,none⟩=false:=b5.warm 0
 have c6:A4.cell? ⟨W.heap.size+1+1,0,none⟩=some F:=b5'.cell 0 rfl
 have HK:Hid (Keep [] W A4):=hk
 rw[←hF]at c6
 clear hlen hI hJ4 hb hv hR h1 h4 hold hJ b2 b3 b5 b5' hk3 hk4 hk hlt1 hlt4 hsz hO
 subst hF
 have hst:∀(a:Addr) (f:Fn) (x y:Array Value) (w:World),(store a (.func f x y) .plain).run Tz.prog w=stored Tz.prog w a (.func f x y) .plain:=fun a f x y w=>run_store Tz.prog w a _ _ rfl
 go_enter Tz.func110,Tz.ntmps110
 go_wp2_with(go_at_call 111;refine hC.mono ?_;rintro e w1 (⟨rfl,hB,O2,hO2,hJ5,hK5⟩|⟨rfl,hL5,hx5,hK5⟩))
 ·go_end0
  refine⟨⟨_,rfl⟩,.inl ⟨O2,(fun k hk=>(hO2 k hk).imp id (fun h=>Nat.le_trans HK.out.size h)),hJ5,(HK.out.mono (O':=O) (by simp)).trans hK5 fun x hx=>?_⟩⟩
  rcases List.mem_cons.1 hx with rfl|hx
  ·exact .inr (by omega)
  ·exact .inl hx
 ·go_end0
  refine⟨⟨_,rfl⟩,.inr ⟨hL5,hx5,(HK.out.mono (O':=O) (by simp)).trans hK5 fun x hx=>?_⟩⟩
  rcases List.mem_cons.1 hx with rfl|hx
  ·exact .inr (by omega)
  ·exact .inl hx
def RetF (w:World) (b:Book) (v2 v3 v4:Value) (mask:Nat) (e:Ending) (w':World):Prop:=
 e=.returned (.func (.func 110) #[] #[ptr w.heap.size,ptr (w.heap.size+1)])∧w'=(w.alloc (.cells #[.int .i64 b.beat,.int .i64 b.places,v2,v3,v4] 79)).alloc (.cells #[.int .i64 mask] 3)
theorem filled_any (w:World) (b:Book) (v2 v3 v4:Value) (mask:Nat):Calls Tz.prog 91 #[.agg #[.int .i64 b.beat,.int .i64 b.places,v2,v3,v4],.int .i64 mask] w (RetF w b v2 v3 v4 mask):=by
 go_enter Tz.func91,Tz.ntmps91
 go_wp2
 go_ret
 exact⟨rfl,rfl⟩
end Go.Proofs.Cz
end
