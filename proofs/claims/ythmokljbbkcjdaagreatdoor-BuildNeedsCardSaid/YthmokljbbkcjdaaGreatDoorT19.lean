/- A part of the proof that BuildNeeds returns true. Conditions: none. -/
import Derived.Test.YthmokljbbkcjdaaGreatDoorT17
import Derived.Test.YthmokljbbkcjdaaGreatDoorT18
import Derived.Laws.ResultCell
set_option linter.unusedVariables false
set_option linter.unusedSimpArgs false
section
namespace Go.Proofs.Cz
open Go.RowKit
theorem nothing_any (w:World) (a b c d e:Value):Calls Tz.prog 56 #[.agg #[a,b,c,d,e]] w (RetV w (.int .i64 0)):=by
 go_enter Tz.func56,Tz.ntmps56
 go_wp2
 go_ret
 exact⟨rfl,(Keep.alloc [] w _).below (by simp) (Nat.le_refl _)⟩
abbrev shop (b:Book) (v2 v3 v4 v5:Value):Value:=.agg #[.int .i64 b.beat,.int .i64 b.places,v2,v3,v4,v5]
abbrev shop0:Value:=.agg #[.int .i64 0,.int .i64 0,.slice none 0 0,.slice none 0 0,.slice none 0 0,.slice none 0 0]
theorem box6 {W:World} {g t:Nat} {c0 c1 c2 c3 c4 c5:Value} (v0 v1 v2 v3 v4 v5:Value) (h:Box W g t #[c0,c1,c2,c3,c4,c5]):
 Box ((((((W.setCell ⟨g,0,none⟩ v0).setCell ⟨g,1,none⟩ v1).setCell ⟨g,2,none⟩ v2).setCell ⟨g,3,none⟩ v3).setCell ⟨g,4,none⟩ v4).setCell ⟨g,5,none⟩ v5) g t #[v0,v1,v2,v3,v4,v5]∧
 Keep [g] W ((((((W.setCell ⟨g,0,none⟩ v0).setCell ⟨g,1,none⟩ v1).setCell ⟨g,2,none⟩ v2).setCell ⟨g,3,none⟩ v3).setCell ⟨g,4,none⟩ v4).setCell ⟨g,5,none⟩ v5):=
 ⟨(((((h.set 0 v0).set 1 v1).set 2 v2).set 3 v3).set 4 v4).set 5 v5,
  (((((Keep.set W (by simp) v0).trans' (Keep.set _ (by simp) v1)).trans' (Keep.set _ (by simp) v2)).trans' (Keep.set _ (by simp) v3)).trans' (Keep.set _ (by simp) v4)).trans' (Keep.set _ (by simp) v5)⟩
def RetOp (w:World) (b:Book) (v2 v3 v4:Value) (L:List (Nat→Int)) (e:Ending) (w':World):Prop:=
 ((L=[]∧e=.returned (.tuple #[shop0,.int .i64 9]))∨
  (L≠ []∧∃a c,e=.returned (.tuple #[shop b v2 v3 v4 (.slice a L.length c),.int .i64 0])∧VecsAt 5 w' (.slice a L.length c) L∧Fresh w (.slice a L.length c)))∧
 Below w.heap.size w w'
set_option maxHeartbeats 1000000 in
set_option maxRecDepth 20000 in
theorem open_any (w:World) (b:Book) (v:Value) (a2:Option Addr) (c2:Nat) (v3 v4:Value) (ag:(Nat→Int)→Bool) (hv1:v=.agg #[.int .i64 b.beat,.int .i64 b.places,.slice a2 b.parts.length c2,v3,v4]) (hb:BookAt w v b) (hv:Valid b) (hc:Chk w)
 (hag:∀X t,Below w.heap.size w X→Calls Tz.prog 114 #[v,.agg (tick t)] X (RetV X (.bool (ag t)))):
 Calls Tz.prog 55 #[v,.func (.func 56) #[] #[]] w (RetOp w b (.slice a2 b.parts.length c2) v3 v4 (histOf b ag)):=by
 subst hv1
 have HB:Hid (BookAt w (.agg #[.int .i64 b.beat,.int .i64 b.places,.slice a2 b.parts.length c2,v3,v4]) b):=hb
 have HV:Hid (Valid b):=hv
 obtain⟨_,_,_,hvv,_,⟨a3,c3,⟨e3,_,_,_,_⟩,_⟩,⟨a4,c4,⟨e4,_,_,_,_⟩,_⟩⟩:=hb
 simp only[Value.agg.injEq,Array.mk.injEq,List.cons.injEq,true_and,and_true]at hvv
 obtain⟨rfl,rfl,rfl⟩:=hvv
 subst e3 e4
 obtain⟨A1,hA1⟩:∃A,w.alloc (.cells #[.int .i64 b.beat,.int .i64 b.places,.slice a2 b.parts.length c2,.slice a3 b.apart.length c3,.slice a4 b.trials.length c4] 26)=A:=⟨_,rfl⟩
 obtain⟨A2,hA2⟩:∃A,A1.alloc (.cells #[.int .i64 0,.int .i64 0,.slice none 0 0,.slice none 0 0,.slice none 0 0,.slice none 0 0] 86)=A:=⟨_,rfl⟩
 have hs1:A1.heap.size=w.heap.size+1:=by rw[←hA1];simp
 have hs2:A2.heap.size=w.heap.size+2:=by rw[←hA2];simp[hs1]
 have HX0:Hid (Box A2 w.heap.size 26 #[.int .i64 b.beat,.int .i64 b.places,.slice a2 b.parts.length c2,.slice a3 b.apart.length c3,.slice a4 b.trials.length c4]):=by
  rw[←hA2];refine(Keep.alloc [] _ _).box ?_ (by simp)
  rw[←hA1];exact Box.new _ _ _
 have HR0:Hid (Box A2 (w.heap.size+1) 86 #[.int .i64 0,.int .i64 0,.slice none 0 0,.slice none 0 0,.slice none 0 0,.slice none 0 0]):=by rw[←hA2,←hs1];exact Box.new _ _ _
 have HW2:Hid (Below w.heap.size w A2):=by rw[←hA2,←hA1];exact((Keep.alloc [] _ _).allocs _).below (by simp) (Nat.le_refl _)
 have HC:Hid (Chk w):=hc
 have HAG:Hid (∀X t,Below w.heap.size w X→Calls Tz.prog 114 #[.agg #[.int .i64 b.beat,.int .i64 b.places,.slice a2 b.parts.length c2,.slice a3 b.apart.length c3,.slice a4 b.trials.length c4],.agg (tick t)] X (RetV X (.bool (ag t)))):=hag
 have z0:A2.cell? ⟨w.heap.size,0,none⟩=some (.int .i64 b.beat):=HX0.out.cell 0 rfl
 have z1:A2.cell? ⟨w.heap.size,1,none⟩=some (.int .i64 b.places):=HX0.out.cell 1 rfl
 have z2:A2.cell? ⟨w.heap.size,2,none⟩=some (.slice a2 b.parts.length c2):=HX0.out.cell 2 rfl
 have z3:A2.cell? ⟨w.heap.size,3,none⟩=some (.slice a3 b.apart.length c3):=HX0.out.cell 3 rfl
 have z4:A2.cell? ⟨w.heap.size,4,none⟩=some (.slice a4 b.trials.length c4):=HX0.out.cell 4 rfl
 clear hv hc hag
 go_enter Tz.func55,Tz.ntmps55
 go_wp2_with fail
 refine(bCheck_any A2 _ b (HB.out.later (Kp.of HW2.out)) HV.out (HC.out.later HW2.out)).mono ?_
 rintro e w1 ⟨⟨r,rfl,rfl⟩,hb1⟩
 have HB1:Hid (Below A2.heap.size A2 w1):=hb1
 clear z0 z1 z2 z3 z4 hb1 hA1 hA2
 have z0:w1.cell? ⟨w.heap.size,0,none⟩=some (.int .i64 b.beat):=(HX0.out.below HB1.out HX0.out.lt).cell 0 rfl
 have z1:w1.cell? ⟨w.heap.size,1,none⟩=some (.int .i64 b.places):=(HX0.out.below HB1.out HX0.out.lt).cell 1 rfl
 have z2:w1.cell? ⟨w.heap.size,2,none⟩=some (.slice a2 b.parts.length c2):=(HX0.out.below HB1.out HX0.out.lt).cell 2 rfl
 have z3:w1.cell? ⟨w.heap.size,3,none⟩=some (.slice a3 b.apart.length c3):=(HX0.out.below HB1.out HX0.out.lt).cell 3 rfl
 have z4:w1.cell? ⟨w.heap.size,4,none⟩=some (.slice a4 b.trials.length c4):=(HX0.out.below HB1.out HX0.out.lt).cell 4 rfl
 go_wp2_with fail
 obtain⟨A4,hA4⟩:∃A,w1.alloc (.cells #[.int .i64 b.beat,.int .i64 b.places,.slice a2 b.parts.length c2,.slice a3 b.apart.length c3,.slice a4 b.trials.length c4] 79)=A:=⟨_,rfl⟩
 rw[hA4]
 have hs4:A4.heap.size=w1.heap.size+1:=by rw[←hA4];simp
 have HX4:Hid (Box A4 w1.heap.size 79 #[.int .i64 b.beat,.int .i64 b.places,.slice a2 b.parts.length c2,.slice a3 b.apart.length c3,.slice a4 b.trials.length c4]):=by rw[←hA4];exact Box.new _ _ _
 have HK4:Hid (Below A2.heap.size A2 A4):=by rw[←hA4];exact HB1.out.alloc HB1.out.size _
 refine(nothing_any A4 _ _ _ _ _).mono ?_
 rintro e w2 ⟨rfl,hb2⟩
 have HB2:Hid (Below A4.heap.size A4 w2):=hb2
 clear z0 z1 z2 z3 z4 hb2 hA4
 have z0:w2.cell? ⟨w1.heap.size,0,none⟩=some (.int .i64 b.beat):=(HX4.out.below HB2.out HX4.out.lt).cell 0 rfl
 have z1:w2.cell? ⟨w1.heap.size,1,none⟩=some (.int .i64 b.places):=(HX4.out.below HB2.out HX4.out.lt).cell 1 rfl
 have z2:w2.cell? ⟨w1.heap.size,2,none⟩=some (.slice a2 b.parts.length c2):=(HX4.out.below HB2.out HX4.out.lt).cell 2 rfl
 have z3:w2.cell? ⟨w1.heap.size,3,none⟩=some (.slice a3 b.apart.length c3):=(HX4.out.below HB2.out HX4.out.lt).cell 3 rfl
 have z4:w2.cell? ⟨w1.heap.size,4,none⟩=some (.slice a4 b.trials.length c4):=(HX4.out.below HB2.out HX4.out.lt).cell 4 rfl
 have HK2:Hid (Below A2.heap.size A2 w2):=HK4.out.trans (HB2.out.mono HK4.out.size)
 have HKw:Hid (Below w.heap.size w w2):=HW2.out.trans (HK2.out.mono HW2.out.size)
 go_wp2_with fail
 refine(all_any w2 b a2 c2 _ _ ag (HB.out.later (Kp.of HKw.out)) HV.out (fun X t hX=>HAG.out X t (HKw.out.trans (hX.mono HKw.out.size)))).mono ?_
 rintro e w3 ⟨⟨v5,rfl,hv5⟩,hb3⟩
 have HV5:Hid (∀W',Keep [w.heap.size+1] w3 W'→VecsAt 5 W' v5 (histOf b ag)):=fun W' hk=>VecsAt.of_owns tick_len tick_at (ownsRow_on hv5 fun k e=>by
  have h1:=ownsRow_lt hv5 k e
  have h2:=HK2.out.size
  refine hk.block k h1.2 ?_
  simp;omega)
 have HFR:Hid (Fresh w v5):=Fresh.of hv5 HKw.out.size
 have HB3:Hid (Below w2.heap.size w2 w3):=hb3
 have HK3:Hid (Below A2.heap.size A2 w3):=HK2.out.trans (HB3.out.mono HK2.out.size)
 have HR3:Hid (Box w3 (w.heap.size+1) 86 #[.int .i64 0,.int .i64 0,.slice none 0 0,.slice none 0 0,.slice none 0 0,.slice none 0 0]):=HR0.out.below HK3.out HR0.out.lt
 have HX3:Hid (Box w3 w1.heap.size 79 #[.int .i64 b.beat,.int .i64 b.places,.slice a2 b.parts.length c2,.slice a3 b.apart.length c3,.slice a4 b.trials.length c4]):=HX4.out.below (HB2.out.trans (HB3.out.mono HB2.out.size)) HX4.out.lt
 have HKw3:Hid (Below w.heap.size w w3):=HW2.out.trans (HK3.out.mono HW2.out.size)
 obtain⟨a5,c5,rfl⟩:=ownsRow_slice hv5
 clear z0 z1 z2 z3 z4 hb3 hv5
 have z0:w3.cell? ⟨w1.heap.size,0,none⟩=some (.int .i64 b.beat):=HX3.out.cell 0 rfl
 have z1:w3.cell? ⟨w1.heap.size,1,none⟩=some (.int .i64 b.places):=HX3.out.cell 1 rfl
 have z2:w3.cell? ⟨w1.heap.size,2,none⟩=some (.slice a2 b.parts.length c2):=HX3.out.cell 2 rfl
 have z3:w3.cell? ⟨w1.heap.size,3,none⟩=some (.slice a3 b.apart.length c3):=HX3.out.cell 3 rfl
 have z4:w3.cell? ⟨w1.heap.size,4,none⟩=some (.slice a4 b.trials.length c4):=HX3.out.cell 4 rfl
 have f0:w3.frozen? ⟨w.heap.size+1,0,none⟩=false:=HR3.out.warm 0
 have f1:w3.frozen? ⟨w.heap.size+1,1,none⟩=false:=HR3.out.warm 1
 have f2:w3.frozen? ⟨w.heap.size+1,2,none⟩=false:=HR3.out.warm 2
 have f3:w3.frozen? ⟨w.heap.size+1,3,none⟩=false:=HR3.out.warm 3
 have f4:w3.frozen? ⟨w.heap.size+1,4,none⟩=false:=HR3.out.warm 4
 have f5:w3.frozen? ⟨w.heap.size+1,5,none⟩=false:=HR3.out.warm 5
 have t0:w3.cell? ⟨w.heap.size+1,0,none⟩=some (.int .i64 0):=HR3.out.cell 0 rfl
 have t1:w3.cell? ⟨w.heap.size+1,1,none⟩=some (.int .i64 0):=HR3.out.cell 1 rfl
 have t2:w3.cell? ⟨w.heap.size+1,2,none⟩=some (.slice none 0 0):=HR3.out.cell 2 rfl
 have t3:w3.cell? ⟨w.heap.size+1,3,none⟩=some (.slice none 0 0):=HR3.out.cell 3 rfl
 have t4:w3.cell? ⟨w.heap.size+1,4,none⟩=some (.slice none 0 0):=HR3.out.cell 4 rfl
 have t5:w3.cell? ⟨w.heap.size+1,5,none⟩=some (.slice none 0 0):=HR3.out.cell 5 rfl
 have hlen:=hist_len HV.out ag
 by_cases h0:(hist ag b.parts b.parts.length 0 (fun _=>0))=[]
 ·have HL0:Hid (histOf b ag=[]):=h0
  rw[h0]at*
  simp only[List.length_nil]
  go_wp2_with fail
  obtain⟨WF,hWF⟩:∃W,((((((w3.setCell ⟨w.heap.size+1,0,none⟩ (.int .i64 0)).setCell ⟨w.heap.size+1,1,none⟩ (.int .i64 0)).setCell ⟨w.heap.size+1,2,none⟩ (.slice none 0 0)).setCell
   ⟨w.heap.size+1,3,none⟩ (.slice none 0 0)).setCell ⟨w.heap.size+1,4,none⟩ (.slice none 0 0)).setCell ⟨w.heap.size+1,5,none⟩ (.slice none 0 0))=W:=⟨_,rfl⟩
  obtain⟨HBF,hKF⟩:=box6 (.int .i64 0) (.int .i64 0) (.slice none 0 0) (.slice none 0 0) (.slice none 0 0) (.slice none 0 0) HR3.out
  rw[hWF]at HBF hKF⊢
  have HBW:Below w.heap.size w WF:=HKw3.out.trans (hKF.below (by simp) HKw3.out.size)
  have q0:=HBF.cell 0 rfl
  have q1:=HBF.cell 1 rfl
  have q2:=HBF.cell 2 rfl
  have q3:=HBF.cell 3 rfl
  have q4:=HBF.cell 4 rfl
  have q5:=HBF.cell 5 rfl
  refine bodyPost_ret (v:=.tuple #[shop0,.int .i64 9]) ?_ rfl ⟨.inl ⟨HL0.out,rfl⟩,HBW⟩
  rw[results_cell_tmp rfl]
  go_simp
 ·have hpos:0<(hist ag b.parts b.parts.length 0 (fun _=>0)).length:=List.length_pos_iff.2 h0
  have HL0:Hid (histOf b ag≠ []):=h0
  generalize hgl:(hist ag b.parts b.parts.length 0 (fun _=>0)).length=ln at*
  have hln:¬((ln:Int)=0):=by omega
  have hln2:((ln:Int)==0)=false:=by simp;omega
  go_wp2_with fail
  obtain⟨WF,hWF⟩:∃W,((((((w3.setCell ⟨w.heap.size+1,0,none⟩ (.int .i64 b.beat)).setCell ⟨w.heap.size+1,1,none⟩ (.int .i64 b.places)).setCell ⟨w.heap.size+1,2,none⟩ (.slice a2 b.parts.length c2)).setCell
   ⟨w.heap.size+1,3,none⟩ (.slice a3 b.apart.length c3)).setCell ⟨w.heap.size+1,4,none⟩ (.slice a4 b.trials.length c4)).setCell ⟨w.heap.size+1,5,none⟩ (.slice a5 ln c5))=W:=⟨_,rfl⟩
  obtain⟨HBF,hKF⟩:=box6 (.int .i64 b.beat) (.int .i64 b.places) (.slice a2 b.parts.length c2) (.slice a3 b.apart.length c3) (.slice a4 b.trials.length c4) (.slice a5 ln c5) HR3.out
  rw[hWF]at HBF hKF⊢
  have HBW:Below w.heap.size w WF:=HKw3.out.trans (hKF.below (by simp) HKw3.out.size)
  have q0:=HBF.cell 0 rfl
  have q1:=HBF.cell 1 rfl
  have q2:=HBF.cell 2 rfl
  have q3:=HBF.cell 3 rfl
  have q4:=HBF.cell 4 rfl
  have q5:=HBF.cell 5 rfl
  refine bodyPost_ret (v:=.tuple #[shop b (.slice a2 b.parts.length c2) (.slice a3 b.apart.length c3) (.slice a4 b.trials.length c4) (.slice a5 ln c5),.int .i64 0]) ?_ rfl ⟨.inr ⟨HL0.out,a5,c5,by rw[hgl],by rw[hgl];exact HV5.out WF hKF,by rw[hgl];exact HFR.out⟩,HBW⟩
  rw[results_cell_tmp rfl]
  go_simp
end Go.Proofs.Cz
end
section
namespace Go.Proofs.Cz
open Go.RowKit
def turnLo (m:Nat→Int) (N:Nat) (t0:Nat→Int) (L:List (Nat→Int)):Int:=L.foldl (fun a t=>min a (tookTo m t N)) (tookTo m t0 N)
def turnHi (m:Nat→Int) (N:Nat) (t0:Nat→Int) (L:List (Nat→Int)):Int:=L.foldl (fun a t=>max a (tookTo m t N)) (tookTo m t0 N)
def hiOf (N:Nat) (L:List (Nat→Int)) (m:Nat→Int):Int:=turnHi m N (L.headD fun _=>0) L.tail
def loOf (N:Nat) (L:List (Nat→Int)) (m:Nat→Int):Int:=turnLo m N (L.headD fun _=>0) L.tail
theorem turnHi_snoc (m:Nat→Int) (N:Nat) (t0 t:Nat→Int) (L:List (Nat→Int)):turnHi m N t0 (L++[t])=max (turnHi m N t0 L) (tookTo m t N):=by simp[turnHi]
theorem turnLo_snoc (m:Nat→Int) (N:Nat) (t0 t:Nat→Int) (L:List (Nat→Int)):turnLo m N t0 (L++[t])=min (turnLo m N t0 L) (tookTo m t N):=by simp[turnLo]
noncomputable def safeOf (b:Book) (L:List (Nat→Int)):List (Nat→Int):=(machinesOf b).filter fun m=>decide (hiOf b.places.toNat L m≤b.beat)
def bare (l:List Part) (i:Nat):List Part:=match l[i]? with|some x=>l.set i {x with fits:=[]}|none=>l
def noOf (b:Book) (i:Nat):Book:={b with parts:=bare b.parts i}
theorem bare_len (l:List Part) (i:Nat):(bare l i).length=l.length:=by unfold bare;split<;>simp
theorem bare_ne {l:List Part} {i j:Nat} (h:j≠i):(bare l i)[j]?=l[j]?:=by
 unfold bare
 split
 ·rw[List.getElem?_set_ne (Ne.symm h)]
 ·rfl
theorem bare_eq {l:List Part} {i:Nat} {x:Part} (h:l[i]?=some x):(bare l i)[i]?=some {x with fits:=[]}:=by
 unfold bare
 rw[h]
 simp only
 rw[List.getElem?_set_self (List.getElem?_eq_some_iff.1 h).1]
theorem bare_inv {l:List Part} {i j:Nat} {y:Part} (h:(bare l i)[j]?=some y):∃x,l[j]?=some x∧y.name=x.name∧y.cost=x.cost∧y.stock=x.stock∧y.lo=x.lo∧y.hi=x.hi∧(y.fits=x.fits∨y.fits=[]):=by
 have hj:j<l.length:=by have:=(List.getElem?_eq_some_iff.1 h).1;rwa [bare_len]at this
 have hx:l[j]?=some l[j]:=List.getElem?_eq_getElem hj
 refine⟨l[j],hx,?_⟩
 by_cases e:j=i
 ·subst e
  rw[bare_eq hx]at h
  cases h
  exact⟨rfl,rfl,rfl,rfl,rfl,.inr rfl⟩
 ·rw[bare_ne e,hx]at h
  cases h
  exact⟨rfl,rfl,rfl,rfl,rfl,.inl rfl⟩
theorem rising_nil (n:Int):Rising [] n:=fun j y h=>by simp at h
theorem noOf_valid {b:Book} (hv:Valid b) (h0:b.trials=[]) (i:Nat):Valid (noOf b i):=by
 refine⟨hv.beat,hv.places,⟨?_,?_⟩,⟨hv.pairs.many,?_⟩,?_,?_⟩
 ·show 1≤(bare b.parts i).length∧(bare b.parts i).length≤5
  rw[bare_len]
  exact hv.parts.many
 ·intro j y hj hy
  obtain⟨x,hx,e1,e2,e3,e4,e5,e6⟩:=bare_inv (show(bare b.parts i)[j]?=some y from hy)
  have h:=hv.parts.all j x (List.getElem?_eq_some_iff.1 hx).1 hx
  refine⟨⟨by rw[e1];exact h.1.name,by rw[e2];exact h.1.cost,by rw[e3];exact h.1.stock,by rw[e4,e5];exact h.1.time,by rw[e4,e5];exact h.1.wide,?_⟩,fun k z hk hz=>?_⟩
  ·rcases e6 with e|e<;>rw[e]
   ·exact h.1.rise
   ·exact rising_nil _
  ·obtain⟨x',hx',e1',_⟩:=bare_inv (show(bare b.parts i)[k]?=some z from hz)
   rw[e1,e1']
   exact h.2 k x' hk hx'
 ·show PairsTo ((bare b.parts i).length:Int) b.apart b.apart.length
  rw[bare_len]
  exact hv.pairs.all
 ·show b.trials.length≤4
  exact hv.many
 ·intro j t hj ht
  have:b.trials[j]?=some t:=ht
  rw[h0]at this
  cases this
theorem canTo_bare (p:Int) (l:List Part) (i:Nat):∀k,k≤l.length→canTo p (bare l i) k=(canTo p l k).filter fun x=>decide (x≠(i:Int))
 |0,_=>rfl
 |k+1,h=>by
  have hx:l[k]?=some l[k]:=List.getElem?_eq_getElem (by omega)
  have ih:=canTo_bare p l i k (by omega)
  by_cases e:k=i
  ·subst e
   rw[canTo_no (bare_eq hx) (by simp),ih]
   by_cases hp:p∈l[k].fits
   ·rw[canTo_yes hx hp,List.filter_append];simp
   ·rw[canTo_no hx hp]
  ·have hx2:=(bare_ne (l:=l) e).trans hx
   by_cases hp:p∈l[k].fits
   ·have:(k:Int)≠(i:Int):=by omega
    rw[canTo_yes hx2 hp,canTo_yes hx hp,List.filter_append,ih];simp[this]
   ·rw[canTo_no hx2 hp,canTo_no hx hp,ih]
theorem canL_bare (b:Book) (i:Nat) (p:Int):canL (noOf b i) p=(canL b p).filter fun x=>decide (x≠(i:Int)):=by
 show canTo p (bare b.parts i) (bare b.parts i).length=_
 rw[bare_len]
 exact canTo_bare _ _ _ _ (Nat.le_refl _)
theorem flatMap_filter' {α β:Type} (l:List α) (p:α→Bool) (f:α→List β):(l.filter p).flatMap f=l.flatMap fun x=>if p x=true then f x else []:=by
 induction l with
 |nil=>rfl
 |cons x l ih=>
  by_cases h:p x=true
  ·rw[List.filter_cons_of_pos h,List.flatMap_cons,List.flatMap_cons,ih,if_pos h]
  ·rw[List.filter_cons_of_neg h,List.flatMap_cons,ih,if_neg h,List.nil_append]
theorem fill_keeps {b:Book} {bit:Nat→Bool}:∀(n p:Nat) (m x:Nat→Int),x∈fill b bit n p m→∀j,j<p→x j=m j
 |0,p,m,x,h,j,hj=>by simp[fill]at h;subst h;rfl
 |n+1,p,m,x,h,j,hj=>by
  by_cases hb:bit p=true
  ·rw[fill_yes hb]at h
   obtain⟨k,_,hk⟩:=List.mem_flatMap.1 h
   unfold fillAt at hk
   split at hk
   ·cases hk
   ·have:=fill_keeps n (p+1) _ x hk j (by omega)
    rw[this,upd_other m k (by omega)]
  ·rw[fill_no hb]at h
   exact fill_keeps n (p+1) m x h j (by omega)
open Classical in
noncomputable def nowhere (i:Nat) (p n:Nat) (x:Nat→Int):Bool:=decide (∀j,p≤j→j<p+n→x j≠(i:Int))
open Classical in
theorem nowhere_iff {i p n:Nat} {x:Nat→Int}:nowhere i p n x=true↔∀j,p≤j→j<p+n→x j≠(i:Int):=by
 unfold nowhere
 exact decide_eq_true_iff
theorem fill_bare {b:Book} {bit:Nat→Bool} {N:Nat} (hbit:∀q,q<N→bit q=true) (i:Nat):∀(n p:Nat) (m:Nat→Int),p+n=N→fill (noOf b i) bit n p m=(fill b bit n p m).filter (nowhere i p n)
 |0,p,m,_=>by
  have:nowhere i p 0 m=true:=nowhere_iff.2 fun j h1 h2=>by omega
  simp[fill,this]
 |n+1,p,m,h=>by
  have hb:=hbit p (by omega)
  rw[fill_yes hb,fill_yes hb,canL_bare,flatMap_filter',List.filter_flatMap]
  congr 1
  funext k
  unfold fillAt
  by_cases hc:0<p∧bit (p-1)=true∧Apart b.apart (m (p-1)) k
  ·rw[if_pos hc,if_pos (show 0<p∧bit (p-1)=true∧Apart (noOf b i).apart (m (p-1)) k from hc)]
   simp
  ·rw[if_neg hc,if_neg (show¬(0<p∧bit (p-1)=true∧Apart (noOf b i).apart (m (p-1)) k)from hc)]
   rw[fill_bare hbit i n (p+1) _ (by omega)]
   by_cases hk:k=(i:Int)
   ·rw[if_neg (by simp[hk])]
    symm
    rw[List.filter_eq_nil_iff]
    intro x hx hw
    have h1:=fill_keeps n (p+1) _ x hx p (by omega)
    rw[upd_self]at h1
    have h2:=nowhere_iff.1 hw p (Nat.le_refl _) (by omega)
    exact h2 (h1.trans hk)
   ·rw[if_pos (by simp[hk])]
    refine List.filter_congr fun x hx=>?_
    have h1:=fill_keeps n (p+1) _ x hx p (by omega)
    rw[upd_self]at h1
    rw[Bool.eq_iff_iff,nowhere_iff,nowhere_iff]
    refine⟨fun h3 j h4 h5=>?_,fun h3 j h4 h5=>h3 j (by omega) (by omega)⟩
    by_cases e:j=p
    ·subst e;rw[h1];exact hk
    ·exact h3 j (by omega) (by omega)
theorem machines_bare (b:Book) (i:Nat):machinesOf (noOf b i)=(machinesOf b).filter (nowhere i 0 b.places.toNat):=by
 unfold machinesOf
 exact fill_bare (b:=b) (bit:=(2^b.places.toNat-1).testBit) (N:=b.places.toNat) (fun q hq=>by rw[Nat.testBit_two_pow_sub_one];simpa using hq) i b.places.toNat 0 (fun _=>0) (by omega)
theorem hist_bare (ag:(Nat→Int)→Bool) (l:List Part) (i:Nat):∀(n j:Nat) (t:Nat→Int),hist ag (bare l i) n j t=hist ag l n j t
 |0,j,t=>rfl
 |n+1,j,t=>by
  unfold hist
  by_cases e:j=i
  ·subst e
   cases hx:l[j]? with
   |none=>
    have:bare l j=l:=by unfold bare;rw[hx]
    rw[this,hx]
   |some x=>
    rw[bare_eq hx]
    simp only
    congr 1
    funext k
    exact hist_bare ag l j n (j+1) _
  ·rw[bare_ne e]
   cases l[j]? with
   |none=>rfl
   |some x=>
    simp only
    congr 1
    funext k
    exact hist_bare ag l i n (j+1) _
theorem safe_bare (b:Book) (i:Nat) (L:List (Nat→Int)):safeOf (noOf b i) L=(safeOf b L).filter (nowhere i 0 b.places.toNat):=by
 unfold safeOf
 rw[machines_bare,List.filter_filter,List.filter_filter]
 refine List.filter_congr fun x _=>?_
 rw[Bool.and_comm]
 rfl
theorem safe_none {b:Book} {i:Nat} {L:List (Nat→Int)}:safeOf (noOf b i) L=[]↔∀m∈safeOf b L,∃j,j<b.places.toNat∧m j=(i:Int):=by
 rw[safe_bare,List.filter_eq_nil_iff]
 refine⟨fun h m hm=>?_,fun h m hm hw=>?_⟩
 ·have:=h m hm
  rw[nowhere_iff]at this
  have h2:=Classical.not_forall.1 this
  obtain⟨j,hj⟩:=h2
  refine⟨j,?_⟩
  by_cases e:j<b.places.toNat
  ·refine⟨e,Classical.byContradiction fun h3=>hj fun _ _=>h3⟩
  ·exact absurd (fun _ h4=>absurd (by omega) e) hj
 ·obtain⟨j,hj,e⟩:=h m hm
  exact nowhere_iff.1 hw j (Nat.zero_le _) (by omega) e
theorem safe_less (b:Book) (i:Nat) (L:List (Nat→Int)):(safeOf (noOf b i) L).length≤(safeOf b L).length:=by
 rw[safe_bare];exact List.length_filter_le _ _
theorem span_some {lo:Int} {n:Nat} (h:0<n):span lo n≠ []:=by
 cases n with
 |zero=>omega
 |succ n=>simp[span]
theorem hist_ne {b:Book} (hv:Valid b):∀(n i:Nat) (t:Nat→Int),i+n=b.parts.length→hist (fun _=>true) b.parts n i t≠ []
 |0,_,t,_=>by simp[hist]
 |n+1,i,t,h=>by
  have hx:b.parts[i]?=some b.parts[i]:=List.getElem?_eq_getElem (by omega)
  have hp:=(hv.parts.all i _ (by omega) hx).1.time
  rw[hist,hx]
  simp only
  intro h0
  rw[List.flatMap_eq_nil_iff]at h0
  obtain⟨k,hk⟩:=List.exists_mem_of_ne_nil _ (span_some (lo:=b.parts[i].lo) (n:=(b.parts[i].hi+1-b.parts[i].lo).toNat) (by omega))
  exact hist_ne hv n (i+1) _ (by omega) (h0 k hk)
end Go.Proofs.Cz
end
section
namespace Go.Proofs.Cz
open Go.RowKit
theorem turnHi_take {m:Nat→Int} {N:Nat} {t0 t:Nat→Int} {l:List (Nat→Int)} {k:Nat} (h:l[k]?=some t):turnHi m N t0 (l.take (k+1))=max (turnHi m N t0 (l.take k)) (tookTo m t N):=by
 rw[List.take_add_one,h];exact turnHi_snoc ..
theorem turnLo_take {m:Nat→Int} {N:Nat} {t0 t:Nat→Int} {l:List (Nat→Int)} {k:Nat} (h:l[k]?=some t):turnLo m N t0 (l.take (k+1))=min (turnLo m N t0 (l.take k)) (tookTo m t N):=by
 rw[List.take_add_one,h];exact turnLo_snoc ..
set_option maxHeartbeats 1000000 in
set_option maxRecDepth 20000 in
theorem turns_any (w:World) (v2 v3 v4 v5:Value) (b:Book) (N:Nat) (hN:b.places=N) (hN4:N≤4) (L:List (Nat→Int)) (hL:VecsAt 5 w v5 L) (hne:L≠ []) (m:Nat→Int) (hm:∀i,0≤m i∧m i<5) (ht:∀t∈L,∀i,0≤t i∧t i≤20):
 Calls Tz.prog 65 #[shop b v2 v3 v4 v5,.agg (mac m)] w (RetV w (.agg #[.int .i64 (loOf N L m),.int .i64 (hiOf N L m)])):=by
 obtain⟨t0,l,rfl⟩:∃t0 l,L=t0::l:=by cases L with
  |nil=>exact absurd rfl hne
  |cons a l=>exact⟨a,l,rfl⟩
 have HL:Hid (VecsAt 5 w v5 (t0::l)):=hL
 have HT:Hid (∀t∈t0::l,∀i,0≤t i∧t i≤20):=ht
 have HM:Hid (∀i,0≤m i∧m i<5):=hm
 have HN:Hid (b.places=N):=hN
 obtain⟨a,cap,hs,he⟩:=hL
 obtain⟨⟨blk,off,sp⟩,t1,rfl,hx,hr0⟩:=hs.elem he (k:=0) (by simp)
 simp at hx
 subst hx
 obtain rfl:sp=none:=(hr0 0 (by omega)).1
 have HE:Hid (SlAt w v5 (t0::l).length (some ⟨blk,off,none⟩) cap∧_):=⟨hs,he⟩
 obtain⟨rfl,hle,hcap,_,_⟩:=hs
 unfold maxLen at hcap
 clear ht hm hne
 obtain⟨A1,hA1⟩:∃A,w.alloc (.cells #[.int .i64 b.beat,.int .i64 b.places,v2,v3,v4,.slice (some ⟨blk,off,none⟩) (t0::l).length cap] 86)=A:=⟨_,rfl⟩
 obtain⟨A2,hA2⟩:∃A,A1.alloc (.cells (mac m) 91)=A:=⟨_,rfl⟩
 obtain⟨A3,hA3⟩:∃A,A2.alloc (.cells #[.int .i64 0,.int .i64 0] 31)=A:=⟨_,rfl⟩
 have hs1:A1.heap.size=w.heap.size+1:=by rw[←hA1];simp
 have hs2:A2.heap.size=w.heap.size+1+1:=by rw[←hA2];simp[hs1]
 have hs3:A3.heap.size=w.heap.size+1+1+1:=by rw[←hA3];simp[hs2]
 have B1:Hid (Box A3 w.heap.size 86 #[.int .i64 b.beat,.int .i64 b.places,v2,v3,v4,.slice (some ⟨blk,off,none⟩) (t0::l).length cap]):=by
  rw[←hA3];refine(Keep.alloc [] _ _).box ?_ (by simp)
  rw[←hA2];refine(Keep.alloc [] _ _).box ?_ (by simp)
  rw[←hA1];exact Box.new _ _ _
 have B2:Hid (Box A3 (w.heap.size+1) 91 (mac m)):=by
  rw[←hA3];refine(Keep.alloc [] _ _).box ?_ (by simp)
  rw[←hA2,←hs1];exact Box.new _ _ _
 have B3:Hid (Box A3 (w.heap.size+1+1) 31 #[.int .i64 0,.int .i64 0]):=by rw[←hA3,←hs2];exact Box.new _ _ _
 have HW:Hid (Below w.heap.size w A3):=by rw[←hA3,←hA2,←hA1];exact(((Keep.alloc [] _ _).allocs _).allocs _).below (by simp) (Nat.le_refl _)
 have z0:∀X:After A3,X.1.cell? ⟨w.heap.size,0,none⟩=some (.int .i64 b.beat):=fun X=>X.cell (B1.out.cell 0 rfl)
 have z1:∀X:After A3,X.1.cell? ⟨w.heap.size,1,none⟩=some (.int .i64 b.places):=fun X=>X.cell (B1.out.cell 1 rfl)
 have z2:∀X:After A3,X.1.cell? ⟨w.heap.size,2,none⟩=some v2:=fun X=>X.cell (B1.out.cell 2 rfl)
 have z3:∀X:After A3,X.1.cell? ⟨w.heap.size,3,none⟩=some v3:=fun X=>X.cell (B1.out.cell 3 rfl)
 have z4:∀X:After A3,X.1.cell? ⟨w.heap.size,4,none⟩=some v4:=fun X=>X.cell (B1.out.cell 4 rfl)
 have z5:∀X:After A3,X.1.cell? ⟨w.heap.size,5,none⟩=some (.slice (some ⟨blk,off,none⟩) (t0::l).length cap):=fun X=>X.cell (B1.out.cell 5 rfl)
 have y0:∀X:After A3,X.1.cell? ⟨w.heap.size+1,0,none⟩=some (.int .i64 (m 0)):=fun X=>X.cell (B2.out.cell 0 rfl)
 have y1:∀X:After A3,X.1.cell? ⟨w.heap.size+1,1,none⟩=some (.int .i64 (m 1)):=fun X=>X.cell (B2.out.cell 1 rfl)
 have y2:∀X:After A3,X.1.cell? ⟨w.heap.size+1,2,none⟩=some (.int .i64 (m 2)):=fun X=>X.cell (B2.out.cell 2 rfl)
 have y3:∀X:After A3,X.1.cell? ⟨w.heap.size+1,3,none⟩=some (.int .i64 (m 3)):=fun X=>X.cell (B2.out.cell 3 rfl)
 have r0:∀X:After A3,X.1.cell? ⟨blk,off,none⟩=some (.int .i64 (t0 0)):=fun X=>X.cell (by simpa using((hr0 0 (by omega)).later (Kp.of HW.out)).2)
 have r1:∀X:After A3,X.1.cell? ⟨blk,off+1,none⟩=some (.int .i64 (t0 1)):=fun X=>X.cell (by simpa using((hr0 1 (by omega)).later (Kp.of HW.out)).2)
 have r2:∀X:After A3,X.1.cell? ⟨blk,off+2,none⟩=some (.int .i64 (t0 2)):=fun X=>X.cell (by simpa using((hr0 2 (by omega)).later (Kp.of HW.out)).2)
 have r3:∀X:After A3,X.1.cell? ⟨blk,off+3,none⟩=some (.int .i64 (t0 3)):=fun X=>X.cell (by simpa using((hr0 3 (by omega)).later (Kp.of HW.out)).2)
 have r4:∀X:After A3,X.1.cell? ⟨blk,off+4,none⟩=some (.int .i64 (t0 4)):=fun X=>X.cell (by simpa using((hr0 4 (by omega)).later (Kp.of HW.out)).2)
 have conC:∀X:After A3,Calls Tz.prog 102 #[.agg #[.int .i64 b.beat,.int .i64 b.places,v2,v3,v4],.agg (mac m),.agg (tick t0)] X.1 (fun e w''=>e=.returned (.int .i64 (tookTo m t0 N))∧∃Y:After A3,w''=Y.1):=fun X=>
  (took_any X.1 v2 v3 v4 b N HN.out hN4 m t0 (fun i _=>HM.out i) (HT.out t0 (by simp))).mono fun e w' h=>⟨h.1,X.on h.2⟩
 simp only[mac,tick]at hA2 conC⊢
 simp only[List.length_cons]at hA1 z5 hle⊢
 have hl1:((l.length+1:Nat):Int)=(l.length:Int)+1:=by omega
 clear hr0 he hN
 go_enter Tz.func65,Tz.ntmps65
 go_wp2_with fail
 refine wp_region_after (by kernel_rfl) (by kernel_rfl) ?_
 repeat(go_big_quiet_step (first|(go_at_call 102;exact conC _)))
 refine wpQuiet_nil ?_
 rintro _ ⟨X,rfl⟩
 have HXw:Hid (Below w.heap.size w X.1):=HW.out.trans (X.2.mono HW.out.size)
 obtain⟨W,hW⟩:∃W,X.1=W:=⟨_,rfl⟩
 rw[hW]
 have HK:Hid (Below A3.heap.size A3 W):=by rw[←hW];exact X.2
 obtain⟨W1,hW1⟩:∃A,W.alloc (.cells #[.int .i64 (tookTo m t0 N),.int .i64 (tookTo m t0 N)] 31)=A:=⟨_,rfl⟩
 have x5:W.cell? ⟨w.heap.size,5,none⟩=some (.slice (some ⟨blk,off,none⟩) (l.length+1) cap):=by rw[←hW];exact z5 X
 have x5':W1.cell? ⟨w.heap.size,5,none⟩=some (.slice (some ⟨blk,off,none⟩) (l.length+1) cap):=by
  rw[←hW1];exact(cell_on (by have:=HK.out.size;show w.heap.size<_;omega) _).trans x5
 rw[hW]at HXw
 clear conC z0 z1 z2 z3 z4 z5 y0 y1 y2 y3 r0 r1 r2 r3 r4 hW X x5
 by_cases hc1:cap=1
 ·have hl0:l=[]:=List.eq_nil_of_length_eq_zero (by omega)
  subst hl0
  have q0:W1.cell? ⟨W.heap.size,0,none⟩=some (.int .i64 (tookTo m t0 N)):=by rw[←hW1];exact(Box.new W 31 _).cell 0 rfl
  have q1:W1.cell? ⟨W.heap.size,1,none⟩=some (.int .i64 (tookTo m t0 N)):=by rw[←hW1];exact(Box.new W 31 _).cell 1 rfl
  go_wp2_with fail
  go_loopw [24] (fun i wr=>i=.int .i64 0∧Hid (Box wr W.heap.size 31 #[.int .i64 (turnLo m N t0 []),.int .i64 (turnHi m N t0 [])])∧Hid (Keep [W.heap.size] W wr)) (fun _ _=>0)
  case atStart=>exact⟨rfl,by rw[←hW1];exact Box.new W 31 _,by rw[←hW1];exact Keep.alloc _ _ _⟩
  case round=>
   obtain⟨rfl,hBr,hKr⟩:=hrel
   have HB4:Box wr (w.heap.size+1+1) 31 #[.int .i64 0,.int .i64 0]:=hKr.out.box ((Keep.of (O:=[]) HK.out).box B3.out (by simp)) (by have:=HK.out.size;simp;omega)
   have p0:=HB4.cell 0 rfl
   have p1:=HB4.cell 1 rfl
   have p2:=HB4.warm 0
   have p3:=HB4.warm 1
   have q0:=hBr.out.cell 0 rfl
   have q1:=hBr.out.cell 1 rfl
   go_wp2
   obtain⟨WF,hWF⟩:∃V,(wr.setCell ⟨w.heap.size+1+1,0,none⟩ (.int .i64 (turnLo m N t0 []))).setCell ⟨w.heap.size+1+1,1,none⟩ (.int .i64 (turnHi m N t0 []))=V:=⟨_,rfl⟩
   have HBF:Box WF (w.heap.size+1+1) 31 #[.int .i64 (turnLo m N t0 []),.int .i64 (turnHi m N t0 [])]:=by rw[←hWF];exact(HB4.set 0 _).set 1 _
   have hKF:Keep [w.heap.size+1+1] wr WF:=by rw[←hWF];exact(Keep.set wr (by simp) _).trans' (Keep.set _ (by simp) _)
   have HBW:Below w.heap.size w WF:=HXw.out.trans ((hKr.out.below (by have:=HK.out.size;simp;omega) HXw.out.size).trans (hKF.below (by simp;omega) (by have:=hKr.out.size;have:=HXw.out.size;omega)))
   have u0:=HBF.cell 0 rfl
   have u1:=HBF.cell 1 rfl
   rw[hWF]
   refine bodyPost_ret (v:=.agg #[.int .i64 (loOf N (t0:: []) m),.int .i64 (hiOf N (t0:: []) m)]) ?_ rfl ⟨rfl,HBW⟩
   rw[results_cell rfl]
   go_simp
   exact⟨rfl,rfl⟩
 ·go_wp2_with fail
  go_loopw [24] (fun i wr=>∃k:Nat,k≤l.length∧i=.int .i64 k∧Hid (Box wr W.heap.size 31 #[.int .i64 (turnLo m N t0 (l.take k)),.int .i64 (turnHi m N t0 (l.take k))])∧Hid (Keep [W.heap.size] W wr)) (fun i _=>l.length-(intOf i).toNat)
  case atStart=>exact⟨0,Nat.zero_le _,rfl,by rw[←hW1];exact Box.new W 31 _,by rw[←hW1];exact Keep.alloc _ _ _⟩
  case round=>
   obtain⟨k,hk,rfl,hBr,hKr⟩:=hrel
   by_cases hlt:k<l.length
   ·have hx:l[k]?=some l[k]:=List.getElem?_eq_getElem hlt
    obtain⟨t,htt⟩:∃t,l[k]=t:=⟨_,rfl⟩
    rw[htt]at hx
    have hcell:∀r,r<5→wr.cell? ⟨blk,off+5+k*5+r,none⟩=some (.int .i64 (t r)):=fun r hr=>by
     have h1:=(HE.out.2 _ rfl (k+1) t (by simpa using hx) r hr)
     have h2:=h1.later (Kp.of HXw.out)
     have h3:=h2.lt
     have h4:=h2.2
     rw[show off+5+k*5+r=off+((k+1)*5+r) by omega]
     exact(World.cell?_of_block (w:=W) (a:=⟨blk,off+((k+1)*5+r),none⟩) (hKr.out.block blk h3 (by simp at h3⊢;omega))).trans h4
    have r0:=hcell 0 (by omega)
    have r1:=hcell 1 (by omega)
    have r2:=hcell 2 (by omega)
    have r3:=hcell 3 (by omega)
    have r4:=hcell 4 (by omega)
    simp only[Nat.add_zero]at r0
    have HX:Hid (l[k]?=some t):=hx
    have hWg:∀(g tt:Nat) (cs:Array Value),g<A3.heap.size→Box A3 g tt cs→Box wr g tt cs:=fun g tt cs hg h=>
     hKr.out.box ((Keep.of (O:=[]) HK.out).box h (by simp)) (by have:=HK.out.size;simp;omega)
    have BW1:=hWg _ _ _ (by omega) B1.out
    have BW2:=hWg _ _ _ (by omega) B2.out
    obtain⟨wt,hwt⟩:∃A,wr.alloc (.cells (tick t) 111)=A:=⟨_,rfl⟩
    have hkt:Keep [] wr wt:=by rw[←hwt];exact Keep.alloc _ _ _
    have HBt:Hid (Box wt W.heap.size 31 #[.int .i64 (turnLo m N t0 (l.take k)),.int .i64 (turnHi m N t0 (l.take k))]):=hkt.box hBr.out (by simp)
    have HKt:Hid (Keep [W.heap.size] W wt):=hKr.out.trans (O':=[]) hkt (by simp)
    have BT1:=hkt.box BW1 (by simp)
    have BT2:=hkt.box BW2 (by simp)
    have s0:wt.cell? ⟨w.heap.size,0,none⟩=some (.int .i64 b.beat):=BT1.cell 0 rfl
    have s1:wt.cell? ⟨w.heap.size,1,none⟩=some (.int .i64 b.places):=BT1.cell 1 rfl
    have s2:wt.cell? ⟨w.heap.size,2,none⟩=some v2:=BT1.cell 2 rfl
    have s3:wt.cell? ⟨w.heap.size,3,none⟩=some v3:=BT1.cell 3 rfl
    have s4:wt.cell? ⟨w.heap.size,4,none⟩=some v4:=BT1.cell 4 rfl
    have y0:wt.cell? ⟨w.heap.size+1,0,none⟩=some (.int .i64 (m 0)):=BT2.cell 0 rfl
    have y1:wt.cell? ⟨w.heap.size+1,1,none⟩=some (.int .i64 (m 1)):=BT2.cell 1 rfl
    have y2:wt.cell? ⟨w.heap.size+1,2,none⟩=some (.int .i64 (m 2)):=BT2.cell 2 rfl
    have y3:wt.cell? ⟨w.heap.size+1,3,none⟩=some (.int .i64 (m 3)):=BT2.cell 3 rfl
    have BX:=Box.new wr 111 (tick t)
    rw[hwt]at BX
    have e0:wt.cell? ⟨wr.heap.size,0,none⟩=some (.int .i64 (t 0)):=BX.cell 0 rfl
    have e1:wt.cell? ⟨wr.heap.size,1,none⟩=some (.int .i64 (t 1)):=BX.cell 1 rfl
    have e2:wt.cell? ⟨wr.heap.size,2,none⟩=some (.int .i64 (t 2)):=BX.cell 2 rfl
    have e3:wt.cell? ⟨wr.heap.size,3,none⟩=some (.int .i64 (t 3)):=BX.cell 3 rfl
    have e4:wt.cell? ⟨wr.heap.size,4,none⟩=some (.int .i64 (t 4)):=BX.cell 4 rfl
    have hC:=took_any wt v2 v3 v4 b N HN.out hN4 m t (fun i _=>HM.out i) (HT.out t (by have:=List.mem_of_getElem? HX.out;simp[this]))
    simp only[mac,tick]at hC hwt
    have hk2:(k:Int)<(l.length:Int):=by omega
    have HKL:Hid (k<l.length):=hlt
    clear hcell hx htt hWg BW1 BW2 hkt BT1 BT2 BX hk hlt
    go_wp2_with fail
    refine hC.mono ?_
    rintro e w2 ⟨rfl,hb2⟩
    have HB2:Hid (Keep [W.heap.size] W w2):=HKt.out.trans (O':=[]) (Keep.of hb2) (by simp)
    have HR2:Hid (Box w2 W.heap.size 31 #[.int .i64 (turnLo m N t0 (l.take k)),.int .i64 (turnHi m N t0 (l.take k))]):=(Keep.of (O:=[]) hb2).box HBt.out (by simp)
    have q0:=HR2.out.cell 0 rfl
    have q1:=HR2.out.cell 1 rfl
    have g0:=HR2.out.warm 0
    have g1:=HR2.out.warm 1
    have HLo:=turnLo_take (m:=m) (N:=N) (t0:=t0) HX.out
    have HHi:=turnHi_take (m:=m) (N:=N) (t0:=t0) HX.out
    have HLH:Hid (turnLo m N t0 (l.take (k+1))=min (turnLo m N t0 (l.take k)) (tookTo m t N)∧turnHi m N t0 (l.take (k+1))=max (turnHi m N t0 (l.take k)) (tookTo m t N)):=⟨HLo,HHi⟩
    clear hC hb2 HLo HHi s0 s1 s2 s3 s4 y0 y1 y2 y3 e0 e1 e2 e3 e4 r0 r1 r2 r3 r4 hwt
    generalize turnLo m N t0 (l.take k)=lo at*
    generalize turnHi m N t0 (l.take k)=hi at*
    generalize tookTo m t N=tk at*
    go_wp2
    have e1:(if tk<lo then tk else lo)=min lo tk:=by split<;>omega
    have e2:(if hi<tk then tk else hi)=max hi tk:=by split<;>omega
    have hkl:=HKL.out
    rw[e1,e2]
    refine⟨⟨k+1,by omega,by go_num,?_,?_⟩,by simp[intOf];omega⟩
    ·rw[HLH.out.1,HLH.out.2]
     exact(HR2.out.set 0 _).set 1 _
    ·exact HB2.out.trans' ((Keep.set _ (by simp) _).trans' (Keep.set _ (by simp) _))
   ·have e:k=l.length:=by omega
    subst e
    rw[List.take_length]at hBr
    have HB4:Box wr (w.heap.size+1+1) 31 #[.int .i64 0,.int .i64 0]:=hKr.out.box ((Keep.of (O:=[]) HK.out).box B3.out (by simp)) (by have:=HK.out.size;simp;omega)
    have p0:=HB4.cell 0 rfl
    have p1:=HB4.cell 1 rfl
    have p2:=HB4.warm 0
    have p3:=HB4.warm 1
    have q0:=hBr.out.cell 0 rfl
    have q1:=hBr.out.cell 1 rfl
    go_wp2
    obtain⟨WF,hWF⟩:∃V,(wr.setCell ⟨w.heap.size+1+1,0,none⟩ (.int .i64 (turnLo m N t0 l))).setCell ⟨w.heap.size+1+1,1,none⟩ (.int .i64 (turnHi m N t0 l))=V:=⟨_,rfl⟩
    have HBF:Box WF (w.heap.size+1+1) 31 #[.int .i64 (turnLo m N t0 l),.int .i64 (turnHi m N t0 l)]:=by rw[←hWF];exact(HB4.set 0 _).set 1 _
    have hKF:Keep [w.heap.size+1+1] wr WF:=by rw[←hWF];exact(Keep.set wr (by simp) _).trans' (Keep.set _ (by simp) _)
    have HBW:Below w.heap.size w WF:=HXw.out.trans ((hKr.out.below (by have:=HK.out.size;simp;omega) HXw.out.size).trans (hKF.below (by simp;omega) (by have:=hKr.out.size;have:=HXw.out.size;omega)))
    have u0:=HBF.cell 0 rfl
    have u1:=HBF.cell 1 rfl
    rw[hWF]
    refine bodyPost_ret (v:=.agg #[.int .i64 (loOf N (t0::l) m),.int .i64 (hiOf N (t0::l) m)]) ?_ rfl ⟨rfl,HBW⟩
    rw[results_cell rfl]
    go_simp
    exact⟨rfl,rfl⟩
end Go.Proofs.Cz
end
section
namespace Go.Proofs.Cz
open Go.RowKit
theorem field31_1 (w:World) (a b:Int):(Instr.field 31 (.agg #[.int .i64 a,.int .i64 b]) 1).run Tz.prog w=.ok (.int .i64 b) w:=by
 have u:Tz.prog.underlying 31=_:=(Tz.under 31).trans Tryz.underlying31
 have a3:=Tryz.isAgg3
 have z3:=Tryz.sizeOf3
 simp[Instr.field,run_underlying u,asAgg,part,go_sem,a3,z3]
def RetVs (s:Nat) (w:World) (L:List (Nat→Int)) (e:Ending) (w':World):Prop:=(∃v,e=.returned v∧VecsAt s w' v L∧Fresh w v)∧Below w.heap.size w w'
noncomputable def safeTo (b:Book) (L:List (Nat→Int)) (k:Nat):List (Nat→Int):=((machinesOf b).take k).filter fun m=>decide (hiOf b.places.toNat L m≤b.beat)
theorem safeTo_yes {b:Book} {L:List (Nat→Int)} {k:Nat} {m:Nat→Int} (hx:(machinesOf b)[k]?=some m) (h:hiOf b.places.toNat L m≤b.beat):safeTo b L (k+1)=safeTo b L k++[m]:=by
 unfold safeTo
 rw[List.take_add_one,hx,List.filter_append];simp[h]
theorem safeTo_no {b:Book} {L:List (Nat→Int)} {k:Nat} {m:Nat→Int} (hx:(machinesOf b)[k]?=some m) (h:¬hiOf b.places.toNat L m≤b.beat):safeTo b L (k+1)=safeTo b L k:=by
 unfold safeTo
 rw[List.take_add_one,hx,List.filter_append];simp[h]
theorem safeTo_len (b:Book) (L:List (Nat→Int)) (k:Nat):(safeTo b L k).length≤k:=by
 unfold safeTo
 exact Nat.le_trans (List.length_filter_le _ _) (by simp;omega)
set_option maxHeartbeats 2000000 in
set_option maxRecDepth 20000 in
theorem safe_any (w:World) (b:Book) (v2 v3 v4 v5:Value) (L:List (Nat→Int)) (hb:BookAt w (.agg #[.int .i64 b.beat,.int .i64 b.places,v2,v3,v4]) b) (hv:Valid b) (hL:VecsAt 5 w v5 L) (hne:L≠ []) (ht:∀t∈L,∀i,0≤t i∧t i≤20):
 Calls Tz.prog 57 #[shop b v2 v3 v4 v5] w (RetVs 4 w (safeOf b L)):=by
 have HB:Hid (BookAt w (.agg #[.int .i64 b.beat,.int .i64 b.places,v2,v3,v4]) b):=hb
 have HV:Hid (Valid b):=hv
 have HL:Hid (VecsAt 5 w v5 L):=hL
 have HT:Hid (L≠ []∧∀t∈L,∀i,0≤t i∧t i≤20):=⟨hne,ht⟩
 obtain⟨i0,hi,hz0,hz1,hz2⟩:=info_parts info91
 obtain⟨A1,hA1⟩:∃A,w.alloc (.cells #[.int .i64 b.beat,.int .i64 b.places,v2,v3,v4,v5] 86)=A:=⟨_,rfl⟩
 have hs1:A1.heap.size=w.heap.size+1:=by rw[←hA1];simp
 have B1:Hid (Box A1 w.heap.size 86 #[.int .i64 b.beat,.int .i64 b.places,v2,v3,v4,v5]):=by rw[←hA1];exact Box.new _ _ _
 have HW:Hid (Below w.heap.size w A1):=by rw[←hA1];exact(Keep.alloc [] _ _).below (by simp) (Nat.le_refl _)
 have z0:=B1.out.cell 0 rfl
 have z1:=B1.out.cell 1 rfl
 have z2:=B1.out.cell 2 rfl
 have z3:=B1.out.cell 3 rfl
 have z4:=B1.out.cell 4 rfl
 clear hb hv hL hne ht
 go_enter Tz.func57,Tz.ntmps57
 go_wp2_with fail
 refine(machines_any A1 _ b (HB.out.later (Kp.of HW.out)) HV.out).mono ?_
 rintro e w1 ⟨⟨v8,rfl,hv8⟩,hb1⟩
 have HM:Hid (VecsAt 4 w1 v8 (machinesOf b)):=VecsAt.of_owns mac_len mac_at hv8
 have HB1:Hid (Below A1.heap.size A1 w1):=hb1
 have HW1:Hid (Below w.heap.size w w1):=HW.out.trans (hb1.mono HW.out.size)
 clear hv8 hb1 z0 z1 z2 z3 z4
 obtain⟨a8,c8,hs8,he8⟩:=HM.out
 have HE:Hid (SlAt w1 v8 (machinesOf b).length a8 c8∧_):=⟨hs8,he8⟩
 obtain⟨rfl,hle,hcap,_,_⟩:=hs8
 unfold maxLen at hcap
 have hml:=machines_len HV.out
 obtain⟨nn,hnn⟩:∃nn,(machinesOf b).length=nn:=⟨_,rfl⟩
 have HNN:Hid ((machinesOf b).length=nn):=hnn
 rw[hnn]at hml hle⊢
 clear he8 hnn hcap
 go_wp2_with fail
 go_loopw [10,3] (fun i v wr=>∃k:Nat,k≤nn∧i=.int .i64 k∧Hid (wr.ownsRow w1.heap.size 91 4 v (safeTo b L k).length ((safeTo b L k).flatMap fun m=>(mac m).toList))∧Hid (Below w1.heap.size w1 wr)) (fun i _ _=>nn-(intOf i).toNat)
 case atStart=>exact⟨0,Nat.zero_le _,rfl,World.ownsRow_nil _ _ _ _,Below.refl _ _⟩
 case round=>
  obtain⟨k,hk,rfl,hO,hB⟩:=hrel
  by_cases hlt:k<nn
  ·obtain⟨⟨blk,off,sp⟩,m,rfl,hx,hr0⟩:=HE.out.1.elem HE.out.2 (k:=k) (by rw[HNN.out];exact hlt)
   obtain rfl:sp=none:=(hr0 0 (by omega)).1
   have hcell:∀r,r<4→wr.cell? ⟨blk,off+(k*4+r),none⟩=some (.int .i64 (m r)):=fun r hr=>((hr0 r hr).later (Kp.of hB.out)).2
   have r0:=hcell 0 (by omega)
   have r1:=hcell 1 (by omega)
   have r2:=hcell 2 (by omega)
   have r3:=hcell 3 (by omega)
   simp only[Nat.add_zero,←Nat.add_assoc]at r0 r1 r2 r3
   have HX:Hid ((machinesOf b)[k]?=some m):=hx
   have hk2:(k:Int)<(nn:Int):=by omega
   have HKL:Hid (k<nn):=hlt
   have HBr:Hid (Below w.heap.size w wr):=HW1.out.trans (hB.out.mono HW1.out.size)
   obtain⟨wt,hwt⟩:∃A,wr.alloc (.cells (mac m) 91)=A:=⟨_,rfl⟩
   have hst:wt.heap.size=wr.heap.size+1:=by rw[←hwt];simp
   have HWt:Hid (Below wr.heap.size wr wt):=by rw[←hwt];exact(Below.refl _ _).alloc (Nat.le_refl _) _
   have BS:Hid (Box wt w.heap.size 86 #[.int .i64 b.beat,.int .i64 b.places,v2,v3,v4,v5]):=
    ((B1.out.below HB1.out B1.out.lt).below (hB.out.trans (HWt.out.mono hB.out.size)) ((B1.out.below HB1.out B1.out.lt).lt))
   have BM:Hid (Box wt wr.heap.size 91 (mac m)):=by rw[←hwt];exact Box.new _ _ _
   have s0:∀X:After wt,X.1.cell? ⟨w.heap.size,0,none⟩=some (.int .i64 b.beat):=fun X=>X.cell (BS.out.cell 0 rfl)
   have s1:∀X:After wt,X.1.cell? ⟨w.heap.size,1,none⟩=some (.int .i64 b.places):=fun X=>X.cell (BS.out.cell 1 rfl)
   have s2:∀X:After wt,X.1.cell? ⟨w.heap.size,2,none⟩=some v2:=fun X=>X.cell (BS.out.cell 2 rfl)
   have s3:∀X:After wt,X.1.cell? ⟨w.heap.size,3,none⟩=some v3:=fun X=>X.cell (BS.out.cell 3 rfl)
   have s4:∀X:After wt,X.1.cell? ⟨w.heap.size,4,none⟩=some v4:=fun X=>X.cell (BS.out.cell 4 rfl)
   have s5:∀X:After wt,X.1.cell? ⟨w.heap.size,5,none⟩=some v5:=fun X=>X.cell (BS.out.cell 5 rfl)
   have m0:∀X:After wt,X.1.cell? ⟨wr.heap.size,0,none⟩=some (.int .i64 (m 0)):=fun X=>X.cell (BM.out.cell 0 rfl)
   have m1:∀X:After wt,X.1.cell? ⟨wr.heap.size,1,none⟩=some (.int .i64 (m 1)):=fun X=>X.cell (BM.out.cell 1 rfl)
   have m2:∀X:After wt,X.1.cell? ⟨wr.heap.size,2,none⟩=some (.int .i64 (m 2)):=fun X=>X.cell (BM.out.cell 2 rfl)
   have m3:∀X:After wt,X.1.cell? ⟨wr.heap.size,3,none⟩=some (.int .i64 (m 3)):=fun X=>X.cell (BM.out.cell 3 rfl)
   have conC:∀X:After wt,Calls Tz.prog 65 #[shop b v2 v3 v4 v5,.agg (mac m)] X.1 (fun e w''=>e=.returned (.agg #[.int .i64 (loOf b.places.toNat L m),.int .i64 (hiOf b.places.toNat L m)])∧∃Y:After wt,w''=Y.1):=fun X=>
    (turns_any X.1 v2 v3 v4 v5 b b.places.toNat (by have:=HV.out.places;omega) (by have:=HV.out.places;omega) L (((HL.out.later (Kp.of HBr.out)).later (Kp.of HWt.out)).later X.kp) HT.out.1 m (machines_in HV.out m (List.mem_of_getElem? HX.out)) HT.out.2).mono fun e w' h=>⟨h.1,X.on h.2⟩
   obtain⟨lo,hlo⟩:∃lo,loOf b.places.toNat L m=lo:=⟨_,rfl⟩
   obtain⟨hi',hhi⟩:∃x,hiOf b.places.toNat L m=x:=⟨_,rfl⟩
   have HHI:Hid (hiOf b.places.toNat L m=hi'):=hhi
   rw[hlo,hhi]at conC
   simp only[mac]at conC hwt
   have hln:=safeTo_len b L k
   clear hcell hr0 hx hlo hhi hlt
   by_cases hsf:hi'≤b.beat
   ·go_wp2_with fail
    refine wp_region_after (by kernel_rfl) (by kernel_rfl) ?_
    go_big_quiet_step (fail)
    go_big_quiet_step (fail)
    go_big_quiet_step (first|(go_at_call 65;exact conC _))
    have hf31:=fun w=>field31_1 w lo hi'
    repeat(go_big_quiet_step (first|(go_at_call 65;exact conC _)))
    refine wpQuiet_nil ?_
    rintro _ ⟨X,rfl⟩
    obtain⟨W,hW⟩:∃W,X.1=W:=⟨_,rfl⟩
    have HXt:Hid (Below wt.heap.size wt W):=by rw[←hW];exact X.2
    have HXr:Hid (Below wr.heap.size wr W):=HWt.out.trans (HXt.out.mono HWt.out.size)
    have HOw:Hid (W.ownsRow w1.heap.size 91 4 u3 (safeTo b L k).length ((safeTo b L k).flatMap fun m=>(mac m).toList)):=ownsRow_on hO.out fun j hj=>HXr.out.block j (ownsRow_lt hO.out j hj).2
    have n0:=m0 X
    have n1:=m1 X
    have n2:=m2 X
    have n3:=m3 X
    have hsz:=HXr.out.size
    have hsz2:=hB.out.size
    rw[hW]at n0 n1 n2 n3⊢
    clear s0 s1 s2 s3 s4 s5 m0 m1 m2 m3 conC hf31 hW X hwt
    have hmac:∀x:Nat→Int,(mac x).toList.length=4:=fun _=>rfl
    go_wp2_with(at_builtin
                refine wpList_append_own _ rfl (.tmp 23) (.tmp 25) 82 rfl w1.heap.size 91 i0 (.agg #[.int .i64 0,.int .i64 0,.int .i64 0,.int .i64 0]) 4 32 under82 hi hz0 hz1 hz2 rfl (by decide) _ _ _ rfl (HOw.out.alloc _) ⟨W.heap.size,0,none⟩ 1 1 (mac m).toList rfl rfl (mac_new (Box.new W 91 (mac m))) (mac_one m) (by unfold maxLen;omega) (by omega) (by simp;omega) ?_
                intro v' w2 hown' hgrow _)
    have HO2:Hid (w2.ownsRow w1.heap.size 91 4 v' (safeTo b L (k+1)).length ((safeTo b L (k+1)).flatMap fun m=>(mac m).toList)):=(by
     rw[safeTo_yes HX.out (by rw[HHI.out];exact hsf),List.length_append,List.flatMap_append]
     have h2:=hown'
     simp only[List.flatMap_cons,List.flatMap_nil,List.append_nil,List.length_cons,List.length_nil]
     exact h2)
    have HB2:Hid (Below w1.heap.size w1 w2):=Below.grown (Below.alloc (hB.out.trans (HXr.out.mono hB.out.size)) (by omega) _) hgrow (by simp;omega) (owns_ge HOw.out)
    clear hown' hgrow
    have hkl:=HKL.out
    go_round
    case rel=>exact⟨k+1,by omega,by go_num,HO2,HB2⟩
    case measure=>simp[intOf];omega
   ·go_wp2_with fail
    refine wp_region_after (by kernel_rfl) (by kernel_rfl) ?_
    have hf31:=fun w=>field31_1 w lo hi'
    repeat(go_big_quiet_step (first|(go_at_call 65;exact conC _)))
    refine wpQuiet_nil ?_
    rintro _ ⟨X,rfl⟩
    obtain⟨W,hW⟩:∃W,X.1=W:=⟨_,rfl⟩
    have HXt:Hid (Below wt.heap.size wt W):=by rw[←hW];exact X.2
    have HXr:Hid (Below wr.heap.size wr W):=HWt.out.trans (HXt.out.mono HWt.out.size)
    have HOw:Hid (W.ownsRow w1.heap.size 91 4 u3 (safeTo b L (k+1)).length ((safeTo b L (k+1)).flatMap fun m=>(mac m).toList)):=by
     rw[safeTo_no HX.out (by rw[HHI.out];omega)]
     exact ownsRow_on hO.out fun j hj=>HXr.out.block j (ownsRow_lt hO.out j hj).2
    have HB2:Hid (Below w1.heap.size w1 W):=hB.out.trans (HXr.out.mono hB.out.size)
    rw[hW]
    clear s0 s1 s2 s3 s4 s5 m0 m1 m2 m3 conC hf31 hW X hwt
    have hkl:=HKL.out
    go_wp2
    go_round
    case rel=>exact⟨k+1,by omega,by go_num,HOw,HB2⟩
    case measure=>simp[intOf];omega
  ·have e:k=nn:=by omega
   have HO2:Hid (VecsAt 4 wr u3 (safeOf b L)):=by
    have:safeTo b L k=safeOf b L:=by unfold safeTo safeOf;rw[e,←HNN.out,List.take_length]
    rw[this]at hO
    exact VecsAt.of_owns mac_len mac_at hO.out
   have HFR:Hid (Fresh w u3):=Fresh.of hO.out HW1.out.size
   have HBr:Hid (Below w.heap.size w wr):=HW1.out.trans (hB.out.mono HW1.out.size)
   go_wp2
   go_ret
   exact⟨⟨_,rfl,HO2.out,HFR.out⟩,HBr.out⟩
end Go.Proofs.Cz
end
section
namespace Go.Proofs.Cz
open Go.RowKit
def RetSf (w:World) (b:Book) (L:List (Nat→Int)) (e:Ending) (w':World):Prop:=
 ((L=[]∧e=.returned (.tuple #[.int .i64 0,.int .i64 9]))∨(L≠ []∧e=.returned (.tuple #[.int .i64 (safeOf b L).length,.int .i64 0])))∧Below w.heap.size w w'
abbrev Agrees (w:World) (v:Value) (ag:(Nat→Int)→Bool):Prop:=∀X t,Below w.heap.size w X→Calls Tz.prog 114 #[v,.agg (tick t)] X (RetV X (.bool (ag t)))
theorem BookAt.parts' {w:World} {v:Value} {b:Book} (h:BookAt w v b):∃a2 c2 a3 c3 a4 c4,v=.agg #[.int .i64 b.beat,.int .i64 b.places,.slice a2 b.parts.length c2,.slice a3 b.apart.length c3,.slice a4 b.trials.length c4]:=by
 obtain⟨v2,v3,v4,rfl,⟨a2,c2,⟨rfl,_,_,_,_⟩,_⟩,⟨a3,c3,⟨rfl,_,_,_,_⟩,_⟩,⟨a4,c4,⟨rfl,_,_,_,_⟩,_⟩⟩:=h
 exact⟨a2,c2,a3,c3,a4,c4,rfl⟩
set_option maxHeartbeats 1000000 in
set_option maxRecDepth 20000 in
theorem bSafe_any (w:World) (v:Value) (b:Book) (ag:(Nat→Int)→Bool) (hb:BookAt w v b) (hv:Valid b) (hc:Chk w) (hag:Agrees w v ag):Calls Tz.prog 18 #[v] w (RetSf w b (histOf b ag)):=by
 have HB:Hid (BookAt w v b):=hb
 have HV:Hid (Valid b):=hv
 have HC:Hid (Chk w):=hc
 obtain⟨a2,c2,a3,c3,a4,c4,rfl⟩:=hb.parts'
 have HAG:Hid (Agrees w (.agg #[.int .i64 b.beat,.int .i64 b.places,.slice a2 b.parts.length c2,.slice a3 b.apart.length c3,.slice a4 b.trials.length c4]) ag):=hag
 obtain⟨A1,hA1⟩:∃A,w.alloc (.cells #[.int .i64 b.beat,.int .i64 b.places,.slice a2 b.parts.length c2,.slice a3 b.apart.length c3,.slice a4 b.trials.length c4] 26)=A:=⟨_,rfl⟩
 have B1:Hid (Box A1 w.heap.size 26 #[.int .i64 b.beat,.int .i64 b.places,.slice a2 b.parts.length c2,.slice a3 b.apart.length c3,.slice a4 b.trials.length c4]):=by rw[←hA1];exact Box.new _ _ _
 have HW:Hid (Below w.heap.size w A1):=by rw[←hA1];exact(Keep.alloc [] _ _).below (by simp) (Nat.le_refl _)
 have z0:=B1.out.cell 0 rfl
 have z1:=B1.out.cell 1 rfl
 have z2:=B1.out.cell 2 rfl
 have z3:=B1.out.cell 3 rfl
 have z4:=B1.out.cell 4 rfl
 clear hb hv hc hag
 go_enter Tz.func18,Tz.ntmps18
 go_wp2_with fail
 refine(open_any A1 b _ a2 c2 _ _ ag rfl (HB.out.later (Kp.of HW.out)) HV.out (HC.out.later HW.out) (fun X t hX=>HAG.out X t (HW.out.trans (hX.mono HW.out.size)))).mono ?_
 rintro e w1 ⟨hre,hb1⟩
 have HB1:Hid (Below w.heap.size w w1):=HW.out.trans (hb1.mono HW.out.size)
 have hml:=machines_len HV.out
 clear hb1 z0 z1 z2 z3 z4 hA1
 rcases hre with⟨hL,rfl⟩|⟨hL,a,c,rfl,hvec,_⟩
 ·have HL:Hid (histOf b ag=[]):=hL
  clear hL
  go_wp2
  go_ret2
  exact⟨.inl ⟨HL.out,rfl⟩,HB1.out.alloc HB1.out.size _⟩
 ·obtain⟨A2,hA2⟩:∃A,w1.alloc (.cells #[.int .i64 b.beat,.int .i64 b.places,.slice a2 b.parts.length c2,.slice a3 b.apart.length c3,.slice a4 b.trials.length c4,.slice a (histOf b ag).length c] 86)=A:=⟨_,rfl⟩
  have B2:Hid (Box A2 w1.heap.size 86 #[.int .i64 b.beat,.int .i64 b.places,.slice a2 b.parts.length c2,.slice a3 b.apart.length c3,.slice a4 b.trials.length c4,.slice a (histOf b ag).length c]):=by rw[←hA2];exact Box.new _ _ _
  have HW2:Hid (Below w1.heap.size w1 A2):=by rw[←hA2];exact(Keep.alloc [] _ _).below (by simp) (Nat.le_refl _)
  have HB2:Hid (Below w.heap.size w A2):=HB1.out.trans (HW2.out.mono HB1.out.size)
  have hC:=safe_any A2 b _ _ _ _ (histOf b ag) (HB.out.later (Kp.of HB2.out)) HV.out (hvec.later (Kp.of HW2.out)) hL (histOf_in HV.out ag)
  have z0:=B2.out.cell 0 rfl
  have z1:=B2.out.cell 1 rfl
  have z2:=B2.out.cell 2 rfl
  have z3:=B2.out.cell 3 rfl
  have z4:=B2.out.cell 4 rfl
  have z5:=B2.out.cell 5 rfl
  have HL:Hid (histOf b ag≠ []):=hL
  clear hL hvec
  go_wp2_with fail
  refine hC.mono ?_
  rintro e w2 ⟨⟨vs,rfl,hvs,_⟩,hb2⟩
  obtain⟨sa,sc,rfl,_,_⟩:=hvs.slice
  have HB3:Hid (Below w.heap.size w w2):=HB2.out.trans (hb2.mono HB2.out.size)
  clear hb2 hvs hC z0 z1 z2 z3 z4 z5 hA2
  go_wp2
  go_ret2
  exact⟨.inr ⟨HL.out,rfl⟩,HB3.out⟩
end Go.Proofs.Cz
end
section
namespace Go.Proofs.Cz
open Go.RowKit
theorem results_cell_tmp2 {fn:Func} {p u u':Tmp} {ty:TypeId} (h:fn.results=#[.cell p ty,.tmp u,.tmp u']) (tmps:Array Value) (P:Program) (w:World):
 (results fn tmps).run P w=
   ((asAddr (tmps.getD p undef)).run P w).andThen fun a w₁=>((loadVar ty a).run P w₁).andThen fun v w₂=>.ok (.tuple #[v,tmps.getD u undef,tmps.getD u' undef]) w₂:=by
 simp only[results,h]
 simp[Sem.run_bind,Result.andThen]
theorem Box.same {w:World} {g:Nat} {t:TypeId} {cs:Array Value} {i:Nat} {v:Value} (h:Box w g t cs) (hv:cs[i]?=some v):w.setCell ⟨g,i,none⟩ v=w:=by
 have e:(w.setCell ⟨g,i,none⟩ v).heap=w.heap:=by
  refine Array.ext_getElem? fun k=>?_
  by_cases hk:k=g
  ·subst hk
   have h1:_=_:=h.set i v
   have h2:cs.setIfInBounds i v=cs:=by
    refine Array.ext_getElem? fun j=>?_
    by_cases hj:i=j
    ·subst hj
     obtain⟨hlt,hx⟩:=Array.getElem?_eq_some_iff.1 hv
     rw[Array.getElem?_setIfInBounds_self_of_lt hlt,hv]
    ·rw[Array.getElem?_setIfInBounds_ne hj]
   rw[h2]at h1
   exact h1.trans h.symm
  ·exact Below.heap_setCell _ _ _ _ hk
 show({w with heap:=(w.setCell ⟨g,i,none⟩ v).heap}:World)=w
 rw[e]
def RetSt (w:World) (b:Book) (v2 v3 v4:Value) (L:List (Nat→Int)) (e:Ending) (w':World):Prop:=
 ((L=[]∧e=.returned (.tuple #[shop0,.slice none 0 0,.int .i64 9]))∨(L≠ []∧safeOf b L=[]∧e=.returned (.tuple #[shop0,.slice none 0 0,.int .i64 8]))∨
  (L≠ []∧safeOf b L≠ []∧∃a c vs,e=.returned (.tuple #[shop b v2 v3 v4 (.slice a L.length c),vs,.int .i64 0])∧VecsAt 5 w' (.slice a L.length c) L∧VecsAt 4 w' vs (safeOf b L)∧Fresh w (.slice a L.length c)∧Fresh w vs))∧Below w.heap.size w w'
set_option maxHeartbeats 1000000 in
set_option maxRecDepth 20000 in
theorem stocked_any (w:World) (v:Value) (b:Book) (ag:(Nat→Int)→Bool) (a2:Option Addr) (c2:Nat) (v3 v4:Value) (hv1:v=.agg #[.int .i64 b.beat,.int .i64 b.places,.slice a2 b.parts.length c2,v3,v4]) (hb:BookAt w v b) (hv:Valid b) (hc:Chk w) (hag:Agrees w v ag):
 Calls Tz.prog 51 #[v] w (RetSt w b (.slice a2 b.parts.length c2) v3 v4 (histOf b ag)):=by
 subst hv1
 have HB:Hid (BookAt w (.agg #[.int .i64 b.beat,.int .i64 b.places,.slice a2 b.parts.length c2,v3,v4]) b):=hb
 have HV:Hid (Valid b):=hv
 have HC:Hid (Chk w):=hc
 obtain⟨a2',c2',a3,c3,a4,c4,hvv⟩:=hb.parts'
 simp only[Value.agg.injEq,Array.mk.injEq,List.cons.injEq,true_and,and_true]at hvv
 obtain⟨_,rfl,rfl⟩:=hvv
 have HAG:Hid (Agrees w (.agg #[.int .i64 b.beat,.int .i64 b.places,.slice a2 b.parts.length c2,.slice a3 b.apart.length c3,.slice a4 b.trials.length c4]) ag):=hag
 obtain⟨A1,hA1⟩:∃A,w.alloc (.cells #[.int .i64 b.beat,.int .i64 b.places,.slice a2 b.parts.length c2,.slice a3 b.apart.length c3,.slice a4 b.trials.length c4] 26)=A:=⟨_,rfl⟩
 obtain⟨A2,hA2⟩:∃A,A1.alloc (.cells #[.int .i64 0,.int .i64 0,.slice none 0 0,.slice none 0 0,.slice none 0 0,.slice none 0 0] 86)=A:=⟨_,rfl⟩
 have hs1:A1.heap.size=w.heap.size+1:=by rw[←hA1];simp
 have hs2:A2.heap.size=w.heap.size+2:=by rw[←hA2];simp[hs1]
 have B1:Hid (Box A2 w.heap.size 26 #[.int .i64 b.beat,.int .i64 b.places,.slice a2 b.parts.length c2,.slice a3 b.apart.length c3,.slice a4 b.trials.length c4]):=by
  rw[←hA2];refine(Keep.alloc [] _ _).box ?_ (by simp)
  rw[←hA1];exact Box.new _ _ _
 have HR0:Hid (Box A2 (w.heap.size+1) 86 #[.int .i64 0,.int .i64 0,.slice none 0 0,.slice none 0 0,.slice none 0 0,.slice none 0 0]):=by rw[←hA2,←hs1];exact Box.new _ _ _
 have HW:Hid (Below w.heap.size w A2):=by rw[←hA2,←hA1];exact((Keep.alloc [] _ _).allocs _).below (by simp) (Nat.le_refl _)
 have z0:=B1.out.cell 0 rfl
 have z1:=B1.out.cell 1 rfl
 have z2:=B1.out.cell 2 rfl
 have z3:=B1.out.cell 3 rfl
 have z4:=B1.out.cell 4 rfl
 clear hb hv hc hag
 go_enter Tz.func51,Tz.ntmps51
 go_wp2_with fail
 refine(open_any A2 b _ a2 c2 _ _ ag rfl (HB.out.later (Kp.of HW.out)) HV.out (HC.out.later HW.out) (fun X t hX=>HAG.out X t (HW.out.trans (hX.mono HW.out.size)))).mono ?_
 rintro e w1 ⟨hre,hb1⟩
 have HB1:Hid (Below w.heap.size w w1):=HW.out.trans (hb1.mono HW.out.size)
 have HR1:Hid (Box w1 (w.heap.size+1) 86 #[.int .i64 0,.int .i64 0,.slice none 0 0,.slice none 0 0,.slice none 0 0,.slice none 0 0]):=HR0.out.below hb1 HR0.out.lt
 have hml:=machines_len HV.out
 have hs1w:w.heap.size+1<w1.heap.size:=HR1.out.lt
 clear hb1 z0 z1 z2 z3 z4 hA1 hA2
 rcases hre with⟨hL,rfl⟩|⟨hL,a,c,rfl,hvec,hfr⟩
 ·have HL:Hid (histOf b ag=[]):=hL
  clear hL
  obtain⟨W,hW⟩:∃W,w1.alloc (.cells #[.int .i64 0,.int .i64 0,.slice none 0 0,.slice none 0 0,.slice none 0 0,.slice none 0 0] 86)=W:=⟨_,rfl⟩
  have hkW:Keep [] w1 W:=by rw[←hW];exact Keep.alloc _ _ _
  have hBW:Box W w1.heap.size 86 #[.int .i64 0,.int .i64 0,.slice none 0 0,.slice none 0 0,.slice none 0 0,.slice none 0 0]:=by rw[←hW];exact Box.new _ _ _
  have HRW:=hkW.box HR1.out (by simp)
  have t0:=HRW.cell 0 rfl
  have t1:=HRW.cell 1 rfl
  have t2:=HRW.cell 2 rfl
  have t3:=HRW.cell 3 rfl
  have t4:=HRW.cell 4 rfl
  have t5:=HRW.cell 5 rfl
  have f0:=HRW.warm 0
  have f1:=HRW.warm 1
  have f2:=HRW.warm 2
  have f3:=HRW.warm 3
  have f4:=HRW.warm 4
  have f5:=HRW.warm 5
  have s0:=hBW.cell 0 rfl
  have s1:=hBW.cell 1 rfl
  have s2:=hBW.cell 2 rfl
  have s3:=hBW.cell 3 rfl
  have s4:=hBW.cell 4 rfl
  have s5:=hBW.cell 5 rfl
  have g0:=hBW.warm 0
  have g1:=hBW.warm 1
  have g2:=hBW.warm 2
  have g3:=hBW.warm 3
  have g4:=hBW.warm 4
  have g5:=hBW.warm 5
  have e0:=hBW.same (i:=0) (v:=.int .i64 0) rfl
  have e1:=hBW.same (i:=1) (v:=.int .i64 0) rfl
  have e2:=hBW.same (i:=2) (v:=.slice none 0 0) rfl
  have e3:=hBW.same (i:=3) (v:=.slice none 0 0) rfl
  have e4:=hBW.same (i:=4) (v:=.slice none 0 0) rfl
  have e5:=hBW.same (i:=5) (v:=.slice none 0 0) rfl
  have d0:=HRW.same (i:=0) (v:=.int .i64 0) rfl
  have d1:=HRW.same (i:=1) (v:=.int .i64 0) rfl
  have d2:=HRW.same (i:=2) (v:=.slice none 0 0) rfl
  have d3:=HRW.same (i:=3) (v:=.slice none 0 0) rfl
  have d4:=HRW.same (i:=4) (v:=.slice none 0 0) rfl
  have d5:=HRW.same (i:=5) (v:=.slice none 0 0) rfl
  go_wp2
  refine bodyPost_ret (v:=.tuple #[shop0,.slice none 0 0,.int .i64 9]) ?_ rfl ⟨.inl ⟨HL.out,rfl⟩,HB1.out.trans (hkW.below (by simp) HB1.out.size)⟩
  rw[results_cell_tmp2 rfl]
  go_simp
 ·obtain⟨W,hW⟩:∃A,w1.alloc (.cells #[.int .i64 b.beat,.int .i64 b.places,.slice a2 b.parts.length c2,.slice a3 b.apart.length c3,.slice a4 b.trials.length c4,.slice a (histOf b ag).length c] 86)=A:=⟨_,rfl⟩
  have B2:Hid (Box W w1.heap.size 86 #[.int .i64 b.beat,.int .i64 b.places,.slice a2 b.parts.length c2,.slice a3 b.apart.length c3,.slice a4 b.trials.length c4,.slice a (histOf b ag).length c]):=by rw[←hW];exact Box.new _ _ _
  have hkW:Keep [] w1 W:=by rw[←hW];exact Keep.alloc _ _ _
  have HW2:Hid (Below w1.heap.size w1 W):=hkW.below (by simp) (Nat.le_refl _)
  have HB2:Hid (Below w.heap.size w W):=HB1.out.trans (HW2.out.mono HB1.out.size)
  have HRW:=hkW.box HR1.out (by simp)
  have hC:=safe_any W b _ _ _ _ (histOf b ag) (HB.out.later (Kp.of HB2.out)) HV.out (hvec.later (Kp.of HW2.out)) hL (histOf_in HV.out ag)
  have HVE:Hid (VecsAt 5 W (.slice a (histOf b ag).length c) (histOf b ag)):=hvec.later (Kp.of HW2.out)
  have z0:=B2.out.cell 0 rfl
  have z1:=B2.out.cell 1 rfl
  have z2:=B2.out.cell 2 rfl
  have z3:=B2.out.cell 3 rfl
  have z4:=B2.out.cell 4 rfl
  have z5:=B2.out.cell 5 rfl
  have HL:Hid (histOf b ag≠ []):=hL
  have HFR:Hid (Fresh A2 (.slice a (histOf b ag).length c)):=hfr
  clear hL hvec hfr
  go_wp2_with fail
  refine hC.mono ?_
  rintro e w2 ⟨⟨vs,rfl,hvs,hfr2⟩,hb2⟩
  obtain⟨sa,sc,rfl,_,_⟩:=hvs.slice
  have hsl:(safeOf b (histOf b ag)).length≤(machinesOf b).length:=List.length_filter_le _ _
  have HB3:Hid (Below w.heap.size w w2):=HB2.out.trans (hb2.mono HB2.out.size)
  have HVS:Hid (VecsAt 4 w2 (.slice sa (safeOf b (histOf b ag)).length sc) (safeOf b (histOf b ag))):=hvs
  have HVE2:Hid (VecsAt 5 w2 (.slice a (histOf b ag).length c) (histOf b ag)):=HVE.out.later (Kp.of hb2)
  have HR2:Box w2 (w.heap.size+1) 86 #[.int .i64 0,.int .i64 0,.slice none 0 0,.slice none 0 0,.slice none 0 0,.slice none 0 0]:=HRW.below hb2 HRW.lt
  have HS2:Hid (Box w2 w1.heap.size 86 #[.int .i64 b.beat,.int .i64 b.places,.slice a2 b.parts.length c2,.slice a3 b.apart.length c3,.slice a4 b.trials.length c4,.slice a (histOf b ag).length c]):=B2.out.below hb2 B2.out.lt
  have HFR2:Hid (Fresh W (.slice sa (safeOf b (histOf b ag)).length sc)):=hfr2
  have HsW:Hid (A2.heap.size≤W.heap.size):=(Nat.le_trans (by rw[hs2];omega) hkW.size:A2.heap.size≤W.heap.size)
  clear hb2 hvs hC z0 z1 z2 z3 z4 z5 hW HRW hfr2
  by_cases h0:safeOf b (histOf b ag)=[]
  ·have HS:Hid (safeOf b (histOf b ag)=[]):=h0
   rw[h0]
   simp only[List.length_nil]
   have HRW:=HR2
   have t0:=HRW.cell 0 rfl
   have t1:=HRW.cell 1 rfl
   have t2:=HRW.cell 2 rfl
   have t3:=HRW.cell 3 rfl
   have t4:=HRW.cell 4 rfl
   have t5:=HRW.cell 5 rfl
   have f0:=HRW.warm 0
   have f1:=HRW.warm 1
   have f2:=HRW.warm 2
   have f3:=HRW.warm 3
   have f4:=HRW.warm 4
   have f5:=HRW.warm 5
   have d0:=HRW.same (i:=0) (v:=.int .i64 0) rfl
   have d1:=HRW.same (i:=1) (v:=.int .i64 0) rfl
   have d2:=HRW.same (i:=2) (v:=.slice none 0 0) rfl
   have d3:=HRW.same (i:=3) (v:=.slice none 0 0) rfl
   have d4:=HRW.same (i:=4) (v:=.slice none 0 0) rfl
   have d5:=HRW.same (i:=5) (v:=.slice none 0 0) rfl
   go_wp2
   refine bodyPost_ret (v:=.tuple #[shop0,.slice none 0 0,.int .i64 8]) ?_ rfl ⟨.inr (.inl ⟨HL.out,HS.out,rfl⟩),HB3.out⟩
   rw[results_cell_tmp2 rfl]
   go_simp
  ·have HS:Hid (safeOf b (histOf b ag)≠ []):=h0
   have hpos:0<(safeOf b (histOf b ag)).length:=List.length_pos_iff.2 h0
   obtain⟨ln,hln⟩:∃ln,(safeOf b (histOf b ag)).length=ln:=⟨_,rfl⟩
   have HLN:Hid ((safeOf b (histOf b ag)).length=ln):=hln
   rw[hln]at hpos hsl⊢
   have hn1:¬((ln:Int)=0):=by omega
   have hn2:((ln:Int)==0)=false:=by simp;omega
   have HR2':Hid (Box w2 (w.heap.size+1) 86 #[.int .i64 0,.int .i64 0,.slice none 0 0,.slice none 0 0,.slice none 0 0,.slice none 0 0]):=HR2
   have hs2w:w1.heap.size<w2.heap.size:=HS2.out.lt
   have t0:=HR2.cell 0 rfl
   have t1:=HR2.cell 1 rfl
   have t2:=HR2.cell 2 rfl
   have t3:=HR2.cell 3 rfl
   have t4:=HR2.cell 4 rfl
   have t5:=HR2.cell 5 rfl
   have f0:=HR2.warm 0
   have f1:=HR2.warm 1
   have f2:=HR2.warm 2
   have f3:=HR2.warm 3
   have f4:=HR2.warm 4
   have f5:=HR2.warm 5
   have s0:=HS2.out.cell 0 rfl
   have s1:=HS2.out.cell 1 rfl
   have s2:=HS2.out.cell 2 rfl
   have s3:=HS2.out.cell 3 rfl
   have s4:=HS2.out.cell 4 rfl
   have s5:=HS2.out.cell 5 rfl
   clear HR2 h0 hln
   go_wp2
   obtain⟨WF,hWF⟩:∃W,((((((w2.setCell ⟨w.heap.size+1,0,none⟩ (.int .i64 b.beat)).setCell ⟨w.heap.size+1,1,none⟩ (.int .i64 b.places)).setCell ⟨w.heap.size+1,2,none⟩ (.slice a2 b.parts.length c2)).setCell
    ⟨w.heap.size+1,3,none⟩ (.slice a3 b.apart.length c3)).setCell ⟨w.heap.size+1,4,none⟩ (.slice a4 b.trials.length c4)).setCell ⟨w.heap.size+1,5,none⟩ (.slice a (histOf b ag).length c))=W:=⟨_,rfl⟩
   obtain⟨HBF,hKF⟩:=box6 (.int .i64 b.beat) (.int .i64 b.places) (.slice a2 b.parts.length c2) (.slice a3 b.apart.length c3) (.slice a4 b.trials.length c4) (.slice a (histOf b ag).length c) HR2'.out
   rw[hWF]at HBF hKF⊢
   have HBW:Below w.heap.size w WF:=HB3.out.trans (hKF.below (by simp) HB3.out.size)
   have q0:=HBF.cell 0 rfl
   have q1:=HBF.cell 1 rfl
   have q2:=HBF.cell 2 rfl
   have q3:=HBF.cell 3 rfl
   have q4:=HBF.cell 4 rfl
   have q5:=HBF.cell 5 rfl
   have hsW:=HsW.out
   have hfa:=HFR.out
   have hfb:=HFR2.out
   have hva:=HVE2.out
   have hvb:=HVS.out
   rw[HLN.out]at hfb hvb
   refine bodyPost_ret (v:=.tuple #[shop b (.slice a2 b.parts.length c2) (.slice a3 b.apart.length c3) (.slice a4 b.trials.length c4) (.slice a (histOf b ag).length c),.slice sa ln sc,.int .i64 0]) ?_ rfl
    ⟨.inr (.inr ⟨HL.out,HS.out,a,c,_,rfl,?_,?_,hfa.le (by omega),hfb.le (by omega)⟩),HBW⟩
   ·rw[results_cell_tmp2 rfl]
    go_simp
   ·exact hva.on fun k hk hlt=>by
     have h1:=hfa k hk
     exact hKF.block k hlt (by simp;omega)
   ·exact hvb.on fun k hk hlt=>by
     have h1:=hfb k hk
     exact hKF.block k hlt (by simp;omega)
end Go.Proofs.Cz
end
section
namespace Go.Proofs.Cz
open Go.RowKit
def missing (N:Nat) (k:Int) (m:Nat→Int):Prop:=∀j,j<N→m j≠k
def placed (N:Nat) (m:Nat→Int):List Int:=(List.range N).map m
theorem placed_iff {N:Nat} {k:Int} {m:Nat→Int}:k∈placed N m↔¬missing N k m:=by
 unfold placed missing
 constructor
 ·intro h hm
  obtain⟨j,hj,e⟩:=List.mem_map.1 h
  exact hm j (List.mem_range.1 hj) e
 ·intro h
  refine Classical.byContradiction fun h2=>h fun j hj e=>h2 (List.mem_map.2 ⟨j,List.mem_range.2 hj,e⟩)
theorem ints_of_box {w:World} {g N:Nat} {m:Nat→Int} (hN:N≤4) (h:Box w g 91 (mac m)):IntsAt w (.slice (some ⟨g,0,none⟩) N 4) (placed N m):=by
 have hl:(placed N m).length=N:=by simp[placed]
 refine⟨_,4,⟨by rw[hl],by rw[hl];exact hN,by unfold maxLen;omega,(fun h=>by cases h),fun b e=>.inr ⟨mac m,91,(0,0),by cases e;exact h⟩⟩,fun b e j x hj=>?_⟩
 cases e
 have hj2:j<N:=by have:=(List.getElem?_eq_some_iff.1 hj).1;rwa [hl]at this
 have hx:x=m j:=by
  unfold placed at hj
  rw[List.getElem?_map,List.getElem?_range hj2]at hj
  simpa using hj.symm
 subst hx
 refine⟨rfl,?_⟩
 show w.cell? ⟨g,0+j,none⟩=_
 rw[Nat.zero_add]
 exact h.cell j (mac_get (by omega) m)
set_option maxHeartbeats 1000000 in
set_option maxRecDepth 20000 in
theorem need1_any (w:World) (gx gk:Nat) (b:Book) (v2 v3 v4 v5:Value) (N:Nat) (hN:b.places=N) (hN4:N≤4) (k:Int) (m:Nat→Int) (hx:Box w gx 86 #[.int .i64 b.beat,.int .i64 b.places,v2,v3,v4,v5]) (hk:Box w gk 3 #[.int .i64 k]):
 Calls Tz.prog 53 #[.agg (mac m),ptr gx,ptr gk] w (RetB w fun r=>Tr r (missing N k m)):=by
 obtain⟨A1,hA1⟩:∃A,w.alloc (.cells (mac m) 91)=A:=⟨_,rfl⟩
 have hk1:Keep [] w A1:=by rw[←hA1];exact Keep.alloc _ _ _
 have B1:Box A1 w.heap.size 91 (mac m):=by rw[←hA1];exact Box.new _ _ _
 have BX:=hk1.box hx (by simp)
 have BK:=hk1.box hk (by simp)
 have HW:Hid (Below w.heap.size w A1):=hk1.below (by simp) (Nat.le_refl _)
 have z1:∀X:After A1,X.1.cell? ⟨gx,1,none⟩=some (.int .i64 N):=fun X=>X.cell (by rw[←hN];exact BX.cell 1 rfl)
 have zk:∀X:After A1,X.1.cell? ⟨gk,0,none⟩=some (.int .i64 k):=fun X=>X.cell (BK.cell 0 rfl)
 by_cases hm:k∈placed N m
 ·have conC:∀X:After A1,Calls Tz.prog 54 #[.slice (some ⟨w.heap.size,0,none⟩) N 4,.int .i64 k] X.1 (fun e w''=>e=.returned (.bool true)∧∃Y:After A1,w''=Y.1):=fun X=>
   (contains_any X.1 _ _ k (ints_of_box hN4 (B1.below X.2 B1.lt))).mono fun e w' ⟨r,h1,h2,h3⟩=>⟨by cases r with
     |true=>exact h1
     |false=>exact absurd hm h2.f,X.same h3⟩
  have HM:Hid (¬missing N k m):=placed_iff.1 hm
  have hN4':(N:Int)≤4:=by omega
  simp only[mac]at hA1⊢
  clear hx hk hm B1 BX BK hk1
  go_enter Tz.func53,Tz.ntmps53
  go_wp2_with fail
  refine wp_region_after (by kernel_rfl) (by kernel_rfl) ?_
  repeat(go_big_quiet_step (first|(go_at_call 54;exact conC _)))
  refine wpQuiet_nil ?_
  rintro _ ⟨X,rfl⟩
  have HX:Hid (Below w.heap.size w X.1):=HW.out.trans (X.2.mono HW.out.size)
  clear z1 zk conC
  go_wp2
  go_ret
  exact RetB.mk (.no HM.out) HX.out
 ·have conC:∀X:After A1,Calls Tz.prog 54 #[.slice (some ⟨w.heap.size,0,none⟩) N 4,.int .i64 k] X.1 (fun e w''=>e=.returned (.bool false)∧∃Y:After A1,w''=Y.1):=fun X=>
   (contains_any X.1 _ _ k (ints_of_box hN4 (B1.below X.2 B1.lt))).mono fun e w' ⟨r,h1,h2,h3⟩=>⟨by cases r with
     |true=>exact absurd h2.t hm
     |false=>exact h1,X.same h3⟩
  have HM:Hid (missing N k m):=Classical.byContradiction fun h=>hm (placed_iff.2 h)
  have hN4':(N:Int)≤4:=by omega
  simp only[mac]at hA1⊢
  clear hx hk hm B1 BX BK hk1
  go_enter Tz.func53,Tz.ntmps53
  go_wp2_with fail
  refine wp_region_after (by kernel_rfl) (by kernel_rfl) ?_
  repeat(go_big_quiet_step (first|(go_at_call 54;exact conC _)))
  refine wpQuiet_nil ?_
  rintro _ ⟨X,rfl⟩
  have HX:Hid (Below w.heap.size w X.1):=HW.out.trans (X.2.mono HW.out.size)
  clear z1 zk conC
  go_wp2
  go_ret
  exact RetB.mk (.yes HM.out) HX.out
theorem vec_cells {w w':World} {blk off s:Nat} {t:Nat→Int} {k:Nat} (h:∀r,r<s→At w ⟨blk,off,none⟩ (k*s+r) (.int .i64 (t r))) (hk:Kp w w'):∀r,r<s→w'.cell? ⟨blk,off+k*s+r,none⟩=some (.int .i64 (t r)):=fun r hr=>by
 have:=((h r hr).later hk).2
 rwa [←Nat.add_assoc]at this
def NoMiss (N:Nat) (p:Int) (S:List (Nat→Int)) (k:Nat):Prop:=∀j m,j<k→S[j]?=some m→¬missing N p m
theorem NoMiss.zero (N:Nat) (p:Int) (S:List (Nat→Int)):NoMiss N p S 0:=fun j m h=>by omega
theorem NoMiss.succ {N:Nat} {p:Int} {S:List (Nat→Int)} {k:Nat} {m:Nat→Int} (h:NoMiss N p S k) (hm:S[k]?=some m) (hn:¬missing N p m):NoMiss N p S (k+1):=fun j y hj hy=>by
 by_cases e:j=k
 ·subst e;rw[hm]at hy;cases hy;exact hn
 ·exact h j y (by omega) hy
theorem NoMiss.all {N:Nat} {p:Int} {S:List (Nat→Int)} (h:NoMiss N p S S.length):¬∃m∈S,missing N p m:=fun⟨m,hm,h2⟩=>by
 obtain⟨j,hj,rfl⟩:=List.getElem_of_mem hm
 exact h j _ hj (List.getElem?_eq_getElem hj) h2
set_option maxHeartbeats 1000000 in
set_option maxRecDepth 20000 in
theorem idxNeed_any (w:World) (v:Value) (S:List (Nat→Int)) (h:VecsAt 4 w v S) (gx gk:Nat) (b:Book) (v2 v3 v4 v5:Value) (N:Nat) (hN:b.places=N) (hN4:N≤4) (p:Int) (hx:Box w gx 86 #[.int .i64 b.beat,.int .i64 b.places,v2,v3,v4,v5]) (hk:Box w gk 3 #[.int .i64 p]):
 Calls Tz.prog 94 #[v,.func (.func 53) #[] #[ptr gx,ptr gk]] w (RetI w fun r=>0≤r↔∃m∈S,missing N p m):=by
 obtain⟨a,c,h1,h2⟩:=h
 have H:Hid (SlAt w v S.length a c∧_):=⟨h1,h2⟩
 have HX:Hid (Box w gx 86 #[.int .i64 b.beat,.int .i64 b.places,v2,v3,v4,v5]):=hx
 have HK:Hid (Box w gk 3 #[.int .i64 p]):=hk
 obtain⟨rfl,l1,m1,n1,r1⟩:=h1
 unfold maxLen at m1
 clear h2 n1 r1 hx hk
 go_enter Tz.func94,Tz.ntmps94
 go_wp2
 go_loopw [8,5] (fun i j w1=>∃k:Nat,k≤S.length∧i=.int .i64 k∧Hid (NoMiss N p S k)∧Hid (Below w.heap.size w w1)) (fun i _ _=>S.length-(intOf i).toNat)
 case atStart=>exact⟨0,Nat.zero_le _,rfl,NoMiss.zero _ _ _,Below.refl _ _⟩
 case round=>
  obtain⟨k,hk,rfl,hNM,hB⟩:=hrel
  by_cases hlt:k<S.length
  ·obtain⟨⟨blk,off,sp⟩,m,rfl,hm,x0⟩:=H.out.1.elem H.out.2 hlt
   obtain rfl:sp=none:=(x0 0 (by omega)).1
   have hcell:=vec_cells x0 (Kp.of hB.out)
   have y0:=hcell 0 (by omega)
   have y1:=hcell 1 (by omega)
   have y2:=hcell 2 (by omega)
   have y3:=hcell 3 (by omega)
   simp only[Nat.add_zero]at y0
   have HM:Hid (S[k]?=some m):=hm
   have hk2:(k:Int)<(S.length:Int):=by omega
   have hC:=need1_any wr gx gk b v2 v3 v4 v5 N hN hN4 p m (HX.out.below hB.out HX.out.lt) (HK.out.below hB.out HK.out.lt)
   simp only[mac]at hC
   clear hcell x0 hm
   go_wp2_with
    (go_at_call 53
     refine hC.mono ?_
     rintro e w1 ⟨⟨r,rfl,hr⟩,hb1⟩
     have HB1:Hid (Below w.heap.size w w1):=hB.out.trans (hb1.mono hB.out.size)
     clear hb1 hC
     cases r)
   ·have HN:Hid (NoMiss N p S (k+1)):=hNM.out.succ HM.out hr.f
    clear hr
    go_round
    case rel=>exact⟨k+1,by omega,by go_num,HN,HB1⟩
    case measure=>simp[intOf];omega
   ·have hmm:Hid (missing N p m):=hr.t
    clear hr
    go_ret
    exact RetI.mk (r:=k) ⟨fun _=>⟨m,List.mem_of_getElem? HM.out,hmm.out⟩,fun _=>by omega⟩ HB1.out
  ·have e:k=S.length:=by omega
   subst e
   go_wp2
   go_ret
   exact RetI.mk (r:=-1) ⟨fun h=>absurd h (by decide),fun h=>absurd h hNM.out.all⟩ hB.out
set_option maxHeartbeats 1000000 in
theorem anyNeed_any (w:World) (v:Value) (S:List (Nat→Int)) (h:VecsAt 4 w v S) (gx gk:Nat) (b:Book) (v2 v3 v4 v5:Value) (N:Nat) (hN:b.places=N) (hN4:N≤4) (p:Int) (hx:Box w gx 86 #[.int .i64 b.beat,.int .i64 b.places,v2,v3,v4,v5]) (hk:Box w gk 3 #[.int .i64 p]):
 Calls Tz.prog 52 #[v,.func (.func 53) #[] #[ptr gx,ptr gk]] w (RetB w fun r=>Tr r (∃m∈S,missing N p m)):=by
 have hC:=idxNeed_any w v S h gx gk b v2 v3 v4 v5 N hN hN4 p hx hk
 go_enter Tz.func52,Tz.ntmps52
 go_wp2_with
  (go_at_call 94
   refine hC.mono ?_
   rintro e w1 ⟨⟨r,rfl,hr⟩,hb1⟩)
 have HE:Hid (0≤r↔∃m∈S,missing N p m):=hr
 have HB:Hid (Below w.heap.size w w1):=hb1
 clear hr hb1 hC
 go_wp2
 go_ret
 exact RetB.mk (show decide (0≤r)=true↔_ from decide_eq_true_iff.trans HE.out) HB.out
end Go.Proofs.Cz
end
section
namespace Go.Proofs.Cz
open Go.RowKit
open Classical in
noncomputable def needTo (N:Nat) (S:List (Nat→Int)):Nat→List Int
 |0=>[]
 |k+1=>needTo N S k++(if∃m∈S,missing N k m then []else [(k:Int)])
theorem needTo_no {N:Nat} {S:List (Nat→Int)} {k:Nat} (h:∃m∈S,missing N k m):needTo N S (k+1)=needTo N S k:=by rw[needTo,if_pos h,List.append_nil]
theorem needTo_yes {N:Nat} {S:List (Nat→Int)} {k:Nat} (h:¬∃m∈S,missing N k m):needTo N S (k+1)=needTo N S k++[(k:Int)]:=by rw[needTo,if_neg h]
theorem needTo_len (N:Nat) (S:List (Nat→Int)):∀k,(needTo N S k).length≤k
 |0=>Nat.le_refl _
 |k+1=>by
  have:=needTo_len N S k
  unfold needTo
  split<;>simp<;>omega
theorem mem_needTo {N:Nat} {S:List (Nat→Int)} {p:Nat}:∀{k:Nat},(p:Int)∈needTo N S k↔p<k∧¬∃m∈S,missing N p m
 |0=>by simp[needTo]
 |k+1=>by
  by_cases h:∃m∈S,missing N k m
  ·rw[needTo_no h,mem_needTo]
   refine⟨fun h1=>⟨by omega,h1.2⟩,fun h1=>⟨?_,h1.2⟩⟩
   by_cases e:p=k
   ·subst e;exact absurd h h1.2
   ·omega
  ·rw[needTo_yes h,List.mem_append,mem_needTo]
   refine⟨fun h1=>?_,fun h1=>?_⟩
   ·rcases h1 with h1|h1
    ·exact⟨by omega,h1.2⟩
    ·have:p=k:=by simp at h1;omega
     subst this
     exact⟨by omega,h⟩
   ·by_cases e:p=k
    ·subst e;right;simp
    ·left;exact⟨by omega,h1.2⟩
def RetNd (w:World) (b:Book) (L:List (Nat→Int)) (e:Ending) (w':World):Prop:=
 ((L=[]∧e=.returned (.tuple #[.slice none 0 0,.int .i64 9]))∨(L≠ []∧safeOf b L=[]∧e=.returned (.tuple #[.slice none 0 0,.int .i64 8]))∨
  (L≠ []∧safeOf b L≠ []∧∃v,e=.returned (.tuple #[v,.int .i64 0])∧IntsAt w' v (needTo b.places.toNat (safeOf b L) b.parts.length)))∧Below w.heap.size w w'
set_option maxHeartbeats 1000000 in
set_option maxRecDepth 20000 in
theorem needs_any (w:World) (v:Value) (b:Book) (ag:(Nat→Int)→Bool) (hb:BookAt w v b) (hv:Valid b) (hc:Chk w) (hag:Agrees w v ag):Calls Tz.prog 17 #[v] w (RetNd w b (histOf b ag)):=by
 have HB:Hid (BookAt w v b):=hb
 have HV:Hid (Valid b):=hv
 have HC:Hid (Chk w):=hc
 obtain⟨a2,c2,a3,c3,a4,c4,rfl⟩:=hb.parts'
 have HAG:Hid (Agrees w (.agg #[.int .i64 b.beat,.int .i64 b.places,.slice a2 b.parts.length c2,.slice a3 b.apart.length c3,.slice a4 b.trials.length c4]) ag):=hag
 obtain⟨A1,hA1⟩:∃A,w.alloc (.cells #[.int .i64 b.beat,.int .i64 b.places,.slice a2 b.parts.length c2,.slice a3 b.apart.length c3,.slice a4 b.trials.length c4] 26)=A:=⟨_,rfl⟩
 have B1:Hid (Box A1 w.heap.size 26 #[.int .i64 b.beat,.int .i64 b.places,.slice a2 b.parts.length c2,.slice a3 b.apart.length c3,.slice a4 b.trials.length c4]):=by rw[←hA1];exact Box.new _ _ _
 have HW:Hid (Below w.heap.size w A1):=by rw[←hA1];exact(Keep.alloc [] _ _).below (by simp) (Nat.le_refl _)
 have z0:=B1.out.cell 0 rfl
 have z1:=B1.out.cell 1 rfl
 have z2:=B1.out.cell 2 rfl
 have z3:=B1.out.cell 3 rfl
 have z4:=B1.out.cell 4 rfl
 obtain⟨i0,hi,hz0,hz1,hz2⟩:=info_parts info3
 clear hb hv hc hag
 go_enter Tz.func17,Tz.ntmps17
 go_wp2_with fail
 refine(stocked_any A1 _ b ag a2 c2 _ _ rfl (HB.out.later (Kp.of HW.out)) HV.out (HC.out.later HW.out) (fun X t hX=>HAG.out X t (HW.out.trans (hX.mono HW.out.size)))).mono ?_
 rintro e w1 ⟨hre,hb1⟩
 have HB1:Hid (Below w.heap.size w w1):=HW.out.trans (hb1.mono HW.out.size)
 clear hb1 z0 z1 z2 z3 z4 hA1
 rcases hre with⟨hL,rfl⟩|⟨hL,hS,rfl⟩|⟨hL,hS,a,c,vs,rfl,hva,hvs,hfa,hfs⟩
 ·have HL:Hid (histOf b ag=[]):=hL
  clear hL
  go_wp2
  go_ret2
  exact⟨.inl ⟨HL.out,rfl⟩,HB1.out.alloc HB1.out.size _⟩
 ·have HL:Hid (histOf b ag≠ []∧safeOf b (histOf b ag)=[]):=⟨hL,hS⟩
  clear hL hS
  go_wp2
  go_ret2
  exact⟨.inr (.inl ⟨HL.out.1,HL.out.2,rfl⟩),HB1.out.alloc HB1.out.size _⟩
 ·have HL:Hid (histOf b ag≠ []∧safeOf b (histOf b ag)≠ []):=⟨hL,hS⟩
  obtain⟨A2,hA2⟩:∃A,w1.alloc (.cells #[.int .i64 b.beat,.int .i64 b.places,.slice a2 b.parts.length c2,.slice a3 b.apart.length c3,.slice a4 b.trials.length c4,.slice a (histOf b ag).length c] 86)=A:=⟨_,rfl⟩
  have B2:Hid (Box A2 w1.heap.size 86 #[.int .i64 b.beat,.int .i64 b.places,.slice a2 b.parts.length c2,.slice a3 b.apart.length c3,.slice a4 b.trials.length c4,.slice a (histOf b ag).length c]):=by rw[←hA2];exact Box.new _ _ _
  have HW2:Hid (Below w1.heap.size w1 A2):=by rw[←hA2];exact(Keep.alloc [] _ _).below (by simp) (Nat.le_refl _)
  have HB2:Hid (Below w.heap.size w A2):=HB1.out.trans (HW2.out.mono HB1.out.size)
  have HVS:Hid (VecsAt 4 A2 vs (safeOf b (histOf b ag))):=hvs.later (Kp.of HW2.out)
  have z0:=B2.out.cell 0 rfl
  have z1:=B2.out.cell 1 rfl
  have z2:=B2.out.cell 2 rfl
  obtain⟨sa,sc,rfl,_,_⟩:=hvs.slice
  have hpm:=HV.out.parts.many
  clear hL hS hva hvs hfa hfs
  go_wp2_with fail
  go_loopw [23,7] (fun i v wr=>∃k:Nat,k≤b.parts.length∧i=.int .i64 k∧Hid (wr.ownsRow A2.heap.size 3 1 v (needTo b.places.toNat (safeOf b (histOf b ag)) k).length ((needTo b.places.toNat (safeOf b (histOf b ag)) k).map (Value.int .i64)))∧Hid (Below A2.heap.size A2 wr)) (fun i _ _=>b.parts.length-(intOf i).toNat)
  case atStart=>exact⟨0,Nat.zero_le _,rfl,World.ownsRow_nil _ _ _ _,Below.refl _ _⟩
  case round=>
   obtain⟨k,hk,rfl,hO,hB⟩:=hrel
   by_cases hlt:k<b.parts.length
   ·have hk2:(k:Int)<(b.parts.length:Int):=by omega
    obtain⟨A3,hA3⟩:∃A,wr.alloc (.cells #[.int .i64 k] 3)=A:=⟨_,rfl⟩
    have hk3:Keep [] wr A3:=by rw[←hA3];exact Keep.alloc _ _ _
    have B3:Hid (Box A3 wr.heap.size 3 #[.int .i64 k]):=by rw[←hA3];exact Box.new _ _ _
    have HA3:Hid (Below wr.heap.size wr A3):=hk3.below (by simp) (Nat.le_refl _)
    have HK3:Hid (Below A2.heap.size A2 A3):=hB.out.trans (HA3.out.mono hB.out.size)
    have hpl:=HV.out.places
    have hC:=anyNeed_any A3 _ (safeOf b (histOf b ag)) (HVS.out.later (Kp.of HK3.out)) w1.heap.size wr.heap.size b _ _ _ _ b.places.toNat (by omega) (by omega) k (B2.out.below HK3.out B2.out.lt) B3.out
    have hln:=needTo_len b.places.toNat (safeOf b (histOf b ag)) k
    have hsz:=hB.out.size
    clear hk3
    go_wp2_with(first
     |(go_at_call 52
       refine hC.mono ?_
       rintro e w2 ⟨⟨r,rfl,hr⟩,hb2⟩
       have HBw:Hid (Below wr.heap.size wr w2):=HA3.out.trans (hb2.mono HA3.out.size)
       have x0:w2.cell? ⟨wr.heap.size,0,none⟩=some (.int .i64 k):=(B3.out.below hb2 B3.out.lt).cell 0 rfl
       have HOw:Hid (w2.ownsRow A2.heap.size 3 1 u7 (needTo b.places.toNat (safeOf b (histOf b ag)) k).length ((needTo b.places.toNat (safeOf b (histOf b ag)) k).map (Value.int .i64))):=ownsRow_on hO.out fun j hj=>HBw.out.block j (ownsRow_lt hO.out j hj).2
       have HR:Hid (Tr r (∃m∈safeOf b (histOf b ag),missing b.places.toNat k m)):=hr
       have hsz3:=HBw.out.size
       clear hb2 hr hC hA3
       cases r)
     |(at_builtin;refine wpList_append_own _ rfl (.tmp 30) (.tmp 32) 32 rfl A2.heap.size 3 i0 (.int .i64 0) 1 8 under32 hi hz0 hz1 hz2 rfl (by decide) _ _ _ rfl (HOw.out.alloc _) ⟨_,0,none⟩ 1 1 [.int .i64 k] rfl rfl (one_new _ _ _) (one_int _) (by unfold maxLen;omega) (by omega) (by simp;omega) ?_;intro v' w3 hown' hgrow _))
    ·have HO2:Hid (w3.ownsRow A2.heap.size 3 1 v' (needTo b.places.toNat (safeOf b (histOf b ag)) (k+1)).length ((needTo b.places.toNat (safeOf b (histOf b ag)) (k+1)).map (Value.int .i64))):=(by
      rw[needTo_yes HR.out.f,List.length_append,List.map_append];exact hown')
     have HB2:Hid (Below A2.heap.size A2 w3):=Below.grown (Below.alloc (hB.out.trans (HBw.out.mono hB.out.size)) (by omega) _) hgrow (by simp;omega) (owns_ge HOw.out)
     clear hown' hgrow HOw HR
     go_round
     case rel=>exact⟨k+1,by omega,by go_num,HO2,HB2⟩
     case measure=>simp[intOf];omega
    ·have HO2:Hid (w2.ownsRow A2.heap.size 3 1 u7 (needTo b.places.toNat (safeOf b (histOf b ag)) (k+1)).length ((needTo b.places.toNat (safeOf b (histOf b ag)) (k+1)).map (Value.int .i64))):=(by
      rw[needTo_no HR.out.t];exact HOw.out)
     have HB2:Hid (Below A2.heap.size A2 w2):=hB.out.trans (HBw.out.mono hB.out.size)
     clear HOw HR
     go_round
     case rel=>exact⟨k+1,by omega,by go_num,HO2,HB2⟩
     case measure=>simp[intOf];omega
   ·have e:k=b.parts.length:=by omega
    subst e
    have HBr:Hid (Below w.heap.size w wr):=HB2.out.trans (hB.out.mono HB2.out.size)
    go_wp2
    go_ret2
    exact⟨.inr (.inr ⟨HL.out.1,HL.out.2,_,rfl,IntsAt.of_owns hO.out⟩),HBr.out⟩
end Go.Proofs.Cz
end
section
namespace Go.Proofs.Cz
open Go.RowKit
theorem PartsAt.row {w:World} {blk off cap:Nat} {l:List Part} (h:PartsAt w (.slice (some ⟨blk,off,none⟩) l.length cap) l):
 ∃fs:List Value,fs.length=l.length∧(∀j u,(partsC l fs)[j]?=some u→w.cell? ⟨blk,off+j,none⟩=some u)∧(∀u∈partsC l fs,u.oneCell'=true)∧
  ∀(j:Nat) (x:Part) (f:Value),l[j]?=some x→fs[j]?=some f→IntsAt w f x.fits:=by
 obtain⟨a,c,h1,h2⟩:=h
 have e:=h1.eq
 simp only[Value.slice.injEq,true_and]at e
 obtain⟨rfl,rfl⟩:=e
 have hx:=h2 _ rfl
 let fs:List Value:=(List.range l.length).map fun j=>(w.cell? ⟨blk,off+(j*6+5),none⟩).getD undef
 have hfl:fs.length=l.length:=by simp[fs]
 have hfs:∀j x f,l[j]?=some x→fs[j]?=some f→w.cell? ⟨blk,off+(j*6+5),none⟩=some f∧IntsAt w f x.fits:=fun j x f hj hf=>by
  obtain⟨_,_,_,_,_,vf,x5,x6⟩:=hx j x hj
  have hlt:j<l.length:=(List.getElem?_eq_some_iff.1 hj).1
  simp only[fs,List.getElem?_map,List.getElem?_range hlt,Option.map_some,x5.2,Option.getD_some,Option.some.injEq]at hf
  subst hf
  exact⟨x5.2,x6⟩
 have key:∀j u,(partsC l fs)[j]?=some u→w.cell? ⟨blk,off+j,none⟩=some u∧u.oneCell'=true:=fun j u hu=>by
  have hjl:j<l.length*6:=by have:=(List.getElem?_eq_some_iff.1 hu).1;rwa [partsC_len l fs hfl]at this
  obtain⟨q,r,hr,rfl⟩:∃q r,r<6∧j=q*6+r:=⟨j/6,j%6,Nat.mod_lt _ (by omega),by omega⟩
  have hq:q<l.length:=by omega
  have hxq:l[q]?=some l[q]:=List.getElem?_eq_getElem hq
  have hfq:fs[q]?=some fs[q]:=List.getElem?_eq_getElem (by omega)
  rw[partsC_get l fs q r _ _ hxq hfq hr]at hu
  obtain⟨x0,x1,x2,x3,x4,_⟩:=hx q _ hxq
  have h5:=hfs q _ _ hxq hfq
  match r,hr,hu with
  |0,_,hu=>simp[partC]at hu;subst hu;exact⟨x0.2,rfl⟩
  |1,_,hu=>simp[partC]at hu;subst hu;exact⟨x1.2,rfl⟩
  |2,_,hu=>simp[partC]at hu;subst hu;exact⟨x2.2,rfl⟩
  |3,_,hu=>simp[partC]at hu;subst hu;exact⟨x3.2,rfl⟩
  |4,_,hu=>simp[partC]at hu;subst hu;exact⟨x4.2,rfl⟩
  |5,_,hu=>
   simp[partC]at hu
   subst hu
   refine⟨h5.1,?_⟩
   obtain⟨_,_,hs,_⟩:=h5.2
   rw[hs.eq];rfl
 refine⟨fs,hfl,fun j u hu=>(key j u hu).1,fun u hu=>?_,fun j x f hj hf=>(hfs j x f hj hf).2⟩
 obtain⟨j,hj⟩:=List.getElem?_of_mem hu
 exact(key j u hj).2
theorem PartsAt.of_row {w:World} {B:Nat} {v:Value} {l:List Part} {fs:List Value} (h:w.ownsRow B 34 6 v l.length (partsC l fs)) (hfl:fs.length=l.length)
 (hi:∀(j:Nat) (x:Part) (f:Value),l[j]?=some x→fs[j]?=some f→IntsAt w f x.fits):PartsAt w v l:=by
 obtain⟨_,⟨rfl,h0⟩|⟨g,cap,cur,rfl,_,hg,hle,hcap,hsz,htk⟩⟩:=h
 ·have:l=[]:=List.eq_nil_of_length_eq_zero h0
  subst this
  exact⟨none,0,⟨rfl,Nat.le_refl _,by unfold maxLen;omega,fun _=>rfl,(fun b hb=>by cases hb)⟩,fun b hb=>by cases hb⟩
 ·refine⟨_,cap,⟨rfl,hle,hcap,(fun h=>by cases h),fun b hb=>Or.inr ⟨cur,34,(0,0),by cases hb;exact hg⟩⟩,fun b hb j x hj=>?_⟩
  cases hb
  have hj2:j<l.length:=(List.getElem?_eq_some_iff.1 hj).1
  obtain⟨f,hfj⟩:∃f,fs[j]?=some f:=⟨_,List.getElem?_eq_getElem (by omega)⟩
  have cell:∀r u,r<6→(partC x f)[r]?=some u→At w ⟨g,0,none⟩ (j*6+r) u:=fun r u hr hu=>by
   refine⟨rfl,?_⟩
   simp only[World.cell?,hg]
   have h1:=partsC_get l fs j r x f hj hfj hr
   rw[hu,←htk,List.getElem?_take,if_pos (by omega)]at h1
   simpa using h1
  exact⟨cell 0 _ (by omega) rfl,cell 1 _ (by omega) rfl,cell 2 _ (by omega) rfl,cell 3 _ (by omega) rfl,cell 4 _ (by omega) rfl,f,cell 5 _ (by omega) rfl,hi j x _ hj hfj⟩
theorem ownsRow_form {w:World} {B s n:Nat} {e:TypeId} {v:Value} {xs:List Value} (h:w.ownsRow B e s v n xs) (hn:0<n):∃g cap,v=.slice (some ⟨g,0,none⟩) n cap∧B≤g∧g<w.heap.size∧cap≤maxLen∧n≤cap:=by
 obtain⟨_,⟨_,h0⟩|⟨g,cap,cur,rfl,hb,hg,hle,hcap,_⟩⟩:=h
 ·omega
 ·exact⟨g,cap,rfl,hb,(Array.getElem?_eq_some_iff.1 hg).1,hcap,hle⟩
theorem partsC_set:∀(l:List Part) (fs:List Value) (i r:Nat) (x y:Part) (f g u:Value),fs.length=l.length→l[i]?=some x→fs[i]?=some f→r<6→(partC x f).set r u=partC y g→
 (partsC l fs).set (i*6+r) u=partsC (l.set i y) (fs.set i g)
 |x0::l,f0::fs,0,r,x,y,f,g,u,hl,hx,hf,hr,he=>by
  simp at hx hf
  subst hx hf
  simp only[List.set_cons_zero,partsC,Nat.zero_mul,Nat.zero_add]
  rw[List.set_append_left _ _ (by show r<6;exact hr),he]
 |x0::l,f0::fs,i+1,r,x,y,f,g,u,hl,hx,hf,hr,he=>by
  simp only[List.set_cons_succ,partsC]
  have ih:=partsC_set l fs i r x y f g u (by simpa using hl) (by simpa using hx) (by simpa using hf) hr he
  rw[List.set_append_right _ _ (by show 6≤_;omega)]
  show partC x0 f0++(partsC l fs).set ((i+1)*6+r-6) u=_
  rw[show(i+1)*6+r-6=i*6+r by omega,ih]
 | [],_,_,_,_,_,_,_,_,_,hx,_,_,_=>by simp at hx
 |_::_,[],_,_,_,_,_,_,_,hl,_,_,_,_=>by simp at hl
end Go.Proofs.Cz
end
