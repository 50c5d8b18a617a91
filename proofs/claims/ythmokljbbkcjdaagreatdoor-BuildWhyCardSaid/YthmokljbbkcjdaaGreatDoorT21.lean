/- A part of the proof that BuildWhy returns true. Conditions: none. -/
import Derived.Test.YthmokljbbkcjdaaGreatDoorT17
import Derived.Test.YthmokljbbkcjdaaGreatDoorT20
import Derived.Deep.RegionHeld3
set_option linter.unusedVariables false
set_option linter.unusedSimpArgs false
section
namespace Go.Proofs.Cz
open Go.RowKit
set_option maxRecDepth 100000 in
theorem built_any (w:World):Calls Tz.prog 10 #[] w (RetV w (.bool true)):=by
 go_enter Tz.func10,Tz.ntmps10
 unfold Tz.stub
 go_wp2
 go_ret
 exact⟨rfl,Below.refl _ _⟩
def sumTo (f:Int→Nat) (l:List Int) (n:Nat):Nat:=((l.take n).map f).sum
theorem sumTo_le (f:Int→Nat) (l:List Int) (n:Nat):sumTo f l n≤(l.map f).sum:=by
 have h:l.map f=(l.take n).map f++(l.drop n).map f:=by rw[←List.map_append,List.take_append_drop]
 rw[h,List.sum_append]
 exact Nat.le_add_right _ _
end Go.Proofs.Cz
end
section
namespace Go.Proofs.Cz
open Go.RowKit
theorem bits_rising:∀(m:Fin 16) (n:Fin 5),m.1<2^n.1→((∀y∈bitsTo m.1 4,0≤y∧y≤(n.1:Int)-1)∧(bitsTo m.1 4).Pairwise (·<·)):=by decide+kernel
theorem bits_places:∀(p:Fin 256) (n:Fin 5),bitsTo p.1 n.1=bitsTo (p.1%2^n.1) 4:=by decide+kernel
theorem bits8_one:∀(m:Fin 256) (p:Fin 4),bits BinOp.and IntKind.u8 (((m.1:Nat):Int)/2^p.1) 1=if m.1.testBit p.1=true then 1 else 0:=by decide+kernel
theorem bits8_yes {mask p:Nat} (hm:mask<256) (hp:p<4) (h:mask.testBit p=true):bits BinOp.and IntKind.u8 ((mask:Int)/2^p) 1=1:=by
 have:=bits8_one ⟨mask,hm⟩ ⟨p,hp⟩
 rwa [if_pos h]at this
theorem bits8_no {mask p:Nat} (hm:mask<256) (hp:p<4) (h:¬mask.testBit p=true):bits BinOp.and IntKind.u8 ((mask:Int)/2^p) 1=0:=by
 have:=bits8_one ⟨mask,hm⟩ ⟨p,hp⟩
 rwa [if_neg h]at this
set_option maxHeartbeats 2000000 in
set_option maxRecDepth 20000 in
theorem law3 (w:World) (v:Value) (b:Book) (p:Int) (hp0:0≤p) (hp1:p<256) (hb:BookAt w v b) (hc:Chk w):Calls Tz.prog 3 #[v,.int .u8 p] w fun e _=>e=.returned (.bool true):=by
 have HB:Hid (BookAt w v b):=hb
 have HC:Hid (Chk w):=hc
 obtain⟨a2,c2,a3,c3,a4,c4,rfl⟩:=hb.parts'
 obtain⟨A1,hA1⟩:∃A,w.alloc (.cells #[.int .i64 b.beat,.int .i64 b.places,.slice a2 b.parts.length c2,.slice a3 b.apart.length c3,.slice a4 b.trials.length c4] 26)=A:=⟨_,rfl⟩
 have HX0:Hid (Box A1 w.heap.size 26 #[.int .i64 b.beat,.int .i64 b.places,.slice a2 b.parts.length c2,.slice a3 b.apart.length c3,.slice a4 b.trials.length c4]):=by rw[←hA1];exact Box.new _ _ _
 have HWA:Hid (Below w.heap.size w A1):=by rw[←hA1];exact(Keep.alloc [] _ _).below (by simp) (Nat.le_refl _)
 have z0:=HX0.out.cell 0 rfl
 have z1:=HX0.out.cell 1 rfl
 have z2:=HX0.out.cell 2 rfl
 have z3:=HX0.out.cell 3 rfl
 have z4:=HX0.out.cell 4 rfl
 clear hc hb
 go_enter Tz.func3,Tz.ntmps3
 go_wp2_with fail
 refine(fit_any A1 _ b (HB.out.later (Kp.of HWA.out))).mono ?_
 rintro e w1 ⟨⟨r,rfl,hr⟩,hb1⟩
 have HB1:Hid (Below A1.heap.size A1 w1):=hb1
 clear hb1 hA1 z0 z1 z2 z3 z4
 cases r with
 |false=>
  clear hr
  go_wp2_with(go_at_call 10;refine(built_any _).mono ?_;rintro e w2 ⟨rfl,_⟩)
  go_ret
  rfl
 |true=>
  obtain⟨_,hv⟩:=hr rfl
  have HV:Hid (Valid b):=hv
  have hpm:=hv.parts.many
  have hpl:=hv.places
  have s0:w1.cell? ⟨w.heap.size,0,none⟩=some (.int .i64 b.beat):=(HX0.out.below HB1.out HX0.out.lt).cell 0 rfl
  have s1:w1.cell? ⟨w.heap.size,1,none⟩=some (.int .i64 b.places):=(HX0.out.below HB1.out HX0.out.lt).cell 1 rfl
  have s2:w1.cell? ⟨w.heap.size,2,none⟩=some (.slice a2 b.parts.length c2):=(HX0.out.below HB1.out HX0.out.lt).cell 2 rfl
  have s3:w1.cell? ⟨w.heap.size,3,none⟩=some (.slice a3 b.apart.length c3):=(HX0.out.below HB1.out HX0.out.lt).cell 3 rfl
  have s4:w1.cell? ⟨w.heap.size,4,none⟩=some (.slice a4 b.trials.length c4):=(HX0.out.below HB1.out HX0.out.lt).cell 4 rfl
  clear hr hv
  by_cases h5:(5:Int)≤(b.parts.length:Int)
  ·clear s0 s1 s3 s4
   go_wp2_with(go_at_call 10;refine(built_any _).mono ?_;rintro e w2 ⟨rfl,_⟩)
   go_ret
   rfl
  ·have HM:Hid (b.parts.length≤4):=(by omega:b.parts.length≤4)
   have h0M:1≤b.parts.length∧b.parts.length≤4:=⟨hpm.1,HM.out⟩
   have HKb:Hid (∀X,Below A1.heap.size A1 X→BookAt X (.agg #[.int .i64 b.beat,.int .i64 b.places,.slice a2 b.parts.length c2,.slice a3 b.apart.length c3,.slice a4 b.trials.length c4]) b):=fun X hX=>HB.out.later (Kp.of (HWA.out.trans (hX.mono HWA.out.size)))
   have hF:=free_any w1 _ (.slice none 0 0) b [] (HKb.out w1 HB1.out) h0M hpl ⟨none,0,⟨rfl,Nat.le_refl _,by unfold maxLen;omega,fun _=>rfl,(fun b hb=>by cases hb)⟩,fun b hb=>by cases hb⟩
   clear h0M
   go_wp2_with fail
   refine hF.mono ?_
   rintro e w2 ⟨⟨vx,rfl,hvx⟩,hb2⟩
   have HB2:Hid (Below A1.heap.size A1 w2):=HB1.out.trans (hb2.mono HB1.out.size)
   have hlenx:(freeOf b []).parts.length=b.parts.length+1:=by simp[freeOf]
   obtain⟨x2,d2,x3,d3,x4,d4,rfl⟩:=hvx.parts'
   rw[hlenx]at hvx⊢
   have HVX:Hid (BookAt w2 (.agg #[.int .i64 (freeOf b []).beat,.int .i64 (freeOf b []).places,.slice x2 (b.parts.length+1) d2,.slice x3 (freeOf b []).apart.length d3,.slice x4 (freeOf b []).trials.length d4]) (freeOf b [])):=hvx
   clear hF hb2 hvx s0 s1 s2 s3 s4
   obtain⟨W2,hW2⟩:∃W,w2.alloc (.cells #[.int .i64 (freeOf b []).beat,.int .i64 (freeOf b []).places,.slice x2 (b.parts.length+1) d2,.slice x3 (freeOf b []).apart.length d3,.slice x4 (freeOf b []).trials.length d4] 26)=W:=⟨_,rfl⟩
   have HX2:Hid (Box W2 w2.heap.size 26 #[.int .i64 (freeOf b []).beat,.int .i64 (freeOf b []).places,.slice x2 (b.parts.length+1) d2,.slice x3 (freeOf b []).apart.length d3,.slice x4 (freeOf b []).trials.length d4]):=by rw[←hW2];exact Box.new _ _ _
   have HK2:Hid (Below w2.heap.size w2 W2):=by rw[←hW2];exact(Keep.alloc [] _ _).below (by simp) (Nat.le_refl _)
   have HBX:Hid (Below A1.heap.size A1 W2):=HB2.out.trans (HK2.out.mono HB2.out.size)
   go_wp2_with fail
   have HPA:Hid (PartsAt w (.slice a2 b.parts.length c2) b.parts):=HB.out.partsAt
   obtain⟨a2',c2',hsp,hep⟩:=HPA.out
   have e:=hsp.eq
   simp only[Value.slice.injEq,true_and]at e
   obtain⟨rfl,rfl⟩:=e
   have HS2:Hid (SlAt w (.slice a2 b.parts.length c2) b.parts.length a2 c2∧_):=⟨hsp,hep⟩
   obtain⟨nm,hnm⟩:∃nm,nameTo b.parts b.parts.length=nm:=⟨_,rfl⟩
   have HNM:Hid (nameTo b.parts b.parts.length=nm):=hnm
   have hpx:PartsAt w2 (.slice x2 (b.parts.length+1) d2) (b.parts++[freePart b []]):=HVX.out.partsAt
   obtain⟨x2',d2',hsx,hex⟩:=hpx
   have e:=hsx.eq
   simp only[Value.slice.injEq]at e
   obtain⟨rfl,hlx,rfl⟩:=e
   clear hlx hlenx
   obtain⟨⟨blkx,offx,spx⟩,y,rfl,hy,y0,_⟩:=hsx.elem hex (k:=b.parts.length) (by simp)
   obtain rfl:spx=none:=y0.1
   rw[List.getElem?_append_right (Nat.le_refl _),Nat.sub_self]at hy
   have hyn:y.name=nm:=by
    cases hy
    exact hnm
   have y0':=(y0.later (Kp.of HK2.out))
   rw[hyn]at y0'
   have HY:Hid (blkx<W2.heap.size∧W2.cell? ⟨blkx,offx+b.parts.length*6,none⟩=some (.string nm)):=⟨y0'.lt,y0'.2⟩
   clear hsp hep hsx hex y0 y0' hyn hy hW2 hnm
   go_loopw [6] (fun i wr=>∃k:Nat,k≤b.parts.length∧i=.int .i64 k∧Hid (NoName b.parts nm k)∧Hid (Below W2.heap.size W2 wr)) (fun i _=>b.parts.length-(intOf i).toNat)
   case atStart=>exact⟨0,Nat.zero_le _,rfl,NoName.zero _ _,Below.refl _ _⟩
   case round=>
    obtain⟨k,hk,rfl,hN,hB⟩:=hrel
    have HBr:Hid (Below A1.heap.size A1 wr):=HBX.out.trans (hB.out.mono HBX.out.size)
    have s0:wr.cell? ⟨w.heap.size,0,none⟩=some (.int .i64 b.beat):=(HX0.out.below HBr.out HX0.out.lt).cell 0 rfl
    have s1:wr.cell? ⟨w.heap.size,1,none⟩=some (.int .i64 b.places):=(HX0.out.below HBr.out HX0.out.lt).cell 1 rfl
    have s2:wr.cell? ⟨w.heap.size,2,none⟩=some (.slice a2 b.parts.length c2):=(HX0.out.below HBr.out HX0.out.lt).cell 2 rfl
    have s3:wr.cell? ⟨w.heap.size,3,none⟩=some (.slice a3 b.apart.length c3):=(HX0.out.below HBr.out HX0.out.lt).cell 3 rfl
    have s4:wr.cell? ⟨w.heap.size,4,none⟩=some (.slice a4 b.trials.length c4):=(HX0.out.below HBr.out HX0.out.lt).cell 4 rfl
    by_cases hlt:k<b.parts.length
    ·obtain⟨⟨blk,off,sp⟩,x,rfl,hx,x0,_⟩:=HS2.out.1.elem HS2.out.2 hlt
     obtain rfl:sp=none:=x0.1
     have t0:=(x0.later (Kp.of (HWA.out.trans (HBr.out.mono HWA.out.size)))).2
     have t1:wr.cell? ⟨blkx,offx+b.parts.length*6,none⟩=some (.string nm):=(hB.out.cell (p:=⟨blkx,offx+b.parts.length*6,none⟩) HY.out.1).trans HY.out.2
     have t2:=(HX2.out.below hB.out HX2.out.lt).cell 2 rfl
     have HX:Hid (b.parts[k]?=some x):=hx
     have hk2:(k:Int)<(b.parts.length:Int):=by omega
     have hk3:(b.parts.length:Int)<((b.parts.length+1:Nat):Int):=by omega
     clear x0 hx
     go_wp2
     go_quiet (fail)
     have HBq:Hid (Below W2.heap.size W2 (wr.drewN nq)):=hB.out.trans ((Below.drewN (Below.refl _ wr) nq).mono hB.out.size)
     clear t0 t1 t2 s0 s1 s2 s3 s4
     go_wp2_with(go_at_call 10;refine(built_any _).mono ?_;rintro e w5 ⟨rfl,_⟩)
     ·go_ret
      rfl
     ·rename_i hnq
      have HN1:Hid (NoName b.parts nm (k+1)):=hN.out.succ HX.out (name_ne hnq)
      clear hnq
      exact⟨⟨k+1,by omega,by go_num,HN1,HBq⟩,by simp[intOf];omega⟩
    ·have e:b.parts.length=k:=by omega
     have HAP:Hid (Apart0 b):=fun i x hx=>by
      rw[HNM.out]
      exact hN.out i x (by have:=(List.getElem?_eq_some_iff.1 hx).1;omega) hx
     subst e
     have hWhy:=whyX_any wr _ b (HKb.out wr HBr.out) HV.out (HC.out.later (HWA.out.trans (HBr.out.mono HWA.out.size)))
     clear hN hlt hk HX2 HY
     go_wp2_with fail
     refine hWhy.mono ?_
     rintro e w3 ⟨hre,hb3⟩
     have HB3:Hid (Below A1.heap.size A1 w3):=HBr.out.trans (hb3.mono HBr.out.size)
     clear hWhy hb3 s0 s1 s2 s3 s4
     have s0:w3.cell? ⟨w.heap.size,0,none⟩=some (.int .i64 b.beat):=(HX0.out.below HB3.out HX0.out.lt).cell 0 rfl
     have s1:w3.cell? ⟨w.heap.size,1,none⟩=some (.int .i64 b.places):=(HX0.out.below HB3.out HX0.out.lt).cell 1 rfl
     have s2:w3.cell? ⟨w.heap.size,2,none⟩=some (.slice a2 b.parts.length c2):=(HX0.out.below HB3.out HX0.out.lt).cell 2 rfl
     have s3:w3.cell? ⟨w.heap.size,3,none⟩=some (.slice a3 b.apart.length c3):=(HX0.out.below HB3.out HX0.out.lt).cell 3 rfl
     have s4:w3.cell? ⟨w.heap.size,4,none⟩=some (.slice a4 b.trials.length c4):=(HX0.out.below HB3.out HX0.out.lt).cell 4 rfl
     rcases hre with⟨_,rfl⟩|⟨hM0,vl,m,rfl,hvl,hwm⟩
     ·have hR:=rising_any w3 (.slice none 0 0) [] b.places (by omega) ⟨none,0,⟨rfl,Nat.le_refl _,by unfold maxLen;omega,fun _=>rfl,(fun b hb=>by cases hb)⟩,fun b hb=>by cases hb⟩
      go_wp2_with fail
      refine hR.mono ?_
      rintro e w4 ⟨r,n4,rfl,hr4,rfl⟩
      obtain rfl:r=0:=hr4.2 (rising_nil _)
      clear hR hr4 s0 s1 s2 s3 s4
      go_wp2_with(go_at_call 10;refine(built_any _).mono ?_;rintro e w5 ⟨rfl,_⟩)
      go_ret
      rfl
     ·have HWM:Hid (WhyM b m):=hwm
      have HVL:Hid (IntsAt w3 vl (bitsTo m 4)):=hvl
      obtain⟨N,hN⟩:∃N:Nat,b.places=(N:Int):=⟨b.places.toNat,by omega⟩
      have HN:Hid (b.places=(N:Int)):=hN
      have hm16:m<2^N:=by have:=hwm.lt;rw[hN]at this;simpa using this
      have h2N:2^N≤16:=by
       have:N=1∨N=2∨N=3∨N=4:=by omega
       rcases this with rfl|rfl|rfl|rfl<;>decide
      have hm:m<16:=by omega
      have HM16:Hid (m<2^N∧m<16∧N≤4∧1≤N):=⟨hm16,hm,by omega,by omega⟩
      have hris:Rising (bitsTo m 4) b.places:=by
       rw[hN]
       exact rising_iff.2 (bits_rising ⟨m,hm⟩ ⟨N,by omega⟩ hm16)
      have hR:=rising_any w3 vl (bitsTo m 4) b.places (by omega) hvl
      have HMF:Hid (∀o,machinesOf (freeOf b (bitsTo o 4))=[]↔emptyOf b o=true):=fun o=>free_machines HV.out.pairs (by omega) o
      obtain⟨la,lc,hls,hle⟩:=hvl
      have HLS:Hid (SlAt w3 vl (bitsTo m 4).length la lc∧_):=⟨hls,hle⟩
      have hbl:=bitsTo_len m 4
      obtain⟨rfl,l1,m1,_,_⟩:=hls
      unfold maxLen at m1
      clear hwm hM0 hm16 h2N hm hle hN
      go_wp2_with fail
      refine hR.mono ?_
      rintro e w4 ⟨r,n4,rfl,hr4,rfl⟩
      obtain rfl:r=0:=hr4.2 hris
      clear hR hr4 s0 s1 s2 s3 s4 hris
      obtain⟨w4,hw4⟩:∃x,w3.drewN n4=x:=⟨_,rfl⟩
      have HB34:Hid (Below w3.heap.size w3 w4):=by rw[←hw4];exact Below.drewN (Below.refl _ _) n4
      have HB4:Hid (Below A1.heap.size A1 w4):=HB3.out.trans (HB34.out.mono HB3.out.size)
      rw[hw4]
      clear hw4
      have s0:w4.cell? ⟨w.heap.size,0,none⟩=some (.int .i64 b.beat):=(HX0.out.below HB4.out HX0.out.lt).cell 0 rfl
      have s1:w4.cell? ⟨w.heap.size,1,none⟩=some (.int .i64 b.places):=(HX0.out.below HB4.out HX0.out.lt).cell 1 rfl
      have s2:w4.cell? ⟨w.heap.size,2,none⟩=some (.slice a2 b.parts.length c2):=(HX0.out.below HB4.out HX0.out.lt).cell 2 rfl
      have s3:w4.cell? ⟨w.heap.size,3,none⟩=some (.slice a3 b.apart.length c3):=(HX0.out.below HB4.out HX0.out.lt).cell 3 rfl
      have s4:w4.cell? ⟨w.heap.size,4,none⟩=some (.slice a4 b.trials.length c4):=(HX0.out.below HB4.out HX0.out.lt).cell 4 rfl
      by_cases h0:(bitsTo m 4).length=0
      ·have h0i:((bitsTo m 4).length:Int)=0:=by omega
       clear hbl l1
       go_wp2_with(go_at_call 10;refine(built_any _).mono ?_;rintro e w5 ⟨rfl,_⟩)
       go_ret
       rfl
      ·have h0i:¬((bitsTo m 4).length:Int)=0:=by omega
       have HPM:Hid ((1≤b.parts.length∧b.parts.length≤4)∧(1≤b.places∧b.places≤4)):=⟨⟨hpm.1,HM.out⟩,hpl⟩
       have HVD:Hid (∀l,Valid (freeOf b l)):=fun l=>free_valid HV.out HM.out HAP.out l
       have HFR:Hid (∀X vl l,Below A1.heap.size A1 X→IntsAt X vl l→Calls Tz.prog 11 #[.agg #[.int .i64 b.beat,.int .i64 b.places,.slice a2 b.parts.length c2,.slice a3 b.apart.length c3,.slice a4 b.trials.length c4],vl] X (RetBk X (freeOf b l))):=fun X vl l hX hl=>free_any X _ vl b l (HKb.out X hX) HPM.out.1 HPM.out.2 hl
       have HMC:Hid (∀X v l,Below A1.heap.size A1 X→BookAt X v (freeOf b l)→Calls Tz.prog 14 #[v] X (RetV X (.tuple #[.int .i64 (machinesOf (freeOf b l)).length,.int .i64 0]))):=fun X v l hX hv=>bMachines_any X v _ hv (HVD.out l) (HC.out.later (HWA.out.trans (hX.mono HWA.out.size)))
       have HVL4:Hid (IntsAt w4 (.slice la (bitsTo m 4).length lc) (bitsTo m 4)):=HVL.out.later (Kp.of HB34.out)
       have hF:=HFR.out w4 _ _ HB4.out HVL4.out
       go_wp2_with fail
       refine hF.mono ?_
       rintro e w5 ⟨⟨v5,rfl,hv5⟩,hb5⟩
       have HB45:Hid (Below w4.heap.size w4 w5):=hb5
       have HB5:Hid (Below A1.heap.size A1 w5):=HB4.out.trans (hb5.mono HB4.out.size)
       have hF:=HMC.out w5 v5 _ HB5.out hv5
       rw[show(machinesOf (freeOf b (bitsTo m 4))).length=0 from List.length_eq_zero_iff.2 ((HMF.out m).2 HWM.out.none)]at hF
       clear hb5 hv5 s0 s1 s2 s3 s4
       go_wp2_with fail
       refine hF.mono ?_
       rintro e w6 ⟨rfl,hb6⟩
       have HB46:Hid (Below w4.heap.size w4 w6):=HB45.out.trans (hb6.mono HB45.out.size)
       have HB6:Hid (Below A1.heap.size A1 w6):=HB5.out.trans (hb6.mono HB5.out.size)
       clear hF hb6 h0 h0i
       go_wp2_with fail
       go_loopw [11,12,13] (fun i _ _ wr=>∃n:Nat,n≤(bitsTo m 4).length∧i=.int .i64 n∧Hid (Below w6.heap.size w6 wr)) (fun i _ _ _=>(bitsTo m 4).length-(intOf i).toNat)
       case atStart=>exact⟨0,Nat.zero_le _,rfl,Below.refl _ _⟩
       case round=>
        obtain⟨n,hn,rfl,hB⟩:=hrel
        have HBr:Hid (Below A1.heap.size A1 wr):=HB6.out.trans (hB.out.mono HB6.out.size)
        have HB4r:Hid (Below w4.heap.size w4 wr):=HB46.out.trans (hB.out.mono HB46.out.size)
        have s0:wr.cell? ⟨w.heap.size,0,none⟩=some (.int .i64 b.beat):=(HX0.out.below HBr.out HX0.out.lt).cell 0 rfl
        have s1:wr.cell? ⟨w.heap.size,1,none⟩=some (.int .i64 b.places):=(HX0.out.below HBr.out HX0.out.lt).cell 1 rfl
        have s2:wr.cell? ⟨w.heap.size,2,none⟩=some (.slice a2 b.parts.length c2):=(HX0.out.below HBr.out HX0.out.lt).cell 2 rfl
        have s3:wr.cell? ⟨w.heap.size,3,none⟩=some (.slice a3 b.apart.length c3):=(HX0.out.below HBr.out HX0.out.lt).cell 3 rfl
        have s4:wr.cell? ⟨w.heap.size,4,none⟩=some (.slice a4 b.trials.length c4):=(HX0.out.below HBr.out HX0.out.lt).cell 4 rfl
        by_cases hlt:n<(bitsTo m 4).length
        ·obtain⟨m',he,hm1,hm2⟩:=drop_bits ⟨m,HM16.out.2.1⟩ ⟨n,by omega⟩ hlt
         simp only at he hm1 hm2
         have hne:machinesOf (freeOf b (bitsTo m'.1 4))≠ []:=fun h=>by
          have h1:=HWM.out.least m'.1 (Nat.lt_trans hm1 HWM.out.lt) ((HMF.out m'.1).1 h)
          rw[hm2]at h1
          cases h1
         have hml:=machines_len (HVD.out (bitsTo m'.1 4))
         have hmp:=List.length_pos_iff.2 hne
         obtain⟨mm,hmm⟩:∃mm,(machinesOf (freeOf b (bitsTo m'.1 4))).length=mm:=⟨_,rfl⟩
         have HMM:Hid ((machinesOf (freeOf b (bitsTo m'.1 4))).length=mm):=hmm
         rw[hmm]at hml hmp
         have hC15:Calls Tz.prog 15 #[.slice la (bitsTo m 4).length lc,.int .i64 n] (wr.drewN 1) (RetL wr (bitsTo m'.1 4)):=by
          have h1:=drop_any (wr.drewN 1) _ (bitsTo m 4) n hlt (by omega) ((HVL4.out.later (Kp.of HB4r.out)).later (w:=wr) (w':=wr.drewN 1) (fun _ _=>rfl))
          rw[he]at h1
          exact h1.mono fun e w' h=>⟨h.1,(Below.drewN (Below.refl wr.heap.size wr) 1).trans h.2⟩
         have HS0:Hid (∀w':World,Below wr.heap.size wr w'→w'.cell? ⟨w.heap.size,0,none⟩=some (.int .i64 b.beat)∧w'.cell? ⟨w.heap.size,1,none⟩=some (.int .i64 b.places)∧w'.cell? ⟨w.heap.size,2,none⟩=some (.slice a2 b.parts.length c2)∧
          w'.cell? ⟨w.heap.size,3,none⟩=some (.slice a3 b.apart.length c3)∧w'.cell? ⟨w.heap.size,4,none⟩=some (.slice a4 b.trials.length c4)):=fun w' h=>by
          have HX:=(HX0.out.below HBr.out HX0.out.lt).below h (HX0.out.below HBr.out HX0.out.lt).lt
          exact⟨HX.cell 0 rfl,HX.cell 1 rfl,HX.cell 2 rfl,HX.cell 3 rfl,HX.cell 4 rfl⟩
         have hni:(n:Int)<((bitsTo m 4).length:Int):=by omega
         have hmpi:¬(mm:Int)=0:=by omega
         clear he hm1 hm2 hne hmm hmp
         go_wp2_with fail
         go_region_held3 (fun w'=>w'.cell? ⟨w.heap.size,0,none⟩=some (.int .i64 b.beat)∧w'.cell? ⟨w.heap.size,1,none⟩=some (.int .i64 b.places)∧w'.cell? ⟨w.heap.size,2,none⟩=some (.slice a2 b.parts.length c2)∧
          w'.cell? ⟨w.heap.size,3,none⟩=some (.slice a3 b.apart.length c3)∧w'.cell? ⟨w.heap.size,4,none⟩=some (.slice a4 b.trials.length c4))
          (first|exact HS0.out _ HB9.out|exact HS0.out _ HB8.out|exact HS0.out _ HB7.out|exact HS0.out _ (Below.drewN (Below.refl wr.heap.size wr) 1))
          (first
            |(go_at_call 15
              refine hC15.mono ?_
              rintro e w7 ⟨⟨v7,rfl,hbk⟩,hb7⟩
              have HB7:Hid (Below wr.heap.size wr w7):=hb7
              have HK7:Hid (IntsAt w7 v7 (bitsTo m'.1 4)):=hbk
              clear hb7 hbk hC15)
            |(go_at_call 11
              refine(HFR.out w7 v7 _ (HBr.out.trans (HB7.out.mono HBr.out.size)) HK7.out).mono ?_
              rintro e w8 ⟨⟨v8,rfl,hbk⟩,hb8⟩
              have HB8:Hid (Below wr.heap.size wr w8):=HB7.out.trans (hb8.mono HB7.out.size)
              have HK8:Hid (BookAt w8 v8 (freeOf b (bitsTo m'.1 4))):=hbk
              clear hb8 hbk)
            |(go_at_call 14
              refine(HMC.out w8 v8 _ (HBr.out.trans (HB8.out.mono HBr.out.size)) HK8.out).mono ?_
              rintro e w9 ⟨rfl,hb9⟩
              have HB9:Hid (Below wr.heap.size wr w9):=HB8.out.trans (hb9.mono HB8.out.size)
              rw[HMM.out]
              clear hb9))
         have HBn:Hid (Below w6.heap.size w6 w9):=hB.out.trans (HB9.out.mono hB.out.size)
         clear HB7 HB8 HB9 HK7 HK8 s0 s1 s2 s3 s4
         go_wp2
         go_round
         case rel=>exact⟨n+1,by omega,by go_num,HBn⟩
         case measure=>simp[intOf];omega
        ·have e:n=(bitsTo m 4).length:=by omega
         clear hlt hn
         subst e
         obtain⟨P,hP⟩:∃P:Nat,p=(P:Int):=⟨p.toNat,by omega⟩
         subst hP
         have hP:P<256:=by omega
         clear hp0 hp1
         obtain⟨i0,hi,hz0,hz1,hz2⟩:=info_parts info3
         go_wp2_with fail
         have HN4:Hid (N≤4∧1≤N):=HM16.out.2.2
         obtain⟨wo,hwo⟩:∃wo,wo=wr:=⟨wr,rfl⟩
         rw[←hwo]at hB HBr HB4r s0 s1 s2 s3 s4⊢
         clear hwo
         go_loopw [14,15] (fun v i wr=>∃k:Nat,k≤N∧i=.int .i64 k∧Hid (wr.ownsRow wo.heap.size 3 1 v (bitsTo P k).length ((bitsTo P k).map (Value.int .i64)))∧Hid (Below wo.heap.size wo wr)) (fun _ i _=>N-(intOf i).toNat)
         case atStart=>exact⟨0,Nat.zero_le _,rfl,World.ownsRow_nil _ _ _ _,Below.refl _ _⟩
         case round=>
          obtain⟨k,hk,rfl,hO,hBq⟩:=hrel
          have HBQ:Hid (Below A1.heap.size A1 wr):=HBr.out.trans (hBq.out.mono HBr.out.size)
          have hNN:=HN.out
          have s1:wr.cell? ⟨w.heap.size,1,none⟩=some (.int .i64 (N:Int)):=by rw[←hNN];exact(HX0.out.below HBQ.out HX0.out.lt).cell 1 rfl
          have hsz:=hBq.out.size
          have hlen:=bitsTo_len P k
          have hN4:=HN4.out
          clear hNN
          by_cases hlt:k<N
          ·have hki:(k:Int)<(N:Int):=by omega
           by_cases hbt:P.testBit k=true
           ·have hb2:=bits8_yes hP (by omega:k<4) hbt
            have HT:Hid (P.testBit k=true):=hbt
            clear hbt
            go_wp2_with(at_builtin
                        refine wpList_append_own _ rfl (.tmp 115) (.tmp 117) 32 rfl wo.heap.size 3 i0 (.int .i64 0) 1 8 under32 hi hz0 hz1 hz2 rfl (by decide) _ _ _ rfl (hO.out.alloc _) ⟨_,0,none⟩ 1 1 [.int .i64 k] rfl rfl (one_new _ _ _) (one_int _) (by unfold maxLen;omega) (by omega) (by simp;omega) ?_
                        intro v' w1 hown' hgrow _)
            have HO2:Hid (w1.ownsRow wo.heap.size 3 1 v' (bitsTo P (k+1)).length ((bitsTo P (k+1)).map (Value.int .i64))):=by
             rw[bitsTo_yes HT.out,List.length_append,List.map_append];exact hown'
            have HBB:Hid (Below wo.heap.size wo w1):=Below.grown (Below.alloc hBq.out hsz _) hgrow (by simp;omega) (owns_ge hO.out)
            clear hown' hgrow
            go_round
            case rel=>exact⟨k+1,by omega,by go_num,HO2,HBB⟩
            case measure=>simp[intOf];omega
           ·have hb2:=bits8_no hP (by omega:k<4) hbt
            have HOn:=hO
            rw[←bitsTo_no hbt]at HOn
            clear hbt
            go_wp2
            go_round
            case rel=>exact⟨k+1,by omega,by go_num,HOn,hBq⟩
            case measure=>simp[intOf];omega
          ·have e:N=k:=by omega
           subst e
           obtain⟨oa,oc,rfl⟩:=ownsRow_slice hO
           obtain⟨o,ho⟩:∃o,P%2^N=o:=⟨_,rfl⟩
           have hE:bitsTo P N=bitsTo o 4:=by rw[←ho];exact bits_places ⟨P,hP⟩ ⟨N,by omega⟩
           have holt:o<2^b.places.toNat:=by
            rw[HN.out,←ho]
            exact Nat.mod_lt _ (Nat.two_pow_pos _)
           have hOI:IntsAt wr (.slice oa (bitsTo P N).length oc) (bitsTo o 4):=by rw[←hE];exact IntsAt.of_owns hO
           have HOI:Hid (IntsAt wr (.slice oa (bitsTo P N).length oc) (bitsTo o 4)):=hOI
           have hF:=HFR.out wr _ _ HBQ.out hOI
           rw[HN.out]at hF
           have HOL:Hid (o<2^b.places.toNat):=holt
           have hX:=HX0.out.below HBQ.out HX0.out.lt
           have s0:wr.cell? ⟨w.heap.size,0,none⟩=some (.int .i64 b.beat):=hX.cell 0 rfl
           have s2:wr.cell? ⟨w.heap.size,2,none⟩=some (.slice a2 b.parts.length c2):=hX.cell 2 rfl
           have s3:wr.cell? ⟨w.heap.size,3,none⟩=some (.slice a3 b.apart.length c3):=hX.cell 3 rfl
           have s4:wr.cell? ⟨w.heap.size,4,none⟩=some (.slice a4 b.trials.length c4):=hX.cell 4 rfl
           have HBQ0:Hid (Below wo.heap.size wo wr):=hBq
           clear hX hOI holt hE ho hO hlt hk hBq hlen
           go_wp2_with fail
           refine hF.mono ?_
           rintro e w8 ⟨⟨v8,rfl,hv8⟩,hb8⟩
           have HB8:Hid (Below wr.heap.size wr w8):=hb8
           have hF:=HMC.out w8 v8 _ (HBQ.out.trans (hb8.mono HBQ.out.size)) hv8
           have hml:=machines_len (HVD.out (bitsTo o 4))
           obtain⟨mm,hmm⟩:∃mm,(machinesOf (freeOf b (bitsTo o 4))).length=mm:=⟨_,rfl⟩
           have HMM:Hid ((machinesOf (freeOf b (bitsTo o 4))).length=mm):=hmm
           rw[hmm]at hF hml
           clear hb8 hv8 hmm s0 s1 s2 s3 s4
           go_wp2_with fail
           refine hF.mono ?_
           rintro e w9 ⟨rfl,hb9⟩
           have HB9:Hid (Below wr.heap.size wr w9):=HB8.out.trans (hb9.mono HB8.out.size)
           clear hF hb9
           by_cases hmp:0<mm
           ·have hmi:(0:Int)<(mm:Int):=by omega
            clear hmp
            go_wp2_with(go_at_call 10;refine(built_any _).mono ?_;rintro e w10 ⟨rfl,_⟩)
            go_ret
            rfl
           ·have hmi:(mm:Int)=0:=by omega
            have hM0:machinesOf (freeOf b (bitsTo o 4))=[]:=List.length_eq_zero_iff.1 (by rw[HMM.out];omega)
            have hsm:=HWM.out.least o HOL.out ((HMF.out o).1 hM0)
            have hSm:=smaller_any w9 _ _ (bitsTo o 4) (bitsTo m 4) (HOI.out.later (Kp.of HB9.out)) (HVL4.out.later (Kp.of (HB4r.out.trans ((HBQ0.out.trans (HB9.out.mono HBQ0.out.size)).mono HB4r.out.size))))
            rw[show smallerL (bitsTo o 4) (bitsTo m 4)=false from hsm]at hSm
            clear hmp hM0 hsm
            go_wp2_with(first
             |(go_at_call 16;refine hSm.mono ?_;rintro e w10 ⟨rfl,n10,rfl⟩;clear hSm)
             |(go_at_call 10;refine(built_any _).mono ?_;rintro e w11 ⟨rfl,_⟩))
            go_ret
            rfl
end Go.Proofs.Cz
end
