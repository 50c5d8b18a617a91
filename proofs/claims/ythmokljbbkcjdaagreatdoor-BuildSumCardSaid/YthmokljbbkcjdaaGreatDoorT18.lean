/- A part of the proof that BuildSum returns true. Conditions: none. -/
import Derived.Test.YthmokljbbkcjdaaGreatDoorT17
import Derived.Deep.RegionHeld3
set_option linter.unusedVariables false
set_option linter.unusedSimpArgs false
section
namespace Go.Proofs.Cz
open Go.RowKit
set_option maxRecDepth 100000 in
theorem built_any (w:World):Calls Tz.prog 10 #[] w (RetV w (.bool true)):=by
  go_enter Tz.func10,Tz.ntmps10
  unfold Tz.stub
  go_wp2
  go_ret
  exact ⟨rfl,Below.refl _ _⟩
def sumTo (f:Int→Nat) (l:List Int) (n:Nat):Nat:=((l.take n).map f).sum
theorem sumTo_succ {f:Int→Nat} {l:List Int} {n:Nat} {x:Int} (hx:l[n]?=some x):sumTo f l (n + 1)=sumTo f l n + f x:=by
  simp [sumTo,List.take_add_one,hx]
theorem sumTo_le (f:Int→Nat) (l:List Int) (n:Nat):sumTo f l n ≤ (l.map f).sum:=by
  have h:l.map f=(l.take n).map f ++ (l.drop n).map f:=by rw [← List.map_append,List.take_append_drop]
  rw [h,List.sum_append]
  exact Nat.le_add_right _ _
set_option maxHeartbeats 1000000 in
set_option maxRecDepth 20000 in
theorem law7 (w:World) (v:Value) (b:Book) (p:Int) (hp0:0 ≤ p) (hp1:p < 256) (hb:BookAt w v b) (hc:Chk w):Calls Tz.prog 7 #[v,.int .u8 p] w fun e _=>e=.returned (.bool true):=by
  have HB:Hid (BookAt w v b):=hb
  have HC:Hid (Chk w):=hc
  obtain ⟨v2,v3,v4,rfl,⟨a2,c2,⟨rfl,_,_,_,_⟩,_⟩,⟨a3,c3,⟨rfl,_,_,_,_⟩,_⟩,⟨a4,c4,⟨rfl,_,_,_,_⟩,_⟩⟩:=hb
  have hF:=fit_any (w.alloc (.cells #[.int .i64 b.beat,.int .i64 b.places,.slice a2 b.parts.length c2,.slice a3 b.apart.length c3,.slice a4 b.trials.length c4] 26)) _ b (HB.out.later (Kp.alloc w _))
  clear hc
  go_enter Tz.func7,Tz.ntmps7
  go_wp2_with fail
  refine hF.mono ?_
  rintro e w1 ⟨⟨r,rfl,hr⟩,hb1⟩
  have HB1:Hid (Below (w.heap.size + 1) _ w1):=hb1.ofAlloc
  obtain ⟨s0,s1,s2,s3,s4⟩:=Box5.of79 HB1.out
  clear hF hb1
  cases r with
  | false =>
    clear hr s0 s1 s2 s3 s4
    go_wp2_with (go_at_call 10;refine (built_any _).mono ?_;rintro e w2 ⟨rfl,_⟩)
    go_ret
    rfl
  | true =>
    obtain ⟨_,hv⟩:=hr rfl
    have HV:Hid (Valid b):=hv
    have hpl:=hv.places
    have HX1:Hid (Box w1 w.heap.size 26 #[.int .i64 b.beat,.int .i64 b.places,.slice a2 b.parts.length c2,.slice a3 b.apart.length c3,.slice a4 b.trials.length c4]):=(HB1.out.block _ (by omega)).trans (Box.new w 26 _)
    have HBM:Hid (BookAt w1 (.agg #[.int .i64 b.beat,.int .i64 b.places,.slice a2 b.parts.length c2,.slice a3 b.apart.length c3,.slice a4 b.trials.length c4]) b):=HB.out.later (Kp.boxed HB1.out)
    have HCM:Hid (Chk w1):=HC.out.later (Below.boxed HB1.out)
    obtain ⟨q,hq⟩:∃ q:Nat,p % b.places=(q:Int):=⟨(p % b.places).toNat,by have:=Int.emod_nonneg p (show b.places ≠ 0 by omega);omega⟩
    have hqp:(q:Int) < b.places:=by rw [← hq];exact Int.emod_lt_of_pos p (by omega)
    have hml:=machines_len hv
    have hms:=machines_sum hqp
    obtain ⟨nn,hnn⟩:∃ nn,(machinesOf b).length=nn:=⟨_,rfl⟩
    rw [hnn] at hml hms
    have HS:Hid (nn=((canL b q).map fun k=>(machinesOf (onlyOf b q k)).length).sum):=hms
    have HN:Hid (machinesOf b=[] ↔ nn=0):=by rw [← hnn];exact List.length_eq_zero_iff.symm
    clear hms
    clear hr hv
    go_wp2_with fail
    refine (bMachines_any w1 _ b HBM.out HV.out HCM.out).mono ?_
    rintro e w2 ⟨rfl,hb2⟩
    have HB2:Hid (Below w1.heap.size w1 w2):=hb2
    clear s0 s1 s2 s3 s4 hb2
    have s0:w2.cell? ⟨w.heap.size,0,none⟩=some (.int .i64 b.beat):=(HX1.out.below HB2.out HX1.out.lt).cell 0 rfl
    have s1:w2.cell? ⟨w.heap.size,1,none⟩=some (.int .i64 b.places):=(HX1.out.below HB2.out HX1.out.lt).cell 1 rfl
    have s2:w2.cell? ⟨w.heap.size,2,none⟩=some (.slice a2 b.parts.length c2):=(HX1.out.below HB2.out HX1.out.lt).cell 2 rfl
    have s3:w2.cell? ⟨w.heap.size,3,none⟩=some (.slice a3 b.apart.length c3):=(HX1.out.below HB2.out HX1.out.lt).cell 3 rfl
    have s4:w2.cell? ⟨w.heap.size,4,none⟩=some (.slice a4 b.trials.length c4):=(HX1.out.below HB2.out HX1.out.lt).cell 4 rfl
    go_wp2_with fail
    refine (bCan_any w2 _ b q (HBM.out.later (Kp.of HB2.out)) HV.out (HCM.out.later HB2.out) (by omega)).mono ?_
    rintro e w3 ⟨⟨vc,rfl,hvc⟩,hb3⟩
    have HB3:Hid (Below w1.heap.size w1 w3):=HB2.out.trans (hb3.mono HB2.out.size)
    have HVC:Hid (IntsAt w3 vc (canL b q)):=hvc
    clear s0 s1 s2 s3 s4 hb3
    have s0:w3.cell? ⟨w.heap.size,0,none⟩=some (.int .i64 b.beat):=(HX1.out.below HB3.out HX1.out.lt).cell 0 rfl
    have s1:w3.cell? ⟨w.heap.size,1,none⟩=some (.int .i64 b.places):=(HX1.out.below HB3.out HX1.out.lt).cell 1 rfl
    have s2:w3.cell? ⟨w.heap.size,2,none⟩=some (.slice a2 b.parts.length c2):=(HX1.out.below HB3.out HX1.out.lt).cell 2 rfl
    have s3:w3.cell? ⟨w.heap.size,3,none⟩=some (.slice a3 b.apart.length c3):=(HX1.out.below HB3.out HX1.out.lt).cell 3 rfl
    have s4:w3.cell? ⟨w.heap.size,4,none⟩=some (.slice a4 b.trials.length c4):=(HX1.out.below HB3.out HX1.out.lt).cell 4 rfl
    obtain ⟨ca,cc,hcS,hcE⟩:=hvc
    have HCS:Hid (SlAt w3 vc (canL b q).length ca cc∧_):=⟨hcS,hcE⟩
    obtain ⟨rfl,lc,mc,_,_⟩:=hcS
    clear hcE
    go_wp2_with fail
    refine (why_any w3 _ b (HBM.out.later (Kp.of HB3.out)) HV.out (HCM.out.later HB3.out)).mono ?_
    rintro e w4 ⟨⟨wa,wn,wc,rfl,hwn⟩,hb4⟩
    have HB4:Hid (Below w1.heap.size w1 w4):=HB3.out.trans (hb4.mono HB3.out.size)
    have HB34:Hid (Below w3.heap.size w3 w4):=hb4
    have HWN:Hid (0 < wn ↔ nn=0):=hwn.trans HN.out
    clear s0 s1 s2 s3 s4 hb4 hwn
    have s2:w4.cell? ⟨w.heap.size,2,none⟩=some (.slice a2 b.parts.length c2):=(HX1.out.below HB4.out HX1.out.lt).cell 2 rfl
    have hR:=rising_any w4 _ (canL b q) b.parts.length (by have:=HV.out.parts.many;omega) (HVC.out.later (Kp.of HB34.out))
    go_wp2_with fail
    refine hR.mono ?_
    rintro e w5 ⟨r,n5,rfl,hr5,rfl⟩
    obtain rfl:r=0:=hr5.2 (can_rising b q)
    obtain ⟨wL,hwL⟩:∃ x,w4.drewN n5=x:=⟨_,rfl⟩
    have HBL:Hid (Below w1.heap.size w1 wL):=by rw [← hwL];exact Below.drewN HB4.out n5
    have HL3:Hid (Below w3.heap.size w3 wL):=by rw [← hwL];exact Below.drewN HB34.out n5
    rw [hwL]
    clear hR hr5 hwL s2 HB2 HB3 HB4 HB34
    by_cases h0:0 < wn
    · have h1:nn=0:=HWN.out.1 h0
      subst h1
      go_wp2_with fail
      clear h0
      have hcl:(canL b q).length ≤ 5:=Nat.le_trans (canTo_len _ _ _) HV.out.parts.many.2
      clear HN HWN
      go_loopw [12,13,14,15] (fun s i _ _ wr=>∃ n:Nat,n ≤ (canL b q).length∧i=.int .i64 n∧s=.int .i64 (sumTo (fun k=>(machinesOf (onlyOf b q k)).length) (canL b q) n:Nat)∧Hid (Below wL.heap.size wL wr)) (fun _ i _ _ _=>(canL b q).length - (intOf i).toNat)
      case atStart=>exact ⟨0,Nat.zero_le _,rfl,rfl,Below.refl _ _⟩
      case round =>
        obtain ⟨n,hn,rfl,rfl,hB⟩:=hrel
        have HBr:Hid (Below w1.heap.size w1 wr):=HBL.out.trans (hB.out.mono HBL.out.size)
        by_cases hlt:n < (canL b q).length
        · obtain ⟨⟨blk,off,sp⟩,y,rfl,hy,y0⟩:=HCS.out.1.elem HCS.out.2 hlt
          obtain rfl:sp=none:=y0.1
          have gy:=((y0.later (Kp.of HL3.out)).later (Kp.trans (Kp.of (Below.refl _ _)) (Kp.of hB.out) (Nat.le_refl _))).2
          simp only at gy
          have HG:Hid (blk < wL.heap.size∧wL.cell? ⟨blk,off + n,none⟩=some (.int .i64 y)):=⟨(y0.later (Kp.of HL3.out)).lt,(y0.later (Kp.of HL3.out)).2⟩
          have s0:wr.cell? ⟨w.heap.size,0,none⟩=some (.int .i64 b.beat):=(HX1.out.below HBr.out HX1.out.lt).cell 0 rfl
          have s1:wr.cell? ⟨w.heap.size,1,none⟩=some (.int .i64 b.places):=(HX1.out.below HBr.out HX1.out.lt).cell 1 rfl
          have s2:wr.cell? ⟨w.heap.size,2,none⟩=some (.slice a2 b.parts.length c2):=(HX1.out.below HBr.out HX1.out.lt).cell 2 rfl
          have s3:wr.cell? ⟨w.heap.size,3,none⟩=some (.slice a3 b.apart.length c3):=(HX1.out.below HBr.out HX1.out.lt).cell 3 rfl
          have s4:wr.cell? ⟨w.heap.size,4,none⟩=some (.slice a4 b.trials.length c4):=(HX1.out.below HBr.out HX1.out.lt).cell 4 rfl
          have hsu:=sumTo_succ (f:=fun k=>(machinesOf (onlyOf b q k)).length) hy
          have hsl:=sumTo_le (fun k=>(machinesOf (onlyOf b q k)).length) (canL b q) (n + 1)
          rw [← HS.out] at hsl
          obtain ⟨mm,hmm⟩:∃ mm,(machinesOf (onlyOf b q y)).length=mm:=⟨_,rfl⟩
          obtain ⟨sn,hsn⟩:∃ sn,sumTo (fun k=>(machinesOf (onlyOf b q k)).length) (canL b q) n=sn:=⟨_,rfl⟩
          have HSU:Hid (sumTo (fun k=>(machinesOf (onlyOf b q k)).length) (canL b q) (n + 1)=sn + mm):=by rw [hsu,hsn];show sn + _=_;rw [hmm]
          rw [HSU.out] at hsl
          rw [hsn]
          have HMM:Hid ((machinesOf (onlyOf b q y)).length=mm):=hmm
          have hC32:Calls Tz.prog 32 #[.agg #[.int .i64 b.beat,.int .i64 b.places,.slice a2 b.parts.length c2,.slice a3 b.apart.length c3,.slice a4 b.trials.length c4],.int .i64 q,.int .i64 y] (wr.drewN 1) (RetBk wr (onlyOf b q y)) :=
            (only_any (wr.drewN 1) _ b q y (BookAt.later (w:=wr) (w':=wr.drewN 1) (fun _ _=>rfl) (HBM.out.later HBr.out.block)) HV.out.parts.many.2 (fits_len HV.out)).mono fun e w' h=>⟨h.1,(Below.drewN (Below.refl wr.heap.size wr) 1).trans h.2⟩
          have hS0:∀ w':World,Below wr.heap.size wr w'→w'.cell? ⟨w.heap.size,0,none⟩=some (.int .i64 b.beat)∧w'.cell? ⟨w.heap.size,1,none⟩=some (.int .i64 b.places)∧w'.cell? ⟨w.heap.size,2,none⟩=some (.slice a2 b.parts.length c2) ∧
              w'.cell? ⟨w.heap.size,3,none⟩=some (.slice a3 b.apart.length c3)∧w'.cell? ⟨w.heap.size,4,none⟩=some (.slice a4 b.trials.length c4)∧w'.cell? ⟨blk,off + n,none⟩=some (.int .i64 y):=fun w' h=>by
            have HX:=(HX1.out.below HBr.out HX1.out.lt).below h (HX1.out.below HBr.out HX1.out.lt).lt
            refine ⟨HX.cell 0 rfl,HX.cell 1 rfl,HX.cell 2 rfl,HX.cell 3 rfl,HX.cell 4 rfl,(h.cell (p:=⟨blk,off + n,none⟩) ?_).trans gy⟩
            exact Nat.lt_of_lt_of_le HG.out.1 hB.out.size
          have HS0:Hid (∀ w':World,Below wr.heap.size wr w'→w'.cell? ⟨w.heap.size,0,none⟩=some (.int .i64 b.beat)∧w'.cell? ⟨w.heap.size,1,none⟩=some (.int .i64 b.places)∧w'.cell? ⟨w.heap.size,2,none⟩=some (.slice a2 b.parts.length c2) ∧
              w'.cell? ⟨w.heap.size,3,none⟩=some (.slice a3 b.apart.length c3)∧w'.cell? ⟨w.heap.size,4,none⟩=some (.slice a4 b.trials.length c4)∧w'.cell? ⟨blk,off + n,none⟩=some (.int .i64 y)):=hS0
          clear hS0 hsu hsn hmm hy y0
          go_wp2_with fail
          have HBw:Hid (Below wr.heap.size wr wr):=Below.refl _ _
          go_region_held3 (fun w'=>w'.cell? ⟨w.heap.size,0,none⟩=some (.int .i64 b.beat)∧w'.cell? ⟨w.heap.size,1,none⟩=some (.int .i64 b.places)∧w'.cell? ⟨w.heap.size,2,none⟩=some (.slice a2 b.parts.length c2) ∧
              w'.cell? ⟨w.heap.size,3,none⟩=some (.slice a3 b.apart.length c3)∧w'.cell? ⟨w.heap.size,4,none⟩=some (.slice a4 b.trials.length c4)∧w'.cell? ⟨blk,off + n,none⟩=some (.int .i64 y))
            (first | exact HS0.out _ HB7.out | exact HS0.out _ HB6.out | exact HS0.out _ (Below.drewN (Below.refl wr.heap.size wr) 1))
            (first
              | (go_at_call 32
                 refine hC32.mono ?_
                 rintro e w6 ⟨⟨v6,rfl,hbk⟩,hb6⟩
                 have HB6:Hid (Below wr.heap.size wr w6):=hb6
                 have HK6:Hid (BookAt w6 v6 (onlyOf b q y)):=hbk
                 clear hb6 hbk hC32)
              | (go_at_call 14
                 refine (bMachines_any w6 v6 (onlyOf b q y) HK6.out (only_valid HV.out q y) (HCM.out.later (HBr.out.trans (HB6.out.mono HBr.out.size)))).mono ?_
                 rintro e w7 ⟨rfl,hb7⟩
                 have HB7:Hid (Below wr.heap.size wr w7):=HB6.out.trans (hb7.mono HB6.out.size)
                 rw [HMM.out]
                 clear hb7))
          have HBn:Hid (Below wL.heap.size wL w7):=hB.out.trans (HB7.out.mono hB.out.size)
          clear HB6 HB7 HK6 HBw s0 s1 s2 s3 s4 gy
          have hm2:(mm:Int) ≤ (0:Int):=by omega
          go_wp2
          go_round
          case rel=>exact ⟨n + 1,by omega,by go_num,by rw [HSU.out];go_num,HBn⟩
          case measure=>simp [intOf];omega
        · have e:n=(canL b q).length:=by omega
          subst e
          have hss:sumTo (fun k=>(machinesOf (onlyOf b q k)).length) (canL b q) (canL b q).length=0:=by
            unfold sumTo
            rw [List.take_length]
            exact HS.out.symm
          go_wp2_with (go_at_call 10;refine (built_any _).mono ?_;rintro e w8 ⟨rfl,_⟩)
          go_ret
          rfl
    · have h1:¬ nn=0:=fun h=>h0 (HWN.out.2 h)
      have h2:¬ (nn:Int)=0:=by omega
      have h3:((nn:Int) == 0)=false:=by simp;omega
      go_wp2_with fail
      clear h0 h1 h2 h3
      have hcl:(canL b q).length ≤ 5:=Nat.le_trans (canTo_len _ _ _) HV.out.parts.many.2
      clear HN HWN
      go_loopw [12,13,14,15] (fun s i _ _ wr=>∃ n:Nat,n ≤ (canL b q).length∧i=.int .i64 n∧s=.int .i64 (sumTo (fun k=>(machinesOf (onlyOf b q k)).length) (canL b q) n:Nat)∧Hid (Below wL.heap.size wL wr)) (fun _ i _ _ _=>(canL b q).length - (intOf i).toNat)
      case atStart=>exact ⟨0,Nat.zero_le _,rfl,rfl,Below.refl _ _⟩
      case round =>
        obtain ⟨n,hn,rfl,rfl,hB⟩:=hrel
        have HBr:Hid (Below w1.heap.size w1 wr):=HBL.out.trans (hB.out.mono HBL.out.size)
        by_cases hlt:n < (canL b q).length
        · obtain ⟨⟨blk,off,sp⟩,y,rfl,hy,y0⟩:=HCS.out.1.elem HCS.out.2 hlt
          obtain rfl:sp=none:=y0.1
          have gy:=((y0.later (Kp.of HL3.out)).later (Kp.trans (Kp.of (Below.refl _ _)) (Kp.of hB.out) (Nat.le_refl _))).2
          simp only at gy
          have HG:Hid (blk < wL.heap.size∧wL.cell? ⟨blk,off + n,none⟩=some (.int .i64 y)):=⟨(y0.later (Kp.of HL3.out)).lt,(y0.later (Kp.of HL3.out)).2⟩
          have s0:wr.cell? ⟨w.heap.size,0,none⟩=some (.int .i64 b.beat):=(HX1.out.below HBr.out HX1.out.lt).cell 0 rfl
          have s1:wr.cell? ⟨w.heap.size,1,none⟩=some (.int .i64 b.places):=(HX1.out.below HBr.out HX1.out.lt).cell 1 rfl
          have s2:wr.cell? ⟨w.heap.size,2,none⟩=some (.slice a2 b.parts.length c2):=(HX1.out.below HBr.out HX1.out.lt).cell 2 rfl
          have s3:wr.cell? ⟨w.heap.size,3,none⟩=some (.slice a3 b.apart.length c3):=(HX1.out.below HBr.out HX1.out.lt).cell 3 rfl
          have s4:wr.cell? ⟨w.heap.size,4,none⟩=some (.slice a4 b.trials.length c4):=(HX1.out.below HBr.out HX1.out.lt).cell 4 rfl
          have hsu:=sumTo_succ (f:=fun k=>(machinesOf (onlyOf b q k)).length) hy
          have hsl:=sumTo_le (fun k=>(machinesOf (onlyOf b q k)).length) (canL b q) (n + 1)
          rw [← HS.out] at hsl
          obtain ⟨mm,hmm⟩:∃ mm,(machinesOf (onlyOf b q y)).length=mm:=⟨_,rfl⟩
          obtain ⟨sn,hsn⟩:∃ sn,sumTo (fun k=>(machinesOf (onlyOf b q k)).length) (canL b q) n=sn:=⟨_,rfl⟩
          have HSU:Hid (sumTo (fun k=>(machinesOf (onlyOf b q k)).length) (canL b q) (n + 1)=sn + mm):=by rw [hsu,hsn];show sn + _=_;rw [hmm]
          rw [HSU.out] at hsl
          rw [hsn]
          have HMM:Hid ((machinesOf (onlyOf b q y)).length=mm):=hmm
          have hC32:Calls Tz.prog 32 #[.agg #[.int .i64 b.beat,.int .i64 b.places,.slice a2 b.parts.length c2,.slice a3 b.apart.length c3,.slice a4 b.trials.length c4],.int .i64 q,.int .i64 y] (wr.drewN 1) (RetBk wr (onlyOf b q y)) :=
            (only_any (wr.drewN 1) _ b q y (BookAt.later (w:=wr) (w':=wr.drewN 1) (fun _ _=>rfl) (HBM.out.later HBr.out.block)) HV.out.parts.many.2 (fits_len HV.out)).mono fun e w' h=>⟨h.1,(Below.drewN (Below.refl wr.heap.size wr) 1).trans h.2⟩
          have hS0:∀ w':World,Below wr.heap.size wr w'→w'.cell? ⟨w.heap.size,0,none⟩=some (.int .i64 b.beat)∧w'.cell? ⟨w.heap.size,1,none⟩=some (.int .i64 b.places)∧w'.cell? ⟨w.heap.size,2,none⟩=some (.slice a2 b.parts.length c2) ∧
              w'.cell? ⟨w.heap.size,3,none⟩=some (.slice a3 b.apart.length c3)∧w'.cell? ⟨w.heap.size,4,none⟩=some (.slice a4 b.trials.length c4)∧w'.cell? ⟨blk,off + n,none⟩=some (.int .i64 y):=fun w' h=>by
            have HX:=(HX1.out.below HBr.out HX1.out.lt).below h (HX1.out.below HBr.out HX1.out.lt).lt
            refine ⟨HX.cell 0 rfl,HX.cell 1 rfl,HX.cell 2 rfl,HX.cell 3 rfl,HX.cell 4 rfl,(h.cell (p:=⟨blk,off + n,none⟩) ?_).trans gy⟩
            exact Nat.lt_of_lt_of_le HG.out.1 hB.out.size
          have HS0:Hid (∀ w':World,Below wr.heap.size wr w'→w'.cell? ⟨w.heap.size,0,none⟩=some (.int .i64 b.beat)∧w'.cell? ⟨w.heap.size,1,none⟩=some (.int .i64 b.places)∧w'.cell? ⟨w.heap.size,2,none⟩=some (.slice a2 b.parts.length c2) ∧
              w'.cell? ⟨w.heap.size,3,none⟩=some (.slice a3 b.apart.length c3)∧w'.cell? ⟨w.heap.size,4,none⟩=some (.slice a4 b.trials.length c4)∧w'.cell? ⟨blk,off + n,none⟩=some (.int .i64 y)):=hS0
          clear hS0 hsu hsn hmm hy y0
          go_wp2_with fail
          have HBw:Hid (Below wr.heap.size wr wr):=Below.refl _ _
          go_region_held3 (fun w'=>w'.cell? ⟨w.heap.size,0,none⟩=some (.int .i64 b.beat)∧w'.cell? ⟨w.heap.size,1,none⟩=some (.int .i64 b.places)∧w'.cell? ⟨w.heap.size,2,none⟩=some (.slice a2 b.parts.length c2) ∧
              w'.cell? ⟨w.heap.size,3,none⟩=some (.slice a3 b.apart.length c3)∧w'.cell? ⟨w.heap.size,4,none⟩=some (.slice a4 b.trials.length c4)∧w'.cell? ⟨blk,off + n,none⟩=some (.int .i64 y))
            (first | exact HS0.out _ HB7.out | exact HS0.out _ HB6.out | exact HS0.out _ (Below.drewN (Below.refl wr.heap.size wr) 1))
            (first
              | (go_at_call 32
                 refine hC32.mono ?_
                 rintro e w6 ⟨⟨v6,rfl,hbk⟩,hb6⟩
                 have HB6:Hid (Below wr.heap.size wr w6):=hb6
                 have HK6:Hid (BookAt w6 v6 (onlyOf b q y)):=hbk
                 clear hb6 hbk hC32)
              | (go_at_call 14
                 refine (bMachines_any w6 v6 (onlyOf b q y) HK6.out (only_valid HV.out q y) (HCM.out.later (HBr.out.trans (HB6.out.mono HBr.out.size)))).mono ?_
                 rintro e w7 ⟨rfl,hb7⟩
                 have HB7:Hid (Below wr.heap.size wr w7):=HB6.out.trans (hb7.mono HB6.out.size)
                 rw [HMM.out]
                 clear hb7))
          have HBn:Hid (Below wL.heap.size wL w7):=hB.out.trans (HB7.out.mono hB.out.size)
          clear HB6 HB7 HK6 HBw s0 s1 s2 s3 s4 gy
          have hm2:(mm:Int) ≤ (nn:Int):=by omega
          go_wp2
          go_round
          case rel=>exact ⟨n + 1,by omega,by go_num,by rw [HSU.out];go_num,HBn⟩
          case measure=>simp [intOf];omega
        · have e:n=(canL b q).length:=by omega
          subst e
          have hss:sumTo (fun k=>(machinesOf (onlyOf b q k)).length) (canL b q) (canL b q).length=nn:=by
            unfold sumTo
            rw [List.take_length]
            exact HS.out.symm
          go_wp2_with (go_at_call 10;refine (built_any _).mono ?_;rintro e w8 ⟨rfl,_⟩)
          go_ret
          rfl
end Go.Proofs.Cz
end
