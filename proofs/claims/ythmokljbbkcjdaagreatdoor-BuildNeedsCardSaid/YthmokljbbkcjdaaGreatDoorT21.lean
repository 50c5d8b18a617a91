/- A part of the proof that BuildNeeds returns true. Conditions: none. -/
import Derived.Test.YthmokljbbkcjdaaGreatDoorT19
import Derived.Test.YthmokljbbkcjdaaGreatDoorT20
set_option linter.unusedVariables false
set_option linter.unusedSimpArgs false
section
namespace Go.Proofs.Cz
open Go.RowKit
def noTrials (b:Book):Book:={b with trials:=[]}
theorem noTrials_at {w:World} {b:Book} {v2 v3 v4:Value} (h:BookAt w (.agg #[.int .i64 b.beat,.int .i64 b.places,v2,v3,v4]) b):BookAt w (.agg #[.int .i64 b.beat,.int .i64 b.places,v2,v3,.slice none 0 0]) (noTrials b):=by
 obtain⟨_,_,_,e,h2,h3,_⟩:=h
 simp only[Value.agg.injEq,Array.mk.injEq,List.cons.injEq,true_and,and_true]at e
 obtain⟨rfl,rfl,rfl⟩:=e
 exact⟨_,_,_,rfl,h2,h3,none,0,⟨rfl,Nat.le_refl _,by unfold maxLen;omega,fun _=>rfl,(fun b hb=>by cases hb)⟩,fun b hb=>by cases hb⟩
theorem BookAt.partsAt {w:World} {b:Book} {x y:Int} {v2 v3 v4:Value} (h:BookAt w (.agg #[.int .i64 x,.int .i64 y,v2,v3,v4]) b):PartsAt w v2 b.parts:=by
 obtain⟨_,_,_,e,h2,h3,_⟩:=h
 simp only[Value.agg.injEq,Array.mk.injEq,List.cons.injEq,true_and,and_true]at e
 obtain⟨_,_,rfl,_,_⟩:=e
 exact h2
theorem PartsAt.first {w:World} {a:Option Addr} {n c:Nat} {l:List Part} (h:PartsAt w (.slice a n c) l) (hl:0<l.length):∃blk off,a=some ⟨blk,off,none⟩:=by
 obtain⟨a',c',h1,h2⟩:=h
 have e:=h1.eq
 simp only[Value.slice.injEq]at e
 obtain⟨rfl,_,rfl⟩:=e
 obtain⟨⟨blk,off,sp⟩,x,rfl,hx,x0,_⟩:=h1.elem h2 (k:=0) hl
 obtain rfl:sp=none:=x0.1
 exact⟨blk,off,rfl⟩
set_option maxHeartbeats 4000000 in
set_option maxRecDepth 20000 in
theorem law4_of (w:World) (b:Book) (p:Int) (a2 a3 a4:Option Addr) (c2 c3 c4 n4:Nat) (hp0:0≤p) (hp1:p<256) (hb:BookAt w (.agg #[.int .i64 b.beat,.int .i64 b.places,.slice a2 b.parts.length c2,.slice a3 b.apart.length c3,.slice none 0 0]) b) (h0:b.trials=[]) (hc:Chk w):
 Calls Tz.prog 4 #[.agg #[.int .i64 b.beat,.int .i64 b.places,.slice a2 b.parts.length c2,.slice a3 b.apart.length c3,.slice a4 n4 c4],.int .u8 p] w fun e _=>e=.returned (.bool true):=by
 have HB:Hid (BookAt w (.agg #[.int .i64 b.beat,.int .i64 b.places,.slice a2 b.parts.length c2,.slice a3 b.apart.length c3,.slice none 0 0]) b):=hb
 have HC:Hid (Chk w):=hc
 have H0:Hid (b.trials=[]):=h0
 obtain⟨A1,hA1⟩:∃A,w.alloc (.cells #[.int .i64 b.beat,.int .i64 b.places,.slice a2 b.parts.length c2,.slice a3 b.apart.length c3,.slice none 0 0] 26)=A:=⟨_,rfl⟩
 have B1:Hid (Box A1 w.heap.size 26 #[.int .i64 b.beat,.int .i64 b.places,.slice a2 b.parts.length c2,.slice a3 b.apart.length c3,.slice none 0 0]):=by rw[←hA1];exact Box.new _ _ _
 have HW:Hid (Below w.heap.size w A1):=by rw[←hA1];exact(Keep.alloc [] _ _).below (by simp) (Nat.le_refl _)
 have z0:=B1.out.cell 0 rfl
 have z1:=B1.out.cell 1 rfl
 have z2:=B1.out.cell 2 rfl
 have z3:=B1.out.cell 3 rfl
 have z4:=B1.out.cell 4 rfl
 clear hc hb h0
 go_enter Tz.func4,Tz.ntmps4
 go_wp2_with fail
 refine(fit_any A1 _ b (HB.out.later (Kp.of HW.out))).mono ?_
 rintro e w1 ⟨⟨r,rfl,hr⟩,hb1⟩
 have HB1:Hid (Below A1.heap.size A1 w1):=hb1
 have HW1:Hid (Below w.heap.size w w1):=HW.out.trans (hb1.mono HW.out.size)
 clear hb1 hA1 z0 z1 z2 z3 z4
 cases r with
 |false=>
  clear hr
  go_wp2_with(go_at_call 10;refine(built_any _).mono ?_;rintro e w2 ⟨rfl,_⟩)
  go_ret
  rfl
 |true=>
  obtain⟨_,hv⟩:=hr rfl
  have HV:Hid (Valid b):=hv
  have hpm:=hv.parts.many
  have HAG:Hid (∀X,Agrees X (.agg #[.int .i64 b.beat,.int .i64 b.places,.slice a2 b.parts.length c2,.slice a3 b.apart.length c3,.slice none 0 0]) fun _=>true):=fun X Y t hX=>agrees0_any Y _ _ b none 0 t
  have HLN:Hid (histOf b (fun _=>true)≠ []):=hist_ne hv _ _ _ (by omega)
  have z0:=(B1.out.below HB1.out B1.out.lt).cell 0 rfl
  have z1:=(B1.out.below HB1.out B1.out.lt).cell 1 rfl
  have z2:=(B1.out.below HB1.out B1.out.lt).cell 2 rfl
  have z3:=(B1.out.below HB1.out B1.out.lt).cell 3 rfl
  have z4:=(B1.out.below HB1.out B1.out.lt).cell 4 rfl
  obtain⟨L,hL⟩:∃L,histOf b (fun _=>true)=L:=⟨_,rfl⟩
  have HL:Hid (histOf b (fun _=>true)=L):=hL
  have hN:=needs_any w1 _ b (fun _=>true) (HB.out.later (Kp.of HW1.out)) hv (HC.out.later HW1.out) (HAG.out w1)
  rw[hL]at hN
  clear hr hv hL
  go_wp2_with fail
  refine hN.mono ?_
  rintro e w2 ⟨hre,hb2⟩
  have HB2:Hid (Below A1.heap.size A1 w2):=HB1.out.trans (hb2.mono HB1.out.size)
  have HW2:Hid (Below w.heap.size w w2):=HW.out.trans (HB2.out.mono HW.out.size)
  clear hN hb2 z0 z1 z2 z3 z4
  have hS:=bSafe_any w2 _ b (fun _=>true) (HB.out.later (Kp.of HW2.out)) HV.out (HC.out.later HW2.out) (HAG.out w2)
  rw[HL.out]at hS
  have z0:=(B1.out.below HB2.out B1.out.lt).cell 0 rfl
  have z1:=(B1.out.below HB2.out B1.out.lt).cell 1 rfl
  have z2:=(B1.out.below HB2.out B1.out.lt).cell 2 rfl
  have z3:=(B1.out.below HB2.out B1.out.lt).cell 3 rfl
  have z4:=(B1.out.below HB2.out B1.out.lt).cell 4 rfl
  obtain⟨q,hq⟩:∃q:Nat,p%(b.parts.length:Int)=(q:Int):=⟨(p%b.parts.length).toNat,by have:=Int.emod_nonneg p (show(b.parts.length:Int)≠0 by omega);omega⟩
  have hqp:(q:Int)<b.parts.length:=by rw[←hq];exact Int.emod_lt_of_pos p (by omega)
  have hml:=machines_len HV.out
  have hsl:(safeOf b L).length≤(machinesOf b).length:=List.length_filter_le _ _
  obtain⟨nn,hnn⟩:∃nn,(safeOf b L).length=nn:=⟨_,rfl⟩
  have HNN:Hid ((safeOf b L).length=nn):=hnn
  rw[hnn]at hsl
  obtain⟨i0,hi,hz0',hz1',hz2'⟩:=info_parts info34
  have HPA:=HB.out.partsAt
  obtain⟨blk,off,rfl⟩:∃blk off,a2=some ⟨blk,off,none⟩:=HPA.first (by omega)
  obtain⟨fs,hF⟩:=HPA.row
  have HF:Hid (_∧_):=hF
  clear hF HPA
  rcases hre with⟨hL,_⟩|⟨hL,hS0,rfl⟩|⟨hL,hS0,vd,rfl,hvd⟩
  ·exact absurd (HL.out.trans hL) HLN.out
  ·have hn0:nn=0:=by rw[←hnn,hS0];rfl
   subst hn0
   clear hnn hS0
   go_wp2_with fail
   refine hS.mono ?_
   rintro e w3 ⟨⟨hL3,rfl⟩|⟨hL3,rfl⟩,hb3⟩
   ·exact absurd (HL.out.trans hL3) HLN.out
   have HB3:Hid (Below A1.heap.size A1 w3):=HB2.out.trans (hb3.mono HB2.out.size)
   have HW3:Hid (Below w.heap.size w w3):=HW.out.trans (HB3.out.mono HW.out.size)
   have HB23:Hid (Below w2.heap.size w2 w3):=hb3
   rw[HNN.out]
   clear hS hb3 z0 z1 z2 z3 z4
   have z0:=(B1.out.below HB3.out B1.out.lt).cell 0 rfl
   have z1:=(B1.out.below HB3.out B1.out.lt).cell 1 rfl
   have z2:=(B1.out.below HB3.out B1.out.lt).cell 2 rfl
   have z3:=(B1.out.below HB3.out B1.out.lt).cell 3 rfl
   have z4:=(B1.out.below HB3.out B1.out.lt).cell 4 rfl
   obtain⟨A4,hA4⟩:∃A,w3.alloc (.cells #[.int .i64 b.beat,.int .i64 b.places,.slice (some ⟨blk,off,none⟩) b.parts.length c2,.slice a3 b.apart.length c3,.slice none 0 0] 26)=A:=⟨_,rfl⟩
   obtain⟨A5,hA5⟩:∃A,A4.alloc (.cells #[] 34)=A:=⟨_,rfl⟩
   have hs4:A4.heap.size=w3.heap.size+1:=by rw[←hA4];simp
   have hk4:Keep [] w3 A4:=by rw[←hA4];exact Keep.alloc _ _ _
   have hk5:Keep [] A4 A5:=by rw[←hA5];exact Keep.alloc _ _ _
   have HB5:Hid (Box A5 w3.heap.size 26 #[.int .i64 b.beat,.int .i64 b.places,.slice (some ⟨blk,off,none⟩) b.parts.length c2,.slice a3 b.apart.length c3,.slice none 0 0]):=hk5.box (by rw[←hA4];exact Box.new _ _ _) (by simp)
   have HK5:Hid (Keep [] w3 A5):=hk4.trans hk5 (by simp)
   have HO5:Hid (A5.ownsRow A4.heap.size 34 6 (.slice (some ⟨w3.heap.size+1,0,none⟩) 0 0) 0 []):=by
    rw[←hs4,←hA5]
    exact World.ownsRow_made A4 #[] 0 (Nat.le_refl _) (by unfold maxLen;omega) rfl
   have HWs:Hid (A4.heap.size≤A5.heap.size):=hk5.size
   have HB4:Box A4 w3.heap.size 26 #[.int .i64 b.beat,.int .i64 b.places,.slice (some ⟨blk,off,none⟩) b.parts.length c2,.slice a3 b.apart.length c3,.slice none 0 0]:=by rw[←hA4];exact Box.new _ _ _
   have q0:=HB4.cell 4 rfl
   have q1:=HB4.warm 4
   have q2:=HB4.same (i:=4) (v:=.slice none 0 0) rfl
   have BA5:Box A5 w.heap.size 26 #[.int .i64 b.beat,.int .i64 b.places,.slice (some ⟨blk,off,none⟩) b.parts.length c2,.slice a3 b.apart.length c3,.slice none 0 0]:=HK5.out.box (B1.out.below HB3.out B1.out.lt) (by simp)
   have y0:=BA5.cell 0 rfl
   have y1:=BA5.cell 1 rfl
   have y2:=BA5.cell 2 rfl
   have y3:=BA5.cell 3 rfl
   have y4:=BA5.cell 4 rfl
   have HKp5:Hid (Kp w A5):=Kp.trans (Kp.of HW3.out) (fun k hk=>HK5.out.block k hk (by simp)) HW3.out.size
   have hnews:∀j u,(partsC b.parts fs)[j]?=some u→A5.cell? ((⟨blk,off,none⟩:Addr).add j)=some u:=fun j u hu=>by
    have h1:=HF.out.2.1 j u hu
    have hlt:blk<w.heap.size:=by
     unfold World.cell? at h1
     split at h1
     ·rename_i hx;exact(Array.getElem?_eq_some_iff.1 hx).1
     ·cases h1
    rw[show(⟨blk,off,none⟩:Addr).add j=⟨blk,off+j,none⟩ by unfold Addr.add;split<;>simp_all]
    exact(World.cell?_of_block (w:=w) (a:=⟨blk,off+j,none⟩) (HKp5.out blk hlt)).trans h1
   have HNW:Hid (∀j u,(partsC b.parts fs)[j]?=some u→A5.cell? ((⟨blk,off,none⟩:Addr).add j)=some u):=hnews
   clear BA5 hk4 hk5 hnews HB4
   go_wp2_with(at_builtin
               refine wpList_append_own _ rfl (.tmp 51) (.tmp 53) 22 rfl A4.heap.size 34 i0 (.agg #[.string .empty,.int .i64 0,.int .i64 0,.int .i64 0,.int .i64 0,.slice none 0 0]) 6 72 under22 hi hz0' hz1' hz2' rfl (by decide) _ _ _ rfl HO5.out ⟨blk,off,none⟩ b.parts.length c2 (partsC b.parts fs) rfl (partsC_len _ _ HF.out.1) HNW.out HF.out.2.2.1 (by unfold maxLen;omega) (by omega) HWs.out ?_
               intro v' w6 hown' hgrow _
               simp only[Nat.zero_add,List.nil_append]at hown'
               obtain⟨g',cap',rfl,hg1,hg2,hg3,hg4⟩:=ownsRow_form hown' (by omega)
               have HO6:Hid (w6.ownsRow A4.heap.size 34 6 (.slice (some ⟨g',0,none⟩) b.parts.length cap') b.parts.length (partsC b.parts fs)):=hown'
               have HG6:Hid (A5.grownBy w6 (some (w3.heap.size+1))):=hgrow
               have HB6:Hid (Box w6 w3.heap.size 26 #[.int .i64 b.beat,.int .i64 b.places,.slice (some ⟨blk,off,none⟩) b.parts.length c2,.slice a3 b.apart.length c3,.slice none 0 0]):=(HG6.out.block _ HB5.out.lt (by simp)).trans HB5.out
               obtain⟨W7,hW7⟩:∃W,w6.setCell ⟨w3.heap.size,2,none⟩ (.slice (some ⟨g',0,none⟩) b.parts.length cap')=W:=⟨_,rfl⟩
               have hk7:Keep [w3.heap.size] w6 W7:=(by rw[←hW7];exact Keep.set _ (by simp) _)
               have HB7:Box W7 w3.heap.size 26 #[.int .i64 b.beat,.int .i64 b.places,.slice (some ⟨g',0,none⟩) b.parts.length cap',.slice a3 b.apart.length c3,.slice none 0 0]:=(by rw[←hW7];exact HB6.out.set 2 _)
               have hg5:g'≠w3.heap.size:=(by omega)
               have HO7:W7.ownsRow A4.heap.size 34 6 (.slice (some ⟨g',0,none⟩) b.parts.length cap') b.parts.length (partsC b.parts fs):=ownsRow_on HO6.out (fun k hk=>by cases hk;exact hk7.block g' hg2 (by simp;exact hg5))
               have hqn:q<b.parts.length:=(by omega)
               have hxq:b.parts[q]?=some b.parts[q]:=List.getElem?_eq_getElem hqn
               have hfq:fs[q]?=some (fs[q]'(by rw[HF.out.1];exact hqn)):=List.getElem?_eq_getElem _
               have k0:W7.cell? ⟨g',q*6+5,none⟩=some (fs[q]'(by rw[HF.out.1];exact hqn)):=(HO7.cellAt (q*6+5) (by omega)).trans (partsC_get b.parts fs q 5 _ _ hxq hfq (by omega))
               have k1:W7.frozen? ⟨g',q*6+5,none⟩=false:=HO7.frozenAt _
               have hst:=HO7.stored (q*6+5) (.slice none 0 0)
               obtain⟨W8,hW8⟩:∃W,W7.setCell ⟨g',q*6+5,none⟩ (.slice none 0 0)=W:=⟨_,rfl⟩
               rw[hW8]at hst
               rw[partsC_set b.parts fs q 5 b.parts[q] {b.parts[q]with fits:=[]} _ (.slice none 0 0) (.slice none 0 0) HF.out.1 hxq hfq (by omega) rfl]at hst
               have HST:Hid (W8.ownsRow A4.heap.size 34 6 (.slice (some ⟨g',0,none⟩) b.parts.length cap') b.parts.length (partsC (b.parts.set q {b.parts[q]with fits:=[]}) (fs.set q (.slice none 0 0)))∧W7.grownBy W8 (some g')):=hst
               have HB8:Box W8 w3.heap.size 26 #[.int .i64 b.beat,.int .i64 b.places,.slice (some ⟨g',0,none⟩) b.parts.length cap',.slice a3 b.apart.length c3,.slice none 0 0]:=(hst.2.block _ HB7.lt (by simp;omega)).trans HB7
               have HW38:Hid (Below w3.heap.size w3 W8):=((HK5.out.below (by simp) (Nat.le_refl _)).trans ((Keep.grown HG6.out (O:=[w3.heap.size+1]) (by simp)).below (by simp) HK5.out.size)).trans ((hk7.below (by simp) (by have:=HG6.out.size;have:=HK5.out.size;omega)).trans ((Keep.grown hst.2 (O:=[g']) (by simp)).below (by simp;omega) (by have:=hk7.size;have:=HG6.out.size;have:=HK5.out.size;omega)))
               have HPA8:Hid (PartsAt W8 (.slice (some ⟨g',0,none⟩) b.parts.length cap') (bare b.parts q)):=(by
                have e:bare b.parts q=b.parts.set q {b.parts[q]with fits:=[]}:=by unfold bare;rw[hxq]
                have hl:(bare b.parts q).length=b.parts.length:=bare_len _ _
                rw[e]at hl⊢
                refine PartsAt.of_row (by rw[hl];exact hst.1) (by rw[List.length_set,hl];exact HF.out.1) fun j x f hj hf=>?_
                by_cases ej:j=q
                ·subst ej
                 rw[List.getElem?_set_self hqn]at hj
                 rw[List.getElem?_set_self (by rw[HF.out.1];exact hqn)]at hf
                 cases hj;cases hf
                 exact⟨none,0,⟨rfl,Nat.le_refl _,by unfold maxLen;omega,fun _=>rfl,(fun b hb=>by cases hb)⟩,fun b hb=>by cases hb⟩
                ·rw[List.getElem?_set_ne (Ne.symm ej)]at hj hf
                 exact(HF.out.2.2.2 j x f hj hf).later (Kp.trans (Kp.of HW3.out) (Kp.of HW38.out) HW3.out.size))
               have hH8:Hid (Box W8 w3.heap.size 26 #[.int .i64 b.beat,.int .i64 b.places,.slice (some ⟨g',0,none⟩) b.parts.length cap',.slice a3 b.apart.length c3,.slice none 0 0]):=HB8
               have u2:=HB6.out.cell 2 rfl
               have u3:=HB6.out.warm 2
               have v2:=HB7.cell 2 rfl
               have x0:=HB8.cell 0 rfl
               have x1:=HB8.cell 1 rfl
               have x2:=HB8.cell 2 rfl
               have x3:=HB8.cell 3 rfl
               have x4:=HB8.cell 4 rfl
               clear hst hk7 HB7 HO7 HB8 hg5 hxq hfq
               clear hown' hgrow y0 y1 y2 y3 y4 z0 z1 z2 z3 z4 q0 q1 q2)
   have hHO:histOf (noOf b q) (fun _=>true)=L:=by
    have e1:histOf (noOf b q) (fun _=>true)=hist (fun _=>true) (bare b.parts q) (bare b.parts q).length 0 (fun _=>0):=rfl
    rw[e1,bare_len,hist_bare]
    exact HL.out
   have hBO:BookAt W8 (.agg #[.int .i64 b.beat,.int .i64 b.places,.slice (some ⟨g',0,none⟩) b.parts.length cap',.slice a3 b.apart.length c3,.slice none 0 0]) (noOf b q):=by
    obtain⟨_,_,_,e,_,h3,_⟩:=HB.out
    simp only[Value.agg.injEq,Array.mk.injEq,List.cons.injEq,true_and,and_true]at e
    obtain⟨_,rfl,_⟩:=e
    have hk:Kp w W8:=Kp.trans (Kp.of HW3.out) (Kp.of HW38.out) HW3.out.size
    exact⟨_,_,_,rfl,HPA8.out,h3.later hk,none,0,⟨by rw[show(noOf b q).trials=[]from H0.out];rfl,by rw[show(noOf b q).trials=[]from H0.out];exact Nat.le_refl _,by unfold maxLen;omega,fun _=>rfl,(fun b hb=>by cases hb)⟩,fun b hb=>by cases hb⟩
   have hS8:=bSafe_any W8 _ (noOf b q) (fun _=>true) hBO (noOf_valid HV.out H0.out q) (HC.out.later (HW3.out.trans (HW38.out.mono HW3.out.size))) (fun Y t hX=>agrees0_any Y _ _ (noOf b q) none 0 t)
   rw[hHO]at hS8
   have HMM:Hid ((safeOf (noOf b q) L).length=0):=by have h1:=safe_less b q L;rw[HNN.out]at h1;exact(by omega:(safeOf (noOf b q) L).length=0)
   clear hBO hHO
   refine hS8.mono ?_
   rintro e w9 ⟨⟨hL3,rfl⟩|⟨hL3,rfl⟩,hb9⟩
   ·exact absurd (HL.out.trans hL3) HLN.out
   rw[HMM.out]
   have hin:=fun w=>in_any 0 0 0 w
   rw[show(decide ((0:Int)≤0)&&decide ((0:Int)≤0))=true from rfl]at hin
   clear hS8 hb9 x0 x1 x2 x3 x4 u2 u3 v2 k0 k1
   go_wp2_with(first
    |(go_at_call 19;refine(hin _).mono ?_;rintro e w' ⟨rfl,rfl⟩)
    |(go_at_call 10;refine(built_any _).mono ?_;rintro e w8 ⟨rfl,_⟩))
   go_ret
   rfl
  ·have hpos:0<nn:=by rw[←hnn];exact List.length_pos_iff.2 hS0
   have hn1:(0:Int)<(nn:Int):=by omega
   have HVD:Hid (IntsAt w2 vd (needTo b.places.toNat (safeOf b L) b.parts.length)):=hvd
   obtain⟨da,dc,hds,_⟩:=hvd
   obtain⟨rfl,_,_,_,_⟩:=hds
   clear hnn hS0
   go_wp2_with fail
   refine hS.mono ?_
   rintro e w3 ⟨⟨hL3,rfl⟩|⟨hL3,rfl⟩,hb3⟩
   ·exact absurd (HL.out.trans hL3) HLN.out
   have HB3:Hid (Below A1.heap.size A1 w3):=HB2.out.trans (hb3.mono HB2.out.size)
   have HW3:Hid (Below w.heap.size w w3):=HW.out.trans (HB3.out.mono HW.out.size)
   have HB23:Hid (Below w2.heap.size w2 w3):=hb3
   rw[HNN.out]
   clear hS hb3 z0 z1 z2 z3 z4
   have z0:=(B1.out.below HB3.out B1.out.lt).cell 0 rfl
   have z1:=(B1.out.below HB3.out B1.out.lt).cell 1 rfl
   have z2:=(B1.out.below HB3.out B1.out.lt).cell 2 rfl
   have z3:=(B1.out.below HB3.out B1.out.lt).cell 3 rfl
   have z4:=(B1.out.below HB3.out B1.out.lt).cell 4 rfl
   obtain⟨A4,hA4⟩:∃A,w3.alloc (.cells #[.int .i64 b.beat,.int .i64 b.places,.slice (some ⟨blk,off,none⟩) b.parts.length c2,.slice a3 b.apart.length c3,.slice none 0 0] 26)=A:=⟨_,rfl⟩
   obtain⟨A5,hA5⟩:∃A,A4.alloc (.cells #[] 34)=A:=⟨_,rfl⟩
   have hs4:A4.heap.size=w3.heap.size+1:=by rw[←hA4];simp
   have hk4:Keep [] w3 A4:=by rw[←hA4];exact Keep.alloc _ _ _
   have hk5:Keep [] A4 A5:=by rw[←hA5];exact Keep.alloc _ _ _
   have HB5:Hid (Box A5 w3.heap.size 26 #[.int .i64 b.beat,.int .i64 b.places,.slice (some ⟨blk,off,none⟩) b.parts.length c2,.slice a3 b.apart.length c3,.slice none 0 0]):=hk5.box (by rw[←hA4];exact Box.new _ _ _) (by simp)
   have HK5:Hid (Keep [] w3 A5):=hk4.trans hk5 (by simp)
   have HO5:Hid (A5.ownsRow A4.heap.size 34 6 (.slice (some ⟨w3.heap.size+1,0,none⟩) 0 0) 0 []):=by
    rw[←hs4,←hA5]
    exact World.ownsRow_made A4 #[] 0 (Nat.le_refl _) (by unfold maxLen;omega) rfl
   have HWs:Hid (A4.heap.size≤A5.heap.size):=hk5.size
   have HB4:Box A4 w3.heap.size 26 #[.int .i64 b.beat,.int .i64 b.places,.slice (some ⟨blk,off,none⟩) b.parts.length c2,.slice a3 b.apart.length c3,.slice none 0 0]:=by rw[←hA4];exact Box.new _ _ _
   have q0:=HB4.cell 4 rfl
   have q1:=HB4.warm 4
   have q2:=HB4.same (i:=4) (v:=.slice none 0 0) rfl
   have BA5:Box A5 w.heap.size 26 #[.int .i64 b.beat,.int .i64 b.places,.slice (some ⟨blk,off,none⟩) b.parts.length c2,.slice a3 b.apart.length c3,.slice none 0 0]:=HK5.out.box (B1.out.below HB3.out B1.out.lt) (by simp)
   have y0:=BA5.cell 0 rfl
   have y1:=BA5.cell 1 rfl
   have y2:=BA5.cell 2 rfl
   have y3:=BA5.cell 3 rfl
   have y4:=BA5.cell 4 rfl
   have HKp5:Hid (Kp w A5):=Kp.trans (Kp.of HW3.out) (fun k hk=>HK5.out.block k hk (by simp)) HW3.out.size
   have hnews:∀j u,(partsC b.parts fs)[j]?=some u→A5.cell? ((⟨blk,off,none⟩:Addr).add j)=some u:=fun j u hu=>by
    have h1:=HF.out.2.1 j u hu
    have hlt:blk<w.heap.size:=by
     unfold World.cell? at h1
     split at h1
     ·rename_i hx;exact(Array.getElem?_eq_some_iff.1 hx).1
     ·cases h1
    rw[show(⟨blk,off,none⟩:Addr).add j=⟨blk,off+j,none⟩ by unfold Addr.add;split<;>simp_all]
    exact(World.cell?_of_block (w:=w) (a:=⟨blk,off+j,none⟩) (HKp5.out blk hlt)).trans h1
   have HNW:Hid (∀j u,(partsC b.parts fs)[j]?=some u→A5.cell? ((⟨blk,off,none⟩:Addr).add j)=some u):=hnews
   clear BA5 hk4 hk5 hnews HB4
   go_wp2_with(at_builtin
               refine wpList_append_own _ rfl (.tmp 51) (.tmp 53) 22 rfl A4.heap.size 34 i0 (.agg #[.string .empty,.int .i64 0,.int .i64 0,.int .i64 0,.int .i64 0,.slice none 0 0]) 6 72 under22 hi hz0' hz1' hz2' rfl (by decide) _ _ _ rfl HO5.out ⟨blk,off,none⟩ b.parts.length c2 (partsC b.parts fs) rfl (partsC_len _ _ HF.out.1) HNW.out HF.out.2.2.1 (by unfold maxLen;omega) (by omega) HWs.out ?_
               intro v' w6 hown' hgrow _
               simp only[Nat.zero_add,List.nil_append]at hown'
               obtain⟨g',cap',rfl,hg1,hg2,hg3,hg4⟩:=ownsRow_form hown' (by omega)
               have HO6:Hid (w6.ownsRow A4.heap.size 34 6 (.slice (some ⟨g',0,none⟩) b.parts.length cap') b.parts.length (partsC b.parts fs)):=hown'
               have HG6:Hid (A5.grownBy w6 (some (w3.heap.size+1))):=hgrow
               have HB6:Hid (Box w6 w3.heap.size 26 #[.int .i64 b.beat,.int .i64 b.places,.slice (some ⟨blk,off,none⟩) b.parts.length c2,.slice a3 b.apart.length c3,.slice none 0 0]):=(HG6.out.block _ HB5.out.lt (by simp)).trans HB5.out
               obtain⟨W7,hW7⟩:∃W,w6.setCell ⟨w3.heap.size,2,none⟩ (.slice (some ⟨g',0,none⟩) b.parts.length cap')=W:=⟨_,rfl⟩
               have hk7:Keep [w3.heap.size] w6 W7:=(by rw[←hW7];exact Keep.set _ (by simp) _)
               have HB7:Box W7 w3.heap.size 26 #[.int .i64 b.beat,.int .i64 b.places,.slice (some ⟨g',0,none⟩) b.parts.length cap',.slice a3 b.apart.length c3,.slice none 0 0]:=(by rw[←hW7];exact HB6.out.set 2 _)
               have hg5:g'≠w3.heap.size:=(by omega)
               have HO7:W7.ownsRow A4.heap.size 34 6 (.slice (some ⟨g',0,none⟩) b.parts.length cap') b.parts.length (partsC b.parts fs):=ownsRow_on HO6.out (fun k hk=>by cases hk;exact hk7.block g' hg2 (by simp;exact hg5))
               have hqn:q<b.parts.length:=(by omega)
               have hxq:b.parts[q]?=some b.parts[q]:=List.getElem?_eq_getElem hqn
               have hfq:fs[q]?=some (fs[q]'(by rw[HF.out.1];exact hqn)):=List.getElem?_eq_getElem _
               have k0:W7.cell? ⟨g',q*6+5,none⟩=some (fs[q]'(by rw[HF.out.1];exact hqn)):=(HO7.cellAt (q*6+5) (by omega)).trans (partsC_get b.parts fs q 5 _ _ hxq hfq (by omega))
               have k1:W7.frozen? ⟨g',q*6+5,none⟩=false:=HO7.frozenAt _
               have hst:=HO7.stored (q*6+5) (.slice none 0 0)
               obtain⟨W8,hW8⟩:∃W,W7.setCell ⟨g',q*6+5,none⟩ (.slice none 0 0)=W:=⟨_,rfl⟩
               rw[hW8]at hst
               rw[partsC_set b.parts fs q 5 b.parts[q] {b.parts[q]with fits:=[]} _ (.slice none 0 0) (.slice none 0 0) HF.out.1 hxq hfq (by omega) rfl]at hst
               have HST:Hid (W8.ownsRow A4.heap.size 34 6 (.slice (some ⟨g',0,none⟩) b.parts.length cap') b.parts.length (partsC (b.parts.set q {b.parts[q]with fits:=[]}) (fs.set q (.slice none 0 0)))∧W7.grownBy W8 (some g')):=hst
               have HB8:Box W8 w3.heap.size 26 #[.int .i64 b.beat,.int .i64 b.places,.slice (some ⟨g',0,none⟩) b.parts.length cap',.slice a3 b.apart.length c3,.slice none 0 0]:=(hst.2.block _ HB7.lt (by simp;omega)).trans HB7
               have HW38:Hid (Below w3.heap.size w3 W8):=((HK5.out.below (by simp) (Nat.le_refl _)).trans ((Keep.grown HG6.out (O:=[w3.heap.size+1]) (by simp)).below (by simp) HK5.out.size)).trans ((hk7.below (by simp) (by have:=HG6.out.size;have:=HK5.out.size;omega)).trans ((Keep.grown hst.2 (O:=[g']) (by simp)).below (by simp;omega) (by have:=hk7.size;have:=HG6.out.size;have:=HK5.out.size;omega)))
               have HPA8:Hid (PartsAt W8 (.slice (some ⟨g',0,none⟩) b.parts.length cap') (bare b.parts q)):=(by
                have e:bare b.parts q=b.parts.set q {b.parts[q]with fits:=[]}:=by unfold bare;rw[hxq]
                have hl:(bare b.parts q).length=b.parts.length:=bare_len _ _
                rw[e]at hl⊢
                refine PartsAt.of_row (by rw[hl];exact hst.1) (by rw[List.length_set,hl];exact HF.out.1) fun j x f hj hf=>?_
                by_cases ej:j=q
                ·subst ej
                 rw[List.getElem?_set_self hqn]at hj
                 rw[List.getElem?_set_self (by rw[HF.out.1];exact hqn)]at hf
                 cases hj;cases hf
                 exact⟨none,0,⟨rfl,Nat.le_refl _,by unfold maxLen;omega,fun _=>rfl,(fun b hb=>by cases hb)⟩,fun b hb=>by cases hb⟩
                ·rw[List.getElem?_set_ne (Ne.symm ej)]at hj hf
                 exact(HF.out.2.2.2 j x f hj hf).later (Kp.trans (Kp.of HW3.out) (Kp.of HW38.out) HW3.out.size))
               have hH8:Hid (Box W8 w3.heap.size 26 #[.int .i64 b.beat,.int .i64 b.places,.slice (some ⟨g',0,none⟩) b.parts.length cap',.slice a3 b.apart.length c3,.slice none 0 0]):=HB8
               have u2:=HB6.out.cell 2 rfl
               have u3:=HB6.out.warm 2
               have v2:=HB7.cell 2 rfl
               have x0:=HB8.cell 0 rfl
               have x1:=HB8.cell 1 rfl
               have x2:=HB8.cell 2 rfl
               have x3:=HB8.cell 3 rfl
               have x4:=HB8.cell 4 rfl
               clear hst hk7 HB7 HO7 HB8 hg5 hxq hfq
               clear hown' hgrow y0 y1 y2 y3 y4 z0 z1 z2 z3 z4 q0 q1 q2)
   have hHO:histOf (noOf b q) (fun _=>true)=L:=by
    have e1:histOf (noOf b q) (fun _=>true)=hist (fun _=>true) (bare b.parts q) (bare b.parts q).length 0 (fun _=>0):=rfl
    rw[e1,bare_len,hist_bare]
    exact HL.out
   have hBO:BookAt W8 (.agg #[.int .i64 b.beat,.int .i64 b.places,.slice (some ⟨g',0,none⟩) b.parts.length cap',.slice a3 b.apart.length c3,.slice none 0 0]) (noOf b q):=by
    obtain⟨_,_,_,e,_,h3,_⟩:=HB.out
    simp only[Value.agg.injEq,Array.mk.injEq,List.cons.injEq,true_and,and_true]at e
    obtain⟨_,rfl,_⟩:=e
    have hk:Kp w W8:=Kp.trans (Kp.of HW3.out) (Kp.of HW38.out) HW3.out.size
    exact⟨_,_,_,rfl,HPA8.out,h3.later hk,none,0,⟨by rw[show(noOf b q).trials=[]from H0.out];rfl,by rw[show(noOf b q).trials=[]from H0.out];exact Nat.le_refl _,by unfold maxLen;omega,fun _=>rfl,(fun b hb=>by cases hb)⟩,fun b hb=>by cases hb⟩
   have hS8:=bSafe_any W8 _ (noOf b q) (fun _=>true) hBO (noOf_valid HV.out H0.out q) (HC.out.later (HW3.out.trans (HW38.out.mono HW3.out.size))) (fun Y t hX=>agrees0_any Y _ _ (noOf b q) none 0 t)
   rw[hHO]at hS8
   have hle:(safeOf (noOf b q) L).length≤nn:=by rw[←HNN.out];exact safe_less b q L
   have hkey:(q:Int)∈needTo b.places.toNat (safeOf b L) b.parts.length↔(safeOf (noOf b q) L).length=0:=by
    rw[mem_needTo,List.length_eq_zero_iff,safe_none]
    constructor
    ·intro h m hm
     refine Classical.byContradiction fun h2=>h.2 ⟨m,hm,fun j hj e=>h2 ⟨j,hj,e⟩⟩
    ·intro h
     refine⟨by omega,fun⟨m,hm,h2⟩=>?_⟩
     obtain⟨j,hj,e⟩:=h m hm
     exact h2 j hj e
   obtain⟨mm,hmm⟩:∃mm,(safeOf (noOf b q) L).length=mm:=⟨_,rfl⟩
   rw[hmm]at hle hkey
   have HMM:Hid ((safeOf (noOf b q) L).length=mm):=hmm
   have HKEY:Hid ((q:Int)∈needTo b.places.toNat (safeOf b L) b.parts.length↔mm=0):=hkey
   clear hkey hmm hBO hHO
   refine hS8.mono ?_
   rintro e w9 ⟨⟨hL3,rfl⟩|⟨hL3,rfl⟩,hb9⟩
   ·exact absurd (HL.out.trans hL3) HLN.out
   rw[HMM.out]
   have HVD9:Hid (IntsAt w9 (.slice da (needTo b.places.toNat (safeOf b L) b.parts.length).length dc) (needTo b.places.toNat (safeOf b L) b.parts.length)):=
    HVD.out.later (Kp.of (HB23.out.trans ((HW38.out.trans (hb9.mono HW38.out.size)).mono HB23.out.size)))
   have hin:=fun w=>in_any (mm:Int) 0 (nn:Int) w
   have hd:(decide ((0:Int)≤(mm:Int))&&decide ((mm:Int)≤(nn:Int)))=true:=by simp;omega
   rw[hd]at hin
   clear hS8 hb9 x0 x1 x2 x3 x4 u2 u3 v2 k0 k1 hd
   by_cases hm0:mm=0
   ·have hh:=has_any w9 _ _ (q:Int) HVD9.out
    rw[decide_eq_true (HKEY.out.2 hm0)]at hh
    subst hm0
    go_wp2_with(first
     |(go_at_call 19;refine(hin _).mono ?_;rintro e w' ⟨rfl,rfl⟩)
     |(go_at_call 20;refine hh.mono ?_;rintro e w' ⟨rfl,rfl⟩)
     |(go_at_call 10;refine(built_any _).mono ?_;rintro e w8 ⟨rfl,_⟩))
    go_ret
    rfl
   ·have hh:=has_any w9 _ _ (q:Int) HVD9.out
    rw[decide_eq_false (fun h=>hm0 (HKEY.out.1 h))]at hh
    have hm1:¬((mm:Int)=0):=by omega
    have hm2:((mm:Int)==0)=false:=by simp;omega
    go_wp2_with(first
     |(go_at_call 19;refine(hin _).mono ?_;rintro e w' ⟨rfl,rfl⟩)
     |(go_at_call 20;refine hh.mono ?_;rintro e w' ⟨rfl,rfl⟩)
     |(go_at_call 10;refine(built_any _).mono ?_;rintro e w8 ⟨rfl,_⟩))
    go_ret
    rfl
theorem law4 (w:World) (v:Value) (b:Book) (p:Int) (hp0:0≤p) (hp1:p<256) (hb:BookAt w v b) (hc:Chk w):Calls Tz.prog 4 #[v,.int .u8 p] w fun e _=>e=.returned (.bool true):=by
 obtain⟨a2,c2,a3,c3,a4,c4,rfl⟩:=hb.parts'
 have hn:=noTrials_at hb
 exact law4_of w (noTrials b) p a2 a3 a4 c2 c3 c4 b.trials.length hp0 hp1 hn rfl hc
end Go.Proofs.Cz
end
