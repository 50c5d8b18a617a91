/- A part. Conditions: none. -/
import Derived.Test.YtddlcmejelobdaaGreatDoorT20
import Derived.Test.YtddlcmejelobdaaGreatDoorT49
import Derived.Test.YtddlcmejelobdaaGreatDoorT50
import Derived.RegionTactic
import Derived.BigRegion
set_option linter.all false
set_option maxHeartbeats 8000000
set_option maxRecDepth 100000
namespace Go.Proofs.Cz
open Go.RowKit Go.Shelf
variable {b:ai}
theorem Gt (hv:Valid b) (hL:aP b (aB b)≠ []):0<(mC b:Int):=by
 rw[lG (cX.2 hv)];have:=List.length_pos_iff.2 hL;omega
theorem Gu (hv:Valid b) (hL:aP b (aB b)=[]):mC b=0:=by rw[lG (cX.2 hv),hL];rfl
theorem CZ (hv:Valid b) (hL:aP b (aB b)=[]):a9 b 0=9/\bF b=0:=by
 have ho:=Eo (cX.2 hv) hL;exact⟨ho,by unfold bF;rw[ho,if_neg (by decide)]⟩
theorem Gv (hv:Valid b) (hL:aP b (aB b)≠ []):bF b<=15:=by
 rw[(fh hv hL).2];have h1:=oD (S:=cr b (aP b (aB b))) (N:=b.places.toNat) (by have:=hv.places;omega) (ta hv _) (total (aH b b.parts.length)+1) (aH b b.parts.length);have h:=kd hv;have h0:=h 0;have oV:=h 1;have h2:=h 2;have h3:=h 3;have h4:=h 4
 have h5:total (aH b b.parts.length)<=15:=by unfold total;omega
 exact Nat.le_trans h1 h5
theorem zcr (w:World) (v:Value) (b:ai) (n p:Int) (hb:au w v b) (hn:0<=n/\n<65536) (hp:0<=p/\p<256) (hc:me w):
 Calls ZP 3 #[v,.int .u16 n,.int .u8 p] w fun e _=>e=.returned (.bool true):=by
 have HB0:=hid hb;have HC:Hid (me w):=hc;have HN:=hid hn;obtain⟨a2,c2,a3,c3,a4,c4,rfl⟩:=hb.gi;obtain⟨A1,bI⟩:=ex1 (w.alloc (.cells #[.int .i64 b.ao,.int .i64 b.places,.slice a2 b.parts.length c2,.slice a3 b.apart.length c3,.slice a4 b.ab.length c4] 26));have B1:Hid (aD A1 w.heap.size 26 #[.int .i64 b.ao,.int .i64 b.places,.slice a2 b.parts.length c2,.slice a3 b.apart.length c3,.slice a4 b.ab.length c4]):=fe bI;have HW:Hid (Below w.heap.size w A1):=(dd bI).below (by simp) (Nat.le_refl _);have z0:=B1.o.cell 0 rfl;have z1:=B1.o.cell 1 rfl;have z2:=B1.o.cell 2 rfl;have z3:=B1.o.cell 3 rfl;have z4:=B1.o.cell 4 rfl;have hF:=MN A1 _ b (HB0.o.later (Kp.of HW.o));clear hb hc hn;go_enter ZF3,Tryz.ntmps3
 go_wp2_with fail
 refine hF.mono ?_;rintro e w1 ⟨⟨r,rfl,hr⟩,bE⟩;have fB:=hid bE;have xP:=HW.t bE;clear bE bI z0 z1 z2 z3 z4 hF;cases r with
 |false=>
  clear hr;go_wp2_with(go_at_call 9;refine(ir _).mono ?_;rintro e w2 ⟨rfl,_⟩)
  go_ret;rfl
 |true=>
  obtain⟨hs,hv⟩:=hr rfl;have HV:Hid (Valid b):=hv;have HS:Hid (fL b):=hs;clear hr hs;obtain⟨blk,off,rfl⟩:∃blk off,a2=some ⟨blk,off,none⟩:=HB0.o.rc.first (by have:=hv.parts.many;omega);have HB:Hid (au w (.agg #[.int .i64 b.ao,.int .i64 b.places,.slice (some ⟨blk,off,none⟩) b.parts.length c2,.slice a3 b.apart.length c3,.slice a4 b.ab.length c4]) b):=HB0.o
  have HZ:Hid (∀X:World,Below A1.heap.size A1 X->X.cell? ⟨w.heap.size,0,none⟩=some (.int .i64 b.ao)/\X.cell? ⟨w.heap.size,1,none⟩=some (.int .i64 b.places)/\X.cell? ⟨w.heap.size,2,none⟩=some (.slice (some ⟨blk,off,none⟩) b.parts.length c2)/\X.cell? ⟨w.heap.size,3,none⟩=some (.slice a3 b.apart.length c3)/\X.cell? ⟨w.heap.size,4,none⟩=some (.slice a4 b.ab.length c4)):=fun X hX=>by
   have BX:=B1.o.below hX B1.o.lt;exact⟨BX.cell 0 rfl,BX.cell 1 rfl,BX.cell 2 rfl,BX.cell 3 rfl,BX.cell 4 rfl⟩
  have RT:Hid (∀X:World,Below A1.heap.size A1 X->au X (.agg #[.int .i64 b.ao,.int .i64 b.places,.slice (some ⟨blk,off,none⟩) b.parts.length c2,.slice a3 b.apart.length c3,.slice a4 b.ab.length c4]) b):=fun X hX=>HB.o.later (Kp.of (HW.o.trans (hX.mono HW.o.size)));have KV:Hid (∀X:World,Below A1.heap.size A1 X->me X):=fun X hX=>HC.o.later (HW.o.trans (hX.mono HW.o.size));obtain⟨z0,z1,z2,z3,z4⟩:=HZ.o w1 fB.o;have Tg:=lH w1 _ b (RT.o w1 fB.o) HS.o (KV.o w1 fB.o);rcases Classical.em (aP b (aB b)=[])with hL|hL
  .obtain⟨e1,e2⟩:=CZ hv hL;rw[e1,e2]at Tg;have HE:Hid (mC b=0/\bt b=0):=⟨Gu hv hL,cX.2 hv⟩
   clear hL e1 e2 hv
   go_wp2_with(first
    |(go_at_call 10
      refine Tg.mono ?_;rintro e w2 ⟨rfl,gz⟩;have iI:=fB.t gz;clear gz Tg z0 z1 z2 z3 z4;obtain⟨z0,z1,z2,z3,z4⟩:=HZ.o w2 iI.o)
    |(go_at_call 11
      have Sc:=vv w2 _ b (RT.o w2 iI.o) HS.o (KV.o w2 iI.o);rw[HE.o.1,HE.o.2]at Sc;refine Sc.mono ?_;rintro e w3 ⟨rfl,GY⟩;have jp:=iI.t GY;clear GY Sc z0 z1 z2 z3 z4;obtain⟨z0,z1,z2,z3,z4⟩:=HZ.o w3 jp.o)
    |(go_at_call 9;refine(ir _).mono ?_;rintro e w2 ⟨rfl,_⟩))
   go_ret;rfl
  .have HL:=hid hL;have MP:=hv.parts.many;have t9:=hv.places;obtain⟨nb,Oo⟩:=ex1 (bF b);have X9:=hid Oo;have ze4:nb<=15:=by rw[<-Oo];exact Gv hv hL
   rw[(fh hv hL).1,Oo]at Tg;obtain⟨hk,hhk⟩:=ex1 (mC b);have GV:0<hk:=by have h:=Gt hv hL;rw[hhk]at h;omega
   have HHK:Hid (mC b=hk/\bt b=0):=⟨hhk,cX.2 hv⟩
   clear hL Oo hhk hv
   go_upto_region 9 with(first
    |(go_at_call 10
      refine Tg.mono ?_;rintro e w2 ⟨rfl,gz⟩;have iI:=fB.t gz;clear gz Tg z0 z1 z2 z3 z4;obtain⟨z0,z1,z2,z3,z4⟩:=HZ.o w2 iI.o)
    |(go_at_call 11
      have Sc:=vv w2 _ b (RT.o w2 iI.o) HS.o (KV.o w2 iI.o);rw[HHK.o.1,HHK.o.2]at Sc;refine Sc.mono ?_;rintro e w3 ⟨rfl,GY⟩;have jp:=iI.t GY;clear GY Sc z0 z1 z2 z3 z4;obtain⟨z0,z1,z2,z3,z4⟩:=HZ.o w3 jp.o))
   obtain⟨q,hq⟩:∃q:Nat,p%(b.parts.length:Int)=(q:Int):=⟨(p%b.parts.length).toNat,by have:=Int.emod_nonneg p (show(b.parts.length:Int)≠0 by omega);omega⟩
   have hqp:(q:Int)<b.parts.length:=by rw[<-hq];exact Int.emod_lt_of_pos p (by omega)
   have hqn:q<b.parts.length:=by omega
   have HQ:=hid hq;clear hq;go_upto_region 10 with fail
   rw[HQ.o];have Vy:=HB.o.rc;obtain⟨L,hLb,Sd,hints⟩:=HB.o.rc.raw;have hLn:L.length=b.parts.length:=by rw[<-hLb,List.length_map]
   rw[hLn]at Sd;have Th:Hid (_/\_):=Sd.news;have Ep:Hid (L.map Prod.fst=b.parts/\L.length=b.parts.length/\∀x∈L,aC w x.2 x.1.fits):=⟨hLb,hLn,hints⟩
   have HST:Hid (∀i,0<=aH b b.parts.length i/\aH b b.parts.length i<=3):=kd HV.o;obtain⟨i0,xH,tn,mU,pS⟩:=info_parts RC;clear hLb hLn Sd hints;obtain⟨C4,J5⟩:=ex1 (w3.alloc (.cells #[.int .i64 b.ao,.int .i64 b.places,.slice (some ⟨blk,off,none⟩) b.parts.length c2,.slice a3 b.apart.length c3,.slice a4 b.ab.length c4] 26));obtain⟨C5,J6⟩:=ex1 (C4.alloc (.cells #[] 37));have CE:=lW J5;have JW:=lW J6;rw[CE]at JW;have HS5:=hid JW;have D4:Hid (aD C5 w3.heap.size 26 #[.int .i64 b.ao,.int .i64 b.places,.slice (some ⟨blk,off,none⟩) b.parts.length c2,.slice a3 b.apart.length c3,.slice a4 b.ab.length c4]):=(dd J6).box (fe J5) (by simp);have K5:Hid (aa [] w3 C5):=(dd J5).trans' (dd J6)
   have HO5:Hid (C5.ownsRow (w3.heap.size+1) 37 6 (.slice (some ⟨w3.heap.size+1,0,none⟩) 0 0) 0 []):=by
    rw[<-CE,<-J6];exact World.ownsRow_made C4 #[] 0 (Nat.le_refl _) (by unfold maxLen;omega) rfl
   have xR:Hid (Below A1.heap.size A1 C5):=jp.o.trans (K5.o.below (by simp) jp.o.size);have HW5:=HW.t xR.o;have y4:=(HZ.o C4 ((jp.o.trans ((dd J5).below (by simp) jp.o.size):Below A1.heap.size A1 C4))).2.2.1;clear z0 z1 z2 z3 z4;obtain⟨z0,z1,z2,z3,z4⟩:=HZ.o w3 jp.o;have y2:=(HZ.o C5 xR.o).2.2.1
   go_upto_region 12 with
    (at_builtin
     refine wpList_append_own _ rfl (.tmp 64) (.tmp 66) 22 rfl (w3.heap.size+1) 37 i0 (.agg #[.string .empty,.int .i64 0,.int .i64 0,.int .i64 0,.int .i64 0,.slice none 0 0]) 6 72 Eh xH tn mU pS rfl (by decide) _ _ _ rfl HO5.o ⟨blk,off,none⟩ b.parts.length c2 (L.flatMap eZ) rfl Th.o.1 (Th.o.2.2 _ HW5.o) Th.o.2.1 (by unfold maxLen;omega) (by omega) (by rw[HS5.o];omega) ?_;intro v' c6 dk fy _;simp only[Nat.zero_add,List.nil_append]at dk;obtain⟨g,cap,rfl,FI,GS,RY,Wv⟩:=oE dk (by omega);have tc:C5.grownBy c6 (some (w3.heap.size+1)):=fy;have Gw:aa [w3.heap.size+1] C5 c6:=aa.grown tc (by simp);have e4:=Gw.box D4.o (by simp);have HGE:Hid (w3.heap.size+1<=g/\b.parts.length<=cap):=⟨FI,Wv⟩
     obtain⟨W7,Se⟩:=ex1 (c6.setCell ⟨w3.heap.size,2,none⟩ (.slice (some ⟨g,0,none⟩) b.parts.length cap));have CP:aa [w3.heap.size] c6 W7:=(by rw[<-Se];exact aa.set _ (by simp) _)
     have CL:Hid (jG W7 b w3.heap.size (w3.heap.size+1) g cap (.slice a3 b.apart.length c3) (.slice a4 b.ab.length c4) L (aH b b.parts.length)):=(by
      refine⟨by rw[<-Se];exact e4.set 2 _,?_,by omega⟩;rw[Aq Ep.o.1];exact bH dk (fun k hk=>by cases hk;exact CP.block g GS (by simp;omega)))
     have HB7:Hid (Below A1.heap.size A1 W7):=(by
      have q1:Below A1.heap.size C5 c6:=Gw.below (by simp;have:=jp.o.size;omega) xR.o.size;have q2:Below A1.heap.size c6 W7:=CP.below (by simp;have:=jp.o.size;omega) (by have:=Gw.size;have:=xR.o.size;omega);exact xR.o.trans (q1.trans q2))
     have ziD:Hid (Below w3.heap.size w3 W7):=(by
      have q1:Below w3.heap.size C5 c6:=Gw.below (by simp) (by rw[HS5.o];omega);have q2:Below w3.heap.size c6 W7:=CP.below (by simp) (by have:=Gw.size;have:=HS5.o;omega);exact(K5.o.below (by simp) (Nat.le_refl _)).trans (q1.trans q2))
     have u2:=e4.cell 2 rfl;have u3:=e4.cz 2;clear dk fy tc Gw CP e4 FI GS RY Wv z0 z1 z2 z3 z4 y2 CE JW)
   obtain⟨sq,Ya⟩:=ex1 (aH b b.parts.length q);have HSQ:=hid Ya;have ziF:0<=sq/\sq<=3:=by rw[<-Ya];exact HST.o q
   obtain⟨-,-,k0⟩:=CL.o.box.c3;have k1:W7.cell? ⟨g,q*6+2,none⟩=some (.int .i64 sq):=by rw[<-Ya];exact iN CL.o.own (by rw[Ep.o.2.1];exact hqn) Ep.o.2.1
   have k2:W7.frozen? ⟨g,q*6+2,none⟩=false:=CL.o.own.frozenAt _;have jK:wrap64 (sq+1)=sq+1:=by unfold wrap64;omega
   clear Ya;go_region
   have QR:L[q]?=some (L[q]'(by rw[Ep.o.2.1];exact hqn)):=List.getElem?_eq_getElem _;obtain⟨W8,Yb⟩:=ex1 ((W7.setCell ⟨g,q*6+2,none⟩ (.int .i64 (min 3 (sq+1)))).drew);have mJ:=CL.o.put QR (min 3 (sq+1));have Of:aa [] (W7.setCell ⟨g,q*6+2,none⟩ (.int .i64 (min 3 (sq+1)))) W8:=by rw[<-Yb];exact aa.of (Below.drewN (Below.refl _ _) 1)
   have CM:Hid (jG W8 b w3.heap.size (w3.heap.size+1) g cap (.slice a3 b.apart.length c3) (.slice a4 b.ab.length c4) L (ie b q)):=by
    have h:=mJ.1.on Of (by simp) (by simp);unfold ie;rw[HSQ.o];exact h
   have HB8:Hid (Below A1.heap.size A1 W8):=by
    refine HB7.o.trans (((mJ.2.trans' (by rw[<-Yb];exact aa.of (Below.drewN (Below.refl _ _) 1))):aa [g] W7 W8).below ?_ HB7.o.size);simp;have:=HGE.o.1;have:=jp.o.size;omega
   rw[Yb];clear k0 k1 k2 u2 u3 mJ Of QR Yb Se J5 J6;have mo:=J2 HV.o HL.o hqn;have hBm:=lH W8 _ (bY b (ie b q)) (CM.o.book HB.o (Kp.of (HW.o.trans (HB8.o.mono HW.o.size))) Ep.o.1 Ep.o.2.2) (qm HS.o _) (KV.o W8 HB8.o);obtain⟨mb,D0⟩:=ex1 (bF (bY b (ie b q)));rw[mo.1,D0]at hBm;have hmn:nb<=mb/\mb<=nb+1:=by have h:=mo.2;rw[D0,X9.o]at h;exact h
   have m0:=CM.o.box.cell 0 rfl;have m1:=CM.o.box.cell 1 rfl;have m2:=CM.o.box.cell 2 rfl;have m3:=CM.o.box.cell 3 rfl;have m4:=CM.o.box.cell 4 rfl;clear mo D0
   go_upto_region 16 with(first
    |(go_at_call 10
      refine hBm.mono ?_;rintro e w4 ⟨rfl,tS⟩;have qb:=HB8.t tS;clear tS hBm m0 m1 m2 m3 m4)
    |(go_at_call 12
      refine(mZ (mb:Int) (nb:Int) ((nb:Int)+1) w4).mono ?_;rintro e wz ⟨h1,h2⟩;rw[h2,h1,decide_eq_true (show(nb:Int)<=(mb:Int) by omega),decide_eq_true (show(mb:Int)<=(nb:Int)+1 by omega)];clear h1 h2))
   obtain⟨z0,z1,z2,z3,z4⟩:=HZ.o w4 qb.o;have hMa:=Ac w4 _ b n HN.o (RT.o w4 qb.o) HV.o
   go_upto_region 17 with(go_at_call 13
                          refine hMa.mono ?_;rintro e w5 ⟨NT,sy⟩;have xR:=qb.t sy;have HRE:Hid (_\/_):=NT;clear NT sy hMa z0 z1 z2 z3 z4;rcases HRE.o with⟨hM,rfl⟩|⟨o,ho,vl,rfl,X7⟩)
   .have Ph:nb=0:=by rw[<-X9.o];exact J4 HV.o hM
    subst Ph;clear hM HRE;go_wp2_with(go_at_call 9;refine(ir _).mono ?_;rintro e w6 ⟨rfl,_⟩)
    go_ret;rfl
   .have HO:=hid ho;have gS:=Ge HV.o ho;have vK:o.length=b.places.toNat:=(gq ho).1;have XW:=hid vK;have HOR:Hid (∀(j:Nat) (x:Int),o[j]?=some x->0<=x/\x<b.parts.length):=fun j x hx=>by have:=gS.range j x (List.getElem?_eq_some_iff.1 hx).1 hx;omega
    have HVL:=hid X7;obtain⟨xa,xc,qr,Yc⟩:=X7;obtain rfl:=qr.eq;have Nm:=Gq w5 _ _ b o (RT.o w5 xR.o) HS.o (KV.o w5 xR.o) HVL.o;have Sg:aJ b o=0:=bZ.2 gS;rw[Sg,(fh HV.o HL.o).1]at Nm;obtain⟨la,KK⟩:=ex1 (sV b o)
    have HLA:Hid (iM b (aP b (aB b)) (aj o)=la):=by
     rw[<-KK];unfold Hid sV;rw[Sg,(fh HV.o HL.o).1,if_pos rfl]
    rw[KK]at Nm;obtain⟨z0,z1,z2,z3,z4⟩:=HZ.o w5 xR.o;clear ho gS vK qr Yc KK Sg HRE
    go_upto_region 22 with(go_at_call 14
                           refine Nm.mono ?_;rintro e w6 ⟨rfl,hb6⟩;have G5:=xR.t hb6;have Sh:=hid hb6;clear hb6 Nm z0 z1 z2 z3 z4)
    obtain⟨z0,z1,z2,z3,z4⟩:=HZ.o w6 G5.o;have ziI:=HB.o.rc;obtain⟨Yd,J5⟩:=ex1 (w6.alloc (.cells #[.int .i64 b.ao,.int .i64 b.places,.slice (some ⟨blk,off,none⟩) b.parts.length c2,.slice a3 b.apart.length c3,.slice a4 b.ab.length c4] 26));obtain⟨No,J6⟩:=ex1 (Yd.alloc (.cells #[] 37));have CE:=lW J5;have JW:=lW J6;rw[CE]at JW;have Si:=hid JW;have D45:Hid (aD No w6.heap.size 26 #[.int .i64 b.ao,.int .i64 b.places,.slice (some ⟨blk,off,none⟩) b.parts.length c2,.slice a3 b.apart.length c3,.slice a4 b.ab.length c4]):=(dd J6).box (fe J5) (by simp);have K55:Hid (aa [] w6 No):=(dd J5).trans' (dd J6)
    have zcE:Hid (No.ownsRow (w6.heap.size+1) 37 6 (.slice (some ⟨w6.heap.size+1,0,none⟩) 0 0) 0 []):=by
     rw[<-CE,<-J6];exact World.ownsRow_made Yd #[] 0 (Nat.le_refl _) (by unfold maxLen;omega) rfl
    have J7:Hid (Below A1.heap.size A1 No):=G5.o.trans (K55.o.below (by simp) G5.o.size);have zcF:=HW.t J7.o;have y4:=(HZ.o Yd ((G5.o.trans ((dd J5).below (by simp) G5.o.size):Below A1.heap.size A1 Yd))).2.2.1;clear z0 z1 z2 z3 z4;obtain⟨z0,z1,z2,z3,z4⟩:=HZ.o w6 G5.o;have y2:=(HZ.o No J7.o).2.2.1
    go_upto_region 24 with
     (at_builtin
      refine wpList_append_own _ rfl (.tmp 123) (.tmp 125) 22 rfl (w6.heap.size+1) 37 i0 (.agg #[.string .empty,.int .i64 0,.int .i64 0,.int .i64 0,.int .i64 0,.slice none 0 0]) 6 72 Eh xH tn mU pS rfl (by decide) _ _ _ rfl zcE.o ⟨blk,off,none⟩ b.parts.length c2 (L.flatMap eZ) rfl Th.o.1 (Th.o.2.2 _ zcF.o) Th.o.2.1 (by unfold maxLen;omega) (by omega) (by rw[Si.o];omega) ?_;intro v' O4 dk fy _;simp only[Nat.zero_add,List.nil_append]at dk;obtain⟨g5,J8,rfl,FI,GS,RY,Wv⟩:=oE dk (by omega);have tc:No.grownBy O4 (some (w6.heap.size+1)):=fy;have Gw:aa [w6.heap.size+1] No O4:=aa.grown tc (by simp);have e4:=Gw.box D45.o (by simp);have zcG:Hid (w6.heap.size+1<=g5/\b.parts.length<=J8):=⟨FI,Wv⟩
      obtain⟨O5,Se⟩:=ex1 (O4.setCell ⟨w6.heap.size,2,none⟩ (.slice (some ⟨g5,0,none⟩) b.parts.length J8));have CP:aa [w6.heap.size] O4 O5:=(by rw[<-Se];exact aa.set _ (by simp) _)
      have CL5:Hid (jG O5 b w6.heap.size (w6.heap.size+1) g5 J8 (.slice a3 b.apart.length c3) (.slice a4 b.ab.length c4) L (aH b b.parts.length)):=(by
       refine⟨by rw[<-Se];exact e4.set 2 _,?_,by omega⟩;rw[Aq Ep.o.1];exact bH dk (fun k hk=>by cases hk;exact CP.block g5 GS (by simp;omega)))
      have Ww:Hid (Below A1.heap.size A1 O5):=(by
       have q1:Below A1.heap.size No O4:=Gw.below (by simp;have:=G5.o.size;omega) J7.o.size;have q2:Below A1.heap.size O4 O5:=CP.below (by simp;have:=G5.o.size;omega) (by have:=Gw.size;have:=J7.o.size;omega);exact J7.o.trans (q1.trans q2))
      have Wy:Hid (Below w6.heap.size w6 O5):=(by
       have q1:Below w6.heap.size No O4:=Gw.below (by simp) (by rw[Si.o];omega);have q2:Below w6.heap.size O4 O5:=CP.below (by simp) (by have:=Gw.size;have:=Si.o;omega);exact(K55.o.below (by simp) (Nat.le_refl _)).trans (q1.trans q2))
      have u2:=e4.cell 2 rfl;have u3:=e4.cz 2;clear dk fy tc Gw CP e4 FI GS RY Wv z0 z1 z2 z3 z4 y2 CE JW)
    have zcH:Hid (Below w6.heap.size w6 O5):=Wy.o;have HX6:=Sh.t zcH.o;have hxc:o.length<=xc:=by obtain⟨_,_,h,_⟩:=HVL.o;have h1:=h.eq;simp only[Value.slice.injEq]at h1;obtain⟨_,_,rfl⟩:=h1;exact h.le
    have h0r:ak (aH b b.parts.length) (aj o) 0=some (aH b b.parts.length):=rfl;have HN4:Hid (o.length<=4):=by unfold Hid;rw[XW.o];omega
    clear Se J5 J6 u2 u3;go_wp2_with fail
    go_loopw [20] (fun i wr=>∃(k:Nat) (r:Nat->Int),k<=o.length/\i=.int .i64 k/\Hid (ak (aH b b.parts.length) (aj o) k=some r)/\Hid (jG wr b w6.heap.size (w6.heap.size+1) g5 J8 (.slice a3 b.apart.length c3) (.slice a4 b.ab.length c4) L r)/\Hid (aa [g5] O5 wr)) (fun i _=>o.length-(intOf i).toNat)
    case atStart=>exact⟨0,_,Nat.zero_le _,rfl,h0r,CL5.o,aa.refl _ _⟩
    case round=>
     obtain⟨k,r,hk,rfl,hr,mJ,GV⟩:=hrel;have ziN:=zcG.o.1;have h6s:=G5.o.size;have TJ:=HW.o.size;have GW:Hid (Below A1.heap.size A1 wr):=Ww.o.trans (GV.o.below (by simp;omega) Ww.o.size);have HX5:Hid (Below w5.heap.size w5 wr):=HX6.o.trans (GV.o.below (by simp;have:=Sh.o.size;omega) HX6.o.size);have xB:=cB (fun i=>(HST.o i).1) k r hr.o;by_cases ar:k<o.length
     .obtain⟨xa',xc',qr,Yc⟩:=HVL.o;have WA:=qr.eq;simp only[Value.slice.injEq,true_and]at WA;obtain⟨rfl,rfl⟩:=WA;obtain⟨⟨xb,xf,sp⟩,j,rfl,hj,x0⟩:=qr.elem Yc ar;obtain rfl:sp=none:=x0.1;have hjr:=HOR.o k j hj;obtain⟨j,rfl⟩:∃jn:Nat,j=(jn:Int):=⟨j.toNat,by omega⟩
      have hjn:j<b.parts.length:=by omega
      have gS:aj o k=(j:Int):=by unfold aj;rw[hj];rfl
      have q0:=(x0.later (Kp.of HX5.o)).2;obtain⟨-,-,q2⟩:=mJ.o.box.c3;obtain⟨rj,RJ⟩:=ex1 (r j);have ziP:0<=rj/\rj<=3:=by rw[<-RJ];have h1:=xB.1 j;have h2:=xB.2 j;have h3:=iq (aj o) k j;have:=HST.o j;omega
      have q3:wr.cell? ⟨g5,j*6+2,none⟩=some (.int .i64 rj):=by rw[<-RJ];exact iN mJ.o.own (by rw[Ep.o.2.1];exact hjn) Ep.o.2.1
      have q4:wr.frozen? ⟨g5,j*6+2,none⟩=false:=mJ.o.own.frozenAt _;have mT:k<4:=by have:=HN4.o;omega
      have hki:(k:Int)<(o.length:Int):=by omega
      have YC:(j:Int)<(b.parts.length:Int):=by omega
      have jK:wrap64 (rj-1)=rj-1:=by unfold wrap64;omega
      have QR:L[j]?=some (L[j]'(by rw[Ep.o.2.1];exact hjn)):=List.getElem?_eq_getElem _;obtain⟨W9,hW9⟩:=ex1 ((wr.setCell ⟨g5,j*6+2,none⟩ (.int .i64 (rj-1))).drew);have hpu:=mJ.o.put QR (rj-1)
      have CN:Hid (jG W9 b w6.heap.size (w6.heap.size+1) g5 J8 (.slice a3 b.apart.length c3) (.slice a4 b.ab.length c4) L (upd r j (rj-1))):=by
       rw[<-hW9];exact hpu.1.on (O:=[]) (aa.of (Below.drewN (Below.refl _ _) 1)) (by simp) (by simp)
      have XY:Hid (aa [g5] wr W9):=hpu.2.trans' (by rw[<-hW9];exact aa.of (Below.drewN (Below.refl _ _) 1))
      have OX:Hid (¬rj-1<0->ak (aH b b.parts.length) (aj o) (k+1)=some (upd r j (rj-1))):=fun hn=>by
       rw[ak,hr.o];simp only;rw[gS,Int.toNat_natCast,RJ,if_neg hn]
      have p0:W9.cell? ⟨xb,xf+k,none⟩=some (.int .i64 j):=(x0.later (Kp.of (HX5.o.trans (XY.o.below (by simp;have:=Sh.o.size;omega) HX5.o.size)))).2;obtain⟨-,-,p2⟩:=CN.o.box.c3
      have p3:W9.cell? ⟨g5,j*6+2,none⟩=some (.int .i64 (rj-1)):=by
       have h:=iN CN.o.own (i:=j) (by rw[Ep.o.2.1];exact hjn) Ep.o.2.1;rwa [aV]at h
      clear qr Yc hj hjr gS x0 RJ xB hpu QR;go_wp2_with fail
      go_region
      clear q0 q2 q3 q4 hW9;by_cases RK:rj-1<0
      .go_upto_region 28 with fail
       go_quiet (fail)
       go_wp2_with(go_at_call 9;refine(ir _).mono ?_;rintro e w8 ⟨rfl,_⟩)
       go_ret;rfl
      .go_upto_region 28 with fail
       go_quiet (fail)
       go_wp2_with fail
       go_roundw
       case rel=>exact⟨k+1,_,by omega,by go_num,OX.o (by omega),CN.o.on (O:=[]) (aa.of (Below.drewN (Below.refl _ _) _)) (by simp) (by simp),GV.o.trans' (XY.o.trans' (aa.of (Below.drewN (Below.refl _ _) _)))⟩
       case measure=>simp[intOf];omega
     .have ek:k=o.length:=by omega
      subst ek;have Sy:=hr.o;rw[XW.o]at Sy;have Ye:=J3 HV.o HL.o HO.o Sy;have WC:=lH wr _ (bY b r) (mJ.o.book HB.o (Kp.of (HW.o.trans (GW.o.mono HW.o.size))) Ep.o.1 Ep.o.2.2) (qm HS.o _) (KV.o wr GW.o);obtain⟨eb,Yf⟩:=ex1 (bF (bY b r));rw[Ye.1,Yf]at WC;have hle:eb<=nb:=by have h:=Ye.2.1;rwa [Yf,X9.o]at h
      have tF:la=2->eb+1<=nb:=fun h=>by have h2:=Ye.2.2 (by rw[HLA.o,h]);rwa [Yf,X9.o]at h2
      have m0:=mJ.o.box.cell 0 rfl;have m1:=mJ.o.box.cell 1 rfl;have m2:=mJ.o.box.cell 2 rfl;have m3:=mJ.o.box.cell 3 rfl;have m4:=mJ.o.box.cell 4 rfl;clear Sy Ye Yf xB;by_cases KK:la=2
      .have ziQ:=tF KK;subst KK;clear tF
       go_wp2_with(first
        |(go_at_call 10
          refine WC.mono ?_;rintro e w8 ⟨rfl,hb8⟩;clear hb8 WC m0 m1 m2 m3 m4)
        |(go_at_call 9;refine(ir _).mono ?_;rintro e w8 ⟨rfl,_⟩))
       go_ret;rfl
      .clear tF
       go_wp2_with(first
        |(go_at_call 10
          refine WC.mono ?_;rintro e w8 ⟨rfl,hb8⟩;clear hb8 WC m0 m1 m2 m3 m4)
        |(go_at_call 9;refine(ir _).mono ?_;rintro e w8 ⟨rfl,_⟩))
       go_ret;rfl
end Go.Proofs.Cz
namespace Go.Proofs.Cz
open Go.Conc Go.aq
def S1 (n:Nat):Bool:=(Nat.blt n 196&&!([0,1,2,9,86,167,168,169,170,171,172,173,174,175,176,177,178,179,180,181,182,191,192,193].contains n))||Nat.beq n JK||Nat.beq n (JK+10)
theorem Sj:bc ZP:=fun t i v h1 h2=>Cw.ib t i v h1 h2
theorem J9:aI ZP:=fun t i u h=>Cw.dA t i u h
noncomputable def oe (lo n:Nat):Bool:=(List.range n).all fun i=>!S1 (lo+i)||Nat.beq (lo+i) 30||(match Tryz.funcs[lo+i]? with
 |some fn=>(match fn.body with|some c=>codeOk ZP S1 c&&!(fn.name== "runtime.NumGoroutine")|none=>false)
 |none=>false)
theorem ZY:oe 0 40=true:=by kernel_rfl
theorem ZZ:oe 40 60=true:=by kernel_rfl
theorem Z5:oe 100 95=true:=by kernel_rfl
theorem sg {lo n i:Nat} (h:oe lo n=true) (h1:lo<=i) (h2:i<lo+n) (hs:S1 i=true) (oV:i≠30):∃fn c,Tryz.funcs[i]? =some fn/\fn.body=some c/\codeOk ZP S1 c=true/\fn.name≠ "runtime.NumGoroutine" :=by
 have:=List.all_eq_true.1 h (i-lo) (by simp;omega);rw[show lo+(i-lo)=i by omega,hs,show Nat.beq i 30=false by cases hq:Nat.beq i 30 with|false=>rfl|true=>exact absurd (Nat.eq_of_beq_eq_true hq) oV]at this;simp only[Bool.not_true,Bool.false_or]at this;cases hf:Tryz.funcs[i]? with
 |none=>rw[hf]at this;cases this
 |some fn=>
  rw[hf]at this;simp only at this;cases tI:fn.body with
  |none=>rw[tI]at this;cases this
  |some c=>
   rw[tI]at this;simp only[Bool.and_eq_true,Bool.not_eq_true',beq_eq_false_iff_ne]at this;exact⟨fn,c,rfl,tI,this.1,this.2⟩
theorem Er {f:Nat} (h:S1 f=true):f<196\/f=JK\/f=JK+10:=by
 simp only[S1,Bool.or_eq_true,Bool.and_eq_true]at h;rcases h with(⟨h,_⟩|h)|h
 .exact .inl (by simpa using h)
 .exact .inr (.inl (Nat.eq_of_beq_eq_true h))
 .exact .inr (.inr (Nat.eq_of_beq_eq_true h))
theorem O6 {f:Nat} (h1:196<=f) (h2:f≠JK) (h3:f≠JK+10):S1 f=false:=by
 cases h:S1 f with
 |false=>rfl
 |true=>rcases Er h with h|h|h<;>omega
theorem vy:ZP.funcs.size=195:=by rw[Tz.ou];unfold Tz.funcs;rw[Array.size_setIfInBounds,Array.size_setIfInBounds,Tz.size]
theorem td:ZP.globals.size=1:=by kernel_rfl
def X1:Code->Code|.seq a _=>a|_=>.skip
def X2:Code->Code|.seq _ b=>b|_=>.skip
noncomputable def dP:Code:=(Tryz.f30.body).getD .skip
theorem Gx:dP=.seq (X1 dP) (.seq (X1 (X2 dP)) (.seq (X1 (X2 (X2 dP))) (.seq (X1 (X2 (X2 (X2 dP)))) (X2 (X2 (X2 (X2 dP))))))):=rfl
theorem Ka:Tz.cut (.refuse "") dP=.seq (X1 dP) (.seq (X1 (X2 dP)) (.seq (X1 (X2 (X2 dP))) (.seq (X1 (X2 (X2 (X2 dP)))) (.refuse "")))):=rfl
theorem Np:(codeOk ZP S1 (X1 dP)&&codeOk ZP S1 (X1 (X2 dP))&&codeOk ZP S1 (X1 (X2 (X2 dP)))&&codeOk ZP S1 (X1 (X2 (X2 (X2 dP)))))=true:=by kernel_rfl
theorem zcN {H:Code->Code->Prop} (hn:∀a b,¬H a b):CR ZP S1 H (Tz.cut (.refuse "") dP) dP:=by
 have h:=Np;simp only[Bool.and_eq_true]at h;obtain⟨⟨⟨h1,h2⟩,h3⟩,h4⟩:=h;rw[Ka];refine cast (congrArg (CR ZP S1 H _) Gx.symm) ?_;exact .seq (.same h1 (.inr hn)) (.seq (.same h2 (.inr hn)) (.seq (.same h3 (.inr hn)) (.seq (.same h4 (.inr hn)) (.refuse _ _ hn))))
theorem Es:Closed ZP Tryz.funcs S1 Ky where
 ib:=Sj
 dA:=J9
 Tq:=fun _=>by kernel_rfl
 size:=by rw[vy,Tz.size]
 vK:=fun f hf=>by
  rw[vy,td];refine⟨fun _=>?_,fun _ a b h=>h⟩;have hJ:JK=1000000:=rfl;rcases Er hf with h|h|h<;>refine O6 ?_ ?_ ?_<;>omega
 body:=fun f hf=>by
  have hJ:JK=1000000:=rfl;rcases Er hf with h|h|h
  .by_cases h9:f=195
   .subst h9;exact .inl ⟨Array.getElem?_eq_none (by rw[vy];omega),Array.getElem?_eq_none (by rw[Tz.size];omega)⟩
   .by_cases oV:f=30
    .subst oV;exact .inr ⟨Tz.f30,Tryz.f30,_,dP,ZF30,Tryz.func30,rfl,rfl,zcN fun _ _ hh=>hh,by decide,by decide,rfl,rfl⟩
    obtain⟨fn,c,h1,h2,h3,h4⟩:∃fn c,Tryz.funcs[f]? =some fn/\fn.body=some c/\codeOk ZP S1 c=true/\fn.name≠ "runtime.NumGoroutine" :=by
     by_cases l1:f<40
     .exact sg ZY (by omega) (by omega) hf oV
     .by_cases l2:f<100
      .exact sg ZZ (by omega) (by omega) hf oV
      .exact sg Z5 (by omega) (by omega) hf oV
    have te:9≠f:=fun e=>by subst e;cases hf
    exact .inr ⟨fn,fn,c,c,(Tz.same f ⟨te,Ne.symm oV⟩).trans h1,h1,h2,h2,.same h3 (.inr fun _ _ hh=>hh),h4,h4,rfl,rfl⟩
  .exact .inl ⟨Array.getElem?_eq_none (by rw[vy];omega),Array.getElem?_eq_none (by rw[Tz.size];omega)⟩
  .exact .inl ⟨Array.getElem?_eq_none (by rw[vy];omega),Array.getElem?_eq_none (by rw[Tz.size];omega)⟩
theorem Nq:S1 (ZP.funcs.size+ZP.globals.size)=false:=by rw[vy,td];exact O6 (by omega) (by decide) (by decide)
theorem WD:ac ZP Tryz.funcs=Tryz.prog:=rfl
end Go.Proofs.Cz
