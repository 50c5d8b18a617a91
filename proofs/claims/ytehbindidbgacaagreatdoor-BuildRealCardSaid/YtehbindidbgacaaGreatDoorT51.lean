/- A part. Conditions: none. -/
import Derived.Test.YtehbindidbgacaaGreatDoorT49
import Derived.Test.YtehbindidbgacaaGreatDoorT50
set_option linter.all false
set_option maxHeartbeats 8000000
set_option maxRecDepth 100000
namespace Go.Proofs.Cz
open Go.RowKit Go.Shelf
abbrev bookC (b:an) (v2 v3 v4:Value):Array Value:=#[.int .i64 b.ah,.int .i64 b.places,v2,v3,v4]
theorem real_machine {b:an} (hv:Valid b) {m:Nat->Int} (h:m∈aK b):cN b (aQ b.places.toNat m)/\ac (aQ b.places.toNat m)=m:=
 ⟨py hv (ik h).1,(ik h).2⟩
theorem law3 (w:World) (v vp:Value) (b:an) (l:List Int) (p n:Int) (Qr:0<=p) (Xs:p<256) (hn:0<=n/\n<65536) (hb:ap w v b) (hl:WordsAt w vp l) (hc:Chk w):
 Calls ZP 3 #[v,vp,.int .u8 p,.int .u16 n] w fun e _=>e=.returned (.bool true):=by
 have HB:Hid (ap w v b):=hb;have HC:Hid (Chk w):=hc;have HP:Hid (WordsAt w vp l):=hl;have HN:Hid (0<=n/\n<65536):=hn;obtain⟨a2,c2,a3,c3,a4,c4,rfl⟩:=hb.et;obtain⟨A1,ba⟩:∃A,w.alloc (.cells #[.int .i64 b.ah,.int .i64 b.places,.slice a2 b.parts.length c2,.slice a3 b.apart.length c3,.slice a4 b.aa.length c4] 26)=A:=⟨_,rfl⟩
 have B1:Hid (aC A1 w.heap.size 26 #[.int .i64 b.ah,.int .i64 b.places,.slice a2 b.parts.length c2,.slice a3 b.apart.length c3,.slice a4 b.aa.length c4]):=gq ba;have HW:Hid (Below w.heap.size w A1):=(dV ba).below (by simp) (Nat.le_refl _)
 have HZ:Hid (∀X:World,Below A1.heap.size A1 X->X.cell? ⟨w.heap.size,0,none⟩=some (.int .i64 b.ah)/\X.cell? ⟨w.heap.size,1,none⟩=some (.int .i64 b.places)/\X.cell? ⟨w.heap.size,2,none⟩=some (.slice a2 b.parts.length c2)/\X.cell? ⟨w.heap.size,3,none⟩=some (.slice a3 b.apart.length c3)/\X.cell? ⟨w.heap.size,4,none⟩=some (.slice a4 b.aa.length c4)):=fun X hX=>by
  have BX:=B1.out.below hX B1.out.lt;exact⟨BX.cell 0 rfl,BX.cell 1 rfl,BX.cell 2 rfl,BX.cell 3 rfl,BX.cell 4 rfl⟩
 obtain⟨z0,z1,z2,z3,z4⟩:=HZ.out A1 (Below.refl _ _);have hF:=LS A1 _ b (HB.out.later (Kp.of HW.out));clear hb hc hl hn;go_enter ZF3,Tryz.ntmps3
 go_wp2_with fail
 refine hF.mono ?_;rintro e w1 ⟨⟨r,rfl,hr⟩,bi⟩;have db:Hid (Below A1.heap.size A1 w1):=bi;have tT:Hid (Below w.heap.size w w1):=HW.out.trans (bi.mono HW.out.size);clear bi ba z0 z1 z2 z3 z4 hF;cases r with
 |false=>
  clear hr;go_wp2_with(go_at_call 7;refine(pE _).mono ?_;rintro e w2 ⟨rfl,_⟩)
  go_ret;rfl
 |true=>
  obtain⟨_,hv⟩:=hr rfl;have So:Hid (Valid b):=hv;clear hr hv;obtain⟨z0,z1,z2,z3,z4⟩:=HZ.out w1 db.out;have Qy:=timeOf_true So.out l;obtain⟨t,FQ⟩:∃t,timeOf b l=t:=⟨_,rfl⟩
  rw[FQ]at Qy;have VX:Hid (sN b t):=Qy;have VY:Hid (∀i,0<=t i/\t i<=20):=Qy.range So.out;have SA:=drawn_any w1 _ vp b l (HB.out.later (Kp.of tT.out)) So.out (HP.out.later (Kp.of tT.out));rw[FQ]at SA;clear FQ Qy
  go_upto_region 4 with(go_at_call 8
                        refine SA.mono ?_;rintro e w2 ⟨⟨vt,rfl,hvt⟩,fP⟩;have gE:Hid (Below A1.heap.size A1 w2):=db.out.trans (fP.mono db.out.size);have qY:Hid (Below w.heap.size w w2):=HW.out.trans (gE.out.mono HW.out.size);have VZ:Hid (w2.ownsRow w1.heap.size 3 1 vt (listT b.parts.length t).length ((listT b.parts.length t).map (Value.int .i64))):=hvt;clear fP hvt SA z0 z1 z2 z3 z4;obtain⟨z0,z1,z2,z3,z4⟩:=HZ.out w2 gE.out)
  have htr:=truly_any w w2 _ vt b t HB.out qY.out So.out VX.out (ao.dc VZ.out);obtain⟨B,Sp⟩:∃B,qj b t=B:=⟨_,rfl⟩
  have HEB:Hid (qj b t=B):=Sp;rw[Sp]at htr;obtain⟨L,me⟩:∃L,aD B (aF B)=L:=⟨_,rfl⟩
  have mi:Hid (aD B (aF B)=L):=me
  have Cq:Hid (t∈L):=by
   have:=FJ So.out VX.out;rw[Sp,me]at this;exact this
  have hv:Valid B:=by rw[<-Sp];exact z6 So.out VX.out
  have HV:Hid (Valid B):=hv;have ePL:Hid (b.parts.length=B.parts.length):=by rw[<-Sp];rfl
  have HL:Hid (L≠ []):=List.ne_nil_of_mem Cq.out;have hll:L.length<=1024:=by rw[<-me];exact ow hv _
  have IE:=hv.parts.many;have t8:=hv.places;have U7:=hv.ah;have fp:0<L.length:=List.length_pos_iff.2 HL.out;rw[ePL.out]at VZ;clear Sp me hv;go_wp2_with fail
  refine htr.mono ?_;rintro e w3 ⟨⟨u,rfl,hu⟩,Fe⟩;have eM:Hid (Below A1.heap.size A1 w3):=gE.out.trans (Fe.mono gE.out.size);have lJ:Hid (Below w2.heap.size w2 w3):=Fe;have hu0:=hu w3 (fun _ _ _=>rfl);obtain⟨d2,e2,d3,e3,d4,e4,rfl⟩:=hu0.et;have HU:Hid (∀X:World,(∀k:Nat,k<w3.heap.size->k<w.heap.size\/w2.heap.size<=k->X.heap[k]?=w3.heap[k]?)->ap X (.agg #[.int .i64 B.ah,.int .i64 B.places,.slice d2 B.parts.length e2,.slice d3 B.apart.length e3,.slice d4 B.aa.length e4]) B):=hu;clear Fe hu hu0 htr z0 z1 z2 z3 z4;have BX:Hid (aC w3 w.heap.size 26 #[.int .i64 b.ah,.int .i64 b.places,.slice a2 b.parts.length c2,.slice a3 b.apart.length c3,.slice a4 b.aa.length c4]):=B1.out.below eM.out B1.out.lt;obtain⟨z0,z1,z2,z3,z4⟩:=HZ.out w3 eM.out;have f0:=BX.out.aI 0;have f1:=BX.out.aI 1;have f2:=BX.out.aI 2;have f3:=BX.out.aI 3;have f4:=BX.out.aI 4;go_upto_region 5 with fail
  obtain⟨A5,Sj⟩:∃V,((((w3.setCell ⟨w.heap.size,0,none⟩ (.int .i64 B.ah)).setCell ⟨w.heap.size,1,none⟩ (.int .i64 B.places)).setCell ⟨w.heap.size,2,none⟩ (.slice d2 B.parts.length e2)).setCell ⟨w.heap.size,3,none⟩ (.slice d3 B.apart.length e3)).setCell ⟨w.heap.size,4,none⟩ (.slice d4 B.aa.length e4)=V:=⟨_,rfl⟩
  obtain⟨Js,Jt⟩:=VE (.int .i64 B.ah) (.int .i64 B.places) (.slice d2 B.parts.length e2) (.slice d3 B.apart.length e3) (.slice d4 B.aa.length e4) BX.out;rw[Sj]at Js Jt⊢;have B5:Hid (aC A5 w.heap.size 26 #[.int .i64 B.ah,.int .i64 B.places,.slice d2 B.parts.length e2,.slice d3 B.apart.length e3,.slice d4 B.aa.length e4]):=Js;have rT:=B1.out.lt;have Vo:=gE.out.size;have zcb:=db.out.size;have HW5:Hid (Below w.heap.size w A5):=(HW.out.trans (eM.out.mono HW.out.size)).trans (Jt.below (by simp) (by have:=eM.out.size;have:=HW.out.size;omega));have XQ:Hid (ap A5 (.agg #[.int .i64 B.ah,.int .i64 B.places,.slice d2 B.parts.length e2,.slice d3 B.apart.length e3,.slice d4 B.aa.length e4]) B):=HU.out A5 fun k hk h=>Jt.block k hk (by simp;omega)
  have zcc:ao A5 vt (listT B.parts.length t):=ao.dc (aY VZ.out fun k hk=>by
   have h1:=aE VZ.out k hk;exact(Jt.block k (Nat.lt_of_lt_of_le h1.2 lJ.out.size) (by simp;omega)).trans (lJ.out.block k h1.2))
  have HC5:Hid (Chk A5):=HC.out.later HW5.out
  have xD:Hid (∀X:World,Below A5.heap.size A5 X->X.cell? ⟨w.heap.size,0,none⟩=some (.int .i64 B.ah)/\X.cell? ⟨w.heap.size,1,none⟩=some (.int .i64 B.places)/\X.cell? ⟨w.heap.size,2,none⟩=some (.slice d2 B.parts.length e2)/\X.cell? ⟨w.heap.size,3,none⟩=some (.slice d3 B.apart.length e3)/\X.cell? ⟨w.heap.size,4,none⟩=some (.slice d4 B.aa.length e4)):=fun X hX=>by
   have BX:=B5.out.below hX B5.out.lt;exact⟨BX.cell 0 rfl,BX.cell 1 rfl,BX.cell 2 rfl,BX.cell 3 rfl,BX.cell 4 rfl⟩
  obtain⟨ta,tc,sV,FQ⟩:=zcc;obtain rfl:=sV.eq;rw[listT_len]at sV⊢;have HVI:Hid (ao A5 (.slice ta B.parts.length tc) (listT B.parts.length t)):=⟨ta,tc,by rw[listT_len];exact sV,FQ⟩
  obtain⟨q,hq⟩:∃q:Nat,p%(B.parts.length:Int)=(q:Int):=⟨(p%B.parts.length).toNat,by have:=Int.emod_nonneg p (show(B.parts.length:Int)≠0 by omega);omega⟩
  have hqp:(q:Int)<B.parts.length:=by rw[<-hq];exact Int.emod_lt_of_pos p (by omega)
  have hqn:q<B.parts.length:=by omega
  have HQ:Hid (p%(B.parts.length:Int)=(q:Int)):=hq;obtain⟨VV,y,VW,hy,yy⟩:=bA.elem (l:=listT B.parts.length t) (by rw[listT_len];exact sV) FQ (show q<(listT B.parts.length t).length by rw[listT_len];exact hqn);subst VW;obtain⟨tb,Jr,ts⟩:=VV;obtain rfl:ts=none:=yy.1;rw[listT_get t hqn]at hy;cases hy;have HTQ:Hid (∀X:World,Below A5.heap.size A5 X->X.cell? ⟨tb,Jr+q,none⟩=some (.int .i64 (t q))):=fun X hX=>(yy.later (Kp.of hX)).2;have CI:=sV.le;have vi:Hid (∀X:World,Below A5.heap.size A5 X->ap X (.agg #[.int .i64 B.ah,.int .i64 B.places,.slice d2 B.parts.length e2,.slice d3 B.apart.length e3,.slice d4 B.aa.length e4]) B):=fun X hX=>XQ.out.later (Kp.of hX);have Ci:Hid (∀X:World,Below A5.heap.size A5 X->Chk X):=fun X hX=>HC5.out.later hX;have Q2:Hid (∀X:World,Below A5.heap.size A5 X->gW X (.agg #[.int .i64 B.ah,.int .i64 B.places,.slice d2 B.parts.length e2,.slice d3 B.apart.length e3,.slice d4 B.aa.length e4]) (aF B)):=fun X hX=>fk (vi.out X hX) HV.out;have HVX:Hid (∀X:World,Below A5.heap.size A5 X->ao X (.slice (some ⟨tb,Jr,none⟩) B.parts.length tc) (listT B.parts.length t)):=fun X hX=>HVI.out.later (Kp.of hX);clear HU VZ HVI BX B1 HZ Js Jt Sj sV FQ yy hq z0 z1 z2 z3 z4 f0 f1 f2 f3 f4 rT Vo zcb db gE eM lJ tT qY HW;obtain⟨z0,z1,z2,z3,z4⟩:=xD.out A5 (Below.refl _ _);obtain⟨ms,N7⟩:∃ms,(aB B L).length=ms:=⟨_,rfl⟩
  have N3:Hid ((aB B L).length=ms):=N7;have zh9:ms<=625:=by rw[<-N7];exact oA HV.out L
  clear N7;go_upto_region 6 with fail
  rw[HQ.out]
  go_upto_region 10 with(first
   |(go_at_call 10
     have hH:=tZ A5 _ B XQ.out HV.out HC5.out;rw[mi.out]at hH;refine hH.mono ?_;rintro e w6 ⟨rfl,xC⟩;have mj:Hid (Below A5.heap.size A5 w6):=xC;clear xC hH z0 z1 z2 z3 z4;obtain⟨z0,z1,z2,z3,z4⟩:=xD.out w6 mj.out)
   |(go_at_call 11
     refine(clash_any w6 _ B (vi.out w6 mj.out) HV.out (Ci.out w6 mj.out) (by rw[mi.out];exact HL.out)).mono ?_;rintro e w7 ⟨rfl,tg⟩;have kJ:Hid (Below A5.heap.size A5 w7):=mj.out.trans (tg.mono mj.out.size);clear tg z0 z1 z2 z3 z4;obtain⟨z0,z1,z2,z3,z4⟩:=xD.out w7 kJ.out)
   |(go_at_call 12
     have hT:=FB w7 _ B q (vi.out w7 kJ.out) HV.out (Ci.out w7 kJ.out) hqn;rw[mi.out]at hT;refine hT.mono ?_;rintro e w8 ⟨⟨hL,rfl⟩|⟨_,vx,rfl,hx⟩,hb8⟩
     .exact absurd hL HL.out
     have Sq:Hid (Below A5.heap.size A5 w8):=kJ.out.trans (hb8.mono kJ.out.size);have HX8:Hid (ao w8 vx (je L q)):=hx;clear hb8 hT hx z0 z1 z2 z3 z4;obtain⟨z0,z1,z2,z3,z4⟩:=xD.out w8 Sq.out)
   |(go_at_call 13
     have hS:=Fi w8 _ B (aF B) (vi.out w8 Sq.out) HV.out (Ci.out w8 Sq.out) (Q2.out w8 Sq.out);rw[mi.out]at hS;unfold NW at hS;rw[N3.out]at hS;refine hS.mono ?_;rintro e w9 ⟨⟨hL,rfl⟩|⟨_,rfl⟩,hb9⟩
     .exact absurd hL HL.out
     have HB9:Hid (Below A5.heap.size A5 w9):=Sq.out.trans (hb9.mono Sq.out.size);have My:Hid (Below w8.heap.size w8 w9):=hb9;clear hb9 hS z0 z1 z2 z3 z4;obtain⟨z0,z1,z2,z3,z4⟩:=xD.out w9 HB9.out))
  have J1:=HB9;rcases Classical.em (aB B L=[])with hS|hS
  case' inl=>
   have Sa:Hid (aB B L=[]):=hS;obtain rfl:ms=0:=by rw[<-N3.out,hS];rfl
   clear hS
   go_upto_region 13 with(first
    |(go_at_call 14
      have hC:=sK w9 _ B (aF B) (vi.out w9 J1.out) HV.out (Ci.out w9 J1.out) (Q2.out w9 J1.out);rw[mi.out]at hC;refine hC.mono ?_;rintro e tP ⟨⟨hL,rfl⟩|⟨_,_,rfl⟩|⟨_,Ju,_⟩,sP⟩
      .exact absurd hL HL.out
      rotate_left
      .exact absurd Sa.out Ju
      have pF:Hid (Below A5.heap.size A5 tP):=J1.out.trans (sP.mono J1.out.size);have z7:Hid (Below w9.heap.size w9 tP):=sP;clear sP hC z0 z1 z2 z3 z4;obtain⟨z0,z1,z2,z3,z4⟩:=xD.out tP pF.out)
    |(go_at_call 15
      have hC:=oB tP _ B (aF B) (vi.out tP pF.out) HV.out (Ci.out tP pF.out) (Q2.out tP pF.out);rw[mi.out]at hC;refine hC.mono ?_;rintro e sX ⟨⟨hL,rfl⟩|⟨_,_,rfl⟩|⟨_,Ju,_⟩,sP⟩
      .exact absurd hL HL.out
      rotate_left
      .exact absurd Sa.out Ju
      have pG:Hid (Below A5.heap.size A5 sX):=pF.out.trans (sP.mono pF.out.size);have sQ:Hid (Below tP.heap.size tP sX):=sP;clear sP hC z0 z1 z2 z3 z4;obtain⟨z0,z1,z2,z3,z4⟩:=xD.out sX pG.out)
    |(go_at_call 16
      have hC:=oD sX _ B (aF B) (vi.out sX pG.out) HV.out (Ci.out sX pG.out) (Q2.out sX pG.out);rw[mi.out]at hC;refine hC.mono ?_;rintro e xE ⟨⟨hL,rfl⟩|⟨_,_,rfl⟩|⟨_,Ju,_⟩,sP⟩
      .exact absurd hL HL.out
      rotate_left
      .exact absurd Sa.out Ju
      have Cr:Hid (Below A5.heap.size A5 xE):=pG.out.trans (sP.mono pG.out.size);have sR:Hid (Below sX.heap.size sX xE):=sP;clear sP hC z0 z1 z2 z3 z4;obtain⟨z0,z1,z2,z3,z4⟩:=xD.out xE Cr.out))
   have HH:Hid (∀X:World,Below w8.heap.size w8 X->Calls ZP 17 #[vx,.int .i64 (t q)] X (fS X (.bool true))):=fun X hX=>by
    have h:=qS X vx (je L q) (t q) (HX8.out.later (Kp.of hX));rw[decide_eq_true (real_has Cq.out q)]at h;exact h
   have V2:Hid (Below w8.heap.size w8 xE):=My.out.trans ((z7.out.trans ((sQ.out.trans (sR.out.mono sQ.out.size)).mono z7.out.size)).mono My.out.size);obtain⟨J2,Q3⟩:∃A,xE.alloc (.cells #[.int .i64 0,.int .i64 0] 43)=A:=⟨_,rfl⟩
   rw[Q3];have hk:=dV Q3;have Cs:Hid (Below A5.heap.size A5 J2):=Cr.out.trans (hk.below (by simp) Cr.out.size);have hH:=HH.out J2 (V2.out.trans (hk.below (by simp) V2.out.size));clear Q3 hk z0 z1 z2 z3 z4;obtain⟨z0,z1,z2,z3,z4⟩:=xD.out J2 Cs.out;have zt:=HTQ.out J2 Cs.out;have hL1:¬(L.length:Int)<1:=by omega
   go_upto_region 18 with(go_at_call 17;refine hH.mono ?_;rintro e w' ⟨rfl,Mz⟩;obtain rfl:J2=w':=Mz.symm)
   clear hH zt
  case' inr=>
   have DF:Hid (aB B L≠ []):=hS;have zia:0<(ms:Int):=by have:=List.length_pos_iff.2 hS;rw[N3.out]at this;omega
   clear hS
   go_upto_region 13 with(first
    |(go_at_call 14
      have hC:=sK w9 _ B (aF B) (vi.out w9 J1.out) HV.out (Ci.out w9 J1.out) (Q2.out w9 J1.out);rw[mi.out]at hC;refine hC.mono ?_;rintro e tP ⟨⟨hL,rfl⟩|⟨_,Ju,rfl⟩|⟨_,_,Sr,rfl,zcf⟩,sP⟩
      .exact absurd hL HL.out
      .exact absurd Ju DF.out
      have V3:Hid (ao tP Sr (aQ B.places.toNat (bU [jR B,fV B] (aB B L)))):=zcf;have pF:Hid (Below A5.heap.size A5 tP):=J1.out.trans (sP.mono J1.out.size);have z7:Hid (Below w9.heap.size w9 tP):=sP;clear sP hC z0 z1 z2 z3 z4;obtain⟨z0,z1,z2,z3,z4⟩:=xD.out tP pF.out)
    |(go_at_call 15
      have hC:=oB tP _ B (aF B) (vi.out tP pF.out) HV.out (Ci.out tP pF.out) (Q2.out tP pF.out);rw[mi.out]at hC;refine hC.mono ?_;rintro e sX ⟨⟨hL,rfl⟩|⟨_,Ju,rfl⟩|⟨_,_,Su,rfl,zcg⟩,sP⟩
      .exact absurd hL HL.out
      .exact absurd Ju DF.out
      have V4:Hid (ao sX Su (aQ B.places.toNat (bU [fV B] (aB B L)))):=zcg;have pG:Hid (Below A5.heap.size A5 sX):=pF.out.trans (sP.mono pF.out.size);have sQ:Hid (Below tP.heap.size tP sX):=sP;clear sP hC z0 z1 z2 z3 z4;obtain⟨z0,z1,z2,z3,z4⟩:=xD.out sX pG.out)
    |(go_at_call 16
      have hC:=oD sX _ B (aF B) (vi.out sX pG.out) HV.out (Ci.out sX pG.out) (Q2.out sX pG.out);rw[mi.out]at hC;refine hC.mono ?_;rintro e xE ⟨⟨hL,rfl⟩|⟨_,Ju,rfl⟩|⟨_,_,XR,rfl,zch⟩,sP⟩
      .exact absurd hL HL.out
      .exact absurd Ju DF.out
      have V5:Hid (ao xE XR (aQ B.places.toNat (bU [Al B L] (aB B L)))):=zch;have Cr:Hid (Below A5.heap.size A5 xE):=pG.out.trans (sP.mono pG.out.size);have sR:Hid (Below sX.heap.size sX xE):=sP;clear sP hC z0 z1 z2 z3 z4;obtain⟨z0,z1,z2,z3,z4⟩:=xD.out xE Cr.out))
   have HH:Hid (∀X:World,Below w8.heap.size w8 X->Calls ZP 17 #[vx,.int .i64 (t q)] X (fS X (.bool true))):=fun X hX=>by
    have h:=qS X vx (je L q) (t q) (HX8.out.later (Kp.of hX));rw[decide_eq_true (real_has Cq.out q)]at h;exact h
   have V2:Hid (Below w8.heap.size w8 xE):=My.out.trans ((z7.out.trans ((sQ.out.trans (sR.out.mono sQ.out.size)).mono z7.out.size)).mono My.out.size);obtain⟨hi,zJ⟩:∃hi,Al B L (bU [Al B L] (aB B L))=hi:=⟨_,rfl⟩
   obtain⟨lo,mD⟩:∃lo,VI B L (bU [Al B L] (aB B L))=lo:=⟨_,rfl⟩
   rw[zJ,mD];obtain⟨mf,hmf⟩:∃mf,bU [jR B,fV B] (aB B L)=mf:=⟨_,rfl⟩
   obtain⟨mc,hmc⟩:∃mc,bU [fV B] (aB B L)=mc:=⟨_,rfl⟩
   obtain⟨mw,hmw⟩:∃mw,bU [Al B L] (aB B L)=mw:=⟨_,rfl⟩
   have RZ:mf∈aB B L:=by rw[<-hmf];exact gt DF.out
   have CV:mc∈aB B L:=by rw[<-hmc];exact gt DF.out
   have XS:mw∈aB B L:=by rw[<-hmw];exact gt DF.out
   rw[hmf]at V3⊢;rw[hmc]at V4⊢;rw[hmw]at V5 zJ mD;have XT:=real_turns Cq.out B.places.toNat mw
   have F8:∀m,m∈aB B L->cN B (aQ B.places.toNat m)/\(aQ B.places.toNat m).length=B.places.toNat/\ac (aQ B.places.toNat m)=m/\aq m t B.places.toNat<=B.ah:=fun m hm=>
    ⟨(real_machine HV.out (fM hm)).1,by simp[aQ],(real_machine HV.out (fM hm)).2,real_safe Cq.out hm⟩
   obtain⟨oI,MA⟩:∃A,xE.alloc (.cells #[.int .i64 lo,.int .i64 hi] 43)=A:=⟨_,rfl⟩
   rw[MA];have hk:=dV MA;have D13:=gq MA;have FS:Hid (Below A5.heap.size A5 oI):=Cr.out.trans (hk.below (by simp) Cr.out.size);have Q4:Hid (Below xE.heap.size xE oI):=hk.below (by simp) (Nat.le_refl _);have hH:=HH.out oI (V2.out.trans (hk.below (by simp) V2.out.size))
   have RL:∀(X:aj oI) (m:Nat->Int) (vm:Value),m∈aB B L->ao oI vm (aQ B.places.toNat m)->Calls ZP 18 #[.agg #[.int .i64 B.ah,.int .i64 B.places,.slice d2 B.parts.length e2,.slice d3 B.apart.length e3,.slice d4 B.aa.length e4],vm] X.1 (fun e fT=>e=.returned (.int .i64 0)/\∃Y:aj oI,fT=Y.1):=fun X m vm hm hv=>
    (jK X.1 _ vm B _ ((vi.out oI FS.out).later X.kp) (hv.later X.kp) IE).mono fun e fT ⟨⟨r,h1,h2⟩,h3⟩=>⟨by rw[h1,h2,<-jb (F8 m hm).1],X.on h3⟩
   have RM:∀(X:aj oI) (m:Nat->Int) (vm:Value),m∈aB B L->ao oI vm (aQ B.places.toNat m)->Calls ZP 19 #[.slice (some ⟨tb,Jr,none⟩) B.parts.length tc,vm] X.1 (fun e fT=>e=.returned (.int .i64 (aq m t B.places.toNat))/\∃Y:aj oI,fT=Y.1):=fun X m vm hm hv=>
    (takes_any X.1 _ vm B.parts.length t _ VY.out ((HVX.out oI FS.out).later X.kp) (hv.later X.kp) (by rw[(F8 m hm).2.1];omega) (fun j x hx=>by
      have h1:=(F8 m hm).1.range j x (List.getElem?_eq_some_iff.1 hx).1 hx;omega)).mono fun e fT ⟨h1,h2⟩=>⟨by rw[h1,(F8 m hm).2.1,(F8 m hm).2.2.1],X.same h2⟩
   have i14:ao oI Sr (aQ B.places.toNat mf):=V3.out.later (Kp.of (sQ.out.trans ((sR.out.trans (Q4.out.mono sR.out.size)).mono sQ.out.size)));have i15:ao oI Su (aQ B.places.toNat mc):=V4.out.later (Kp.of (sR.out.trans (Q4.out.mono sR.out.size)));have i16:ao oI XR (aQ B.places.toNat mw):=V5.out.later (Kp.of Q4.out);have V6:=fun X=>RL X mf Sr RZ i14;have V7:=fun X=>RL X mc Su CV i15;have V8:=fun X=>RL X mw XR XS i16;have Q5:=fun X=>RM X mf Sr RZ i14;have Q6:=fun X=>RM X mc Su CV i15;have Q7:=fun X=>RM X mw XR XS i16;have kf:=(F8 mf RZ).2.2.2;have kc:=(F8 mc CV).2.2.2;have kw:=(F8 mw XS).2.2.2;obtain⟨tf,htf⟩:∃tf,aq mf t B.places.toNat=tf:=⟨_,rfl⟩
   obtain⟨XU,htc⟩:∃XU,aq mc t B.places.toNat=XU:=⟨_,rfl⟩
   obtain⟨tw,V9⟩:∃tw,aq mw t B.places.toNat=tw:=⟨_,rfl⟩
   rw[htf]at Q5 kf;rw[htc]at Q6 kc;rw[V9]at Q7 kw XT;have We:lo<=tw:=by rw[<-mD];exact XT.1
   have zcm:tw<=hi:=by rw[<-zJ];exact XT.2
   have k20:∀X:aj oI,Calls ZP 20 #[.int .i64 tw,.int .i64 lo,.int .i64 (min hi B.ah)] X.1 (fun e fT=>e=.returned (.bool true)/\∃Y:aj oI,fT=Y.1):=fun X=>
    (lF tw lo (min hi B.ah) X.1).mono fun e fT ⟨h1,h2⟩=>⟨by rw[h1,decide_eq_true We,decide_eq_true (show tw<=min hi B.ah by omega)];rfl,X.same h2⟩
   have y0:oI.cell? ⟨xE.heap.size,0,none⟩=some (.int .i64 lo):=D13.cell 0 rfl;have y1:oI.cell? ⟨xE.heap.size,1,none⟩=some (.int .i64 hi):=D13.cell 1 rfl;clear MA hk D13 z0 z1 z2 z3 z4 RL RM F8 i14 i15 i16 XT zJ mD RZ CV XS hmf hmc hmw htf htc V9;obtain⟨z0,z1,z2,z3,z4⟩:=xD.out oI FS.out;have zt:=HTQ.out oI FS.out;have hL1:¬(L.length:Int)<1:=by omega
   go_upto_region 16 with(go_at_call 17;refine hH.mono ?_;rintro e w' ⟨rfl,Mz⟩;obtain rfl:oI=w':=Mz.symm)
   have n1:¬B.ah<tf:=by omega
   have n2:¬B.ah<XU:=by omega
   have d1:decide (B.ah<tf)=false:=decide_eq_false n1;have d2':decide (B.ah<XU)=false:=decide_eq_false n2;have Z0:∀X:aj oI,X.1.cell? ⟨w.heap.size,0,none⟩=some (.int .i64 B.ah):=fun X=>X.cell z0;have Z1:∀X:aj oI,X.1.cell? ⟨w.heap.size,1,none⟩=some (.int .i64 B.places):=fun X=>X.cell z1;have Z2:∀X:aj oI,X.1.cell? ⟨w.heap.size,2,none⟩=some (.slice d2 B.parts.length e2):=fun X=>X.cell z2;have Z3:∀X:aj oI,X.1.cell? ⟨w.heap.size,3,none⟩=some (.slice d3 B.apart.length e3):=fun X=>X.cell z3;have Z4:∀X:aj oI,X.1.cell? ⟨w.heap.size,4,none⟩=some (.slice d4 B.aa.length e4):=fun X=>X.cell z4;have Y0:∀X:aj oI,X.1.cell? ⟨xE.heap.size,0,none⟩=some (.int .i64 lo):=fun X=>X.cell y0;have Y1:∀X:aj oI,X.1.cell? ⟨xE.heap.size,1,none⟩=some (.int .i64 hi):=fun X=>X.cell y1;refine am (by kernel_rfl) (by kernel_rfl) ?_
   repeat(go_big_quiet_step (first
    |(go_at_call 18;first|(with_reducible show Calls _ _ #[_,Sr] _ _;exact V6 _)|(with_reducible show Calls _ _ #[_,Su] _ _;exact V7 _)|exact V8 _)
    |(go_at_call 19;first|(with_reducible show Calls _ _ #[_,Sr] _ _;exact Q5 _)|(with_reducible show Calls _ _ #[_,Su] _ _;exact Q6 _)|exact Q7 _)
    |(go_at_call 20;exact k20 _)))
   refine wpQuiet_nil ?_;rintro J2 ⟨X,hwX⟩;have Q8:=X.2;rw[<-hwX]at Q8;clear hwX X;have Cs:Hid (Below A5.heap.size A5 J2):=FS.out.trans (Q8.mono FS.out.size);clear Z0 Z1 Z2 Z3 Z4 Y0 Y1 z0 z1 z2 z3 z4 y0 y1 zt V6 V7 V8 Q5 Q6 Q7 k20 hH n1 n2 d1 d2' kf kc kw We zcm Q8;obtain⟨z0,z1,z2,z3,z4⟩:=xD.out J2 Cs.out;go_upto_region 18 with fail
  all_goals
   have hM:=zT J2 _ B n HN.out (vi.out J2 Cs.out) HV.out
   go_upto_region 19 with(go_at_call 21
                          refine hM.mono ?_;rintro e DQ ⟨⟨ic,rfl⟩|⟨o,ho,vo,rfl,XV⟩,Wf⟩
                          all_goals
                           have mo:Hid (Below A5.heap.size A5 DQ):=Cs.out.trans (Wf.mono Cs.out.size);clear Wf hM z0 z1 z2 z3 z4;obtain⟨z0,z1,z2,z3,z4⟩:=xD.out DQ mo.out)
  all_goals
   first
    |exact absurd (real_none ic) DF.out
    |(have _t:=ic
      go_wp2_with(go_at_call 7;refine(pE _).mono ?_;rintro e w20 ⟨rfl,_⟩)
      go_ret;rfl)
    |skip
  all_goals
   have mJ:=py HV.out ho;have xi:=mJ.len;have MB:=real_turns Cq.out B.places.toNat (ac o);have oh:=real_late HV.out Cq.out (xf ho);have eN:o.length=B.places.toNat:=by omega
   have XW:=takes_any DQ _ vo B.parts.length t o VY.out (HVX.out DQ mo.out) XV (by omega) (fun j x hx=>by
    have h1:=mJ.range j x (List.getElem?_eq_some_iff.1 hx).1 hx;omega)
   rw[eN]at XW
   have HTU:Hid (∀X:World,Below DQ.heap.size DQ X->Calls ZP 22 #[.agg #[.int .i64 B.ah,.int .i64 B.places,.slice d2 B.parts.length e2,.slice d3 B.apart.length e3,.slice d4 B.aa.length e4],vo] X (sD X B L (ac o))):=fun X hX=>by
    have h:=Cg X _ vo B o (vi.out X (mo.out.trans (hX.mono mo.out.size))) HV.out (Ci.out X (mo.out.trans (hX.mono mo.out.size))) mJ (XV.later (Kp.of hX));rw[mi.out]at h;exact h
   have HLA:Hid (∀X:World,Below DQ.heap.size DQ X->Calls ZP 23 #[.agg #[.int .i64 B.ah,.int .i64 B.places,.slice d2 B.parts.length e2,.slice d3 B.apart.length e3,.slice d4 B.aa.length e4],vo] X (wY X B L (ac o))):=fun X hX=>by
    have h:=I2 X _ vo B o (vi.out X (mo.out.trans (hX.mono mo.out.size))) HV.out (Ci.out X (mo.out.trans (hX.mono mo.out.size))) mJ (XV.later (Kp.of hX));rw[mi.out]at h;exact h
   obtain⟨tk,sZ⟩:∃tk,aq (ac o) t B.places.toNat=tk:=⟨_,rfl⟩
   obtain⟨Wg,Q9⟩:∃lo,jO B.places.toNat L (ac o)=lo:=⟨_,rfl⟩
   obtain⟨Wh,Re⟩:∃hi,gV B.places.toNat L (ac o)=hi:=⟨_,rfl⟩
   obtain⟨la,Py⟩:∃la,gX B L (ac o)=la:=⟨_,rfl⟩
   rw[sZ]at XW MB oh;rw[Q9,Re]at MB;rw[Py]at oh;have Cf:Hid (jO B.places.toNat L (ac o)=Wg/\gV B.places.toNat L (ac o)=Wh/\gX B L (ac o)=la):=⟨Q9,Re,Py⟩
   have HT2:Hid (Wg<=tk/\tk<=Wh):=MB;have Qv:Hid ((la=1->B.ah<tk)/\(la=2->tk<=B.ah)):=oh;clear sZ Q9 Re Py MB oh mJ xi eN XV ho
   go_upto_region 23 with(first
    |(go_at_call 19;refine XW.mono ?_;rintro e w' ⟨rfl,Mz⟩;obtain rfl:DQ=w':=Mz.symm)
    |(go_at_call 22
      have hU:=HTU.out DQ (Below.refl _ _);unfold sD at hU;rw[Cf.out.1,Cf.out.2.1]at hU;refine hU.mono ?_;rintro e XX ⟨⟨hL,rfl⟩|⟨_,rfl⟩,Wi⟩
      .exact absurd hL HL.out
      have Rf:Hid (Below DQ.heap.size DQ XX):=Wi;clear Wi hU z0 z1 z2 z3 z4;obtain⟨z0,z1,z2,z3,z4⟩:=xD.out XX (mo.out.trans (Rf.out.mono mo.out.size))))
   obtain⟨Sv,MC⟩:∃A,XX.alloc (.cells #[.int .i64 Wg,.int .i64 Wh] 43)=A:=⟨_,rfl⟩
   rw[MC];have D23:Hid (aC Sv XX.heap.size 43 #[.int .i64 Wg,.int .i64 Wh]):=gq MC;have MD:Hid (Below DQ.heap.size DQ Sv):=Rf.out.trans ((dV MC).below (by simp) Rf.out.size);clear MC XW z0 z1 z2 z3 z4;obtain⟨z0,z1,z2,z3,z4⟩:=xD.out Sv (mo.out.trans (MD.out.mono mo.out.size))
   go_upto_region 24 with(go_at_call 23
                          have hA:=HLA.out Sv MD.out;unfold wY at hA;rw[Cf.out.2.2]at hA;refine hA.mono ?_;rintro e Mx ⟨⟨hL,rfl⟩|⟨_,rfl⟩,FO⟩
                          .exact absurd hL HL.out
                          have ng:Hid (Below Sv.heap.size Sv Mx):=FO;clear FO hA z0 z1 z2 z3 z4;obtain⟨z0,z1,z2,z3,z4⟩:=xD.out Mx (mo.out.trans ((MD.out.trans (ng.out.mono MD.out.size)).mono mo.out.size)))
   have D24:=D23.out.below ng.out D23.out.lt;have y0:=D24.cell 0 rfl;have y1:=D24.cell 1 rfl;have hIN:=lF tk Wg Wh Mx;rw[decide_eq_true HT2.out.1,decide_eq_true HT2.out.2,Bool.true_and]at hIN;clear D24;have hFI:=fits_any Mx la (decide (B.ah<tk)) (fun h=>decide_eq_true (Qv.out.1 h)) (fun h=>decide_eq_false (by have:=Qv.out.2 h;omega))
   go_wp2_with(first
    |(go_at_call 20;refine hIN.mono ?_;rintro e w' ⟨rfl,Mz⟩;obtain rfl:Mx=w':=Mz.symm)
    |(go_at_call 24;refine hFI.mono ?_;rintro e w' ⟨rfl,Mz⟩;obtain rfl:Mx=w':=Mz.symm)
    |(go_at_call 7;refine(pE _).mono ?_;rintro e w25 ⟨rfl,_⟩))
   go_ret;rfl
end Go.Proofs.Cz
