/- A part. Conditions: none. -/
import Derived.Test.YtehbindidbgacaaGreatDoorT35
set_option linter.all false
set_option maxHeartbeats 8000000
set_option maxRecDepth 100000
namespace Go.Proofs.Cz
open Go.RowKit
def cv (w:World) (g i:Nat):Value:=(w.cell? ⟨g,i,none⟩).getD undef
theorem Fi {w:World} {g i:Nat} {v:Value} (h:w.cell? ⟨g,i,none⟩=some v):w.cell? ⟨g,i,none⟩=some (cv w g i):=by unfold cv;rw[h];rfl
def tH (w:World) (b:ap) (L:List (Nat->Int)) (m:Nat->Int) (e:Ending) (w':World):Prop:=
 ((L=[]/\e=.returned (.tuple #[.agg #[.int .i64 0,.int .i64 0],.int .i64 9]))\/(L≠ []/\e=.returned (.tuple #[.agg #[.int .i64 (ia b.places.toNat L m),.int .i64 (fp b.places.toNat L m)],.int .i64 0])))/\Below w.heap.size w w'
theorem tI (w:World) (v vl:Value) (b:ap) (l:List Int) (hb:ar w v b) (hv:Valid b) (hc:iv w) (it:cr b l) (hl:am w vl l):
 Calls ZP 22 #[v,vl] w (tH w b (aq b (ai b)) (ak l)):=by
 have HB:=hid hb;have HV:Hid (Valid b):=hv;have HC:Hid (iv w):=hc;have P9:Hid (cr b l):=it;obtain⟨a2,c2,a3,c3,a4,c4,rfl⟩:=hb.dA;have AO:Hid (kE w (.agg #[.int .i64 b.ac,.int .i64 b.places,.slice a2 b.parts.length c2,.slice a3 b.apart.length c3,.slice a4 b.aa.length c4]) (ai b)):=eP hb hv;obtain⟨la,lc,⟨rfl,ll,lm,ln,lr⟩,le⟩:=hl;have HL:Hid (am w (.slice la l.length lc) l):=⟨la,lc,⟨rfl,ll,lm,ln,lr⟩,le⟩
 clear ll lm ln lr le;have Te:l.length<=4:=by have:=it.len;have:=hv.places;omega
 obtain⟨N,hN⟩:∃N:Nat,b.places=N:=⟨b.places.toNat,by have:=hv.places;omega⟩
 have vV:N<=4:=by have:=hv.places;omega
 have XZ:b.places.toNat=N:=by omega
 have HN:=hid hN;have qH:=hid XZ
 have HMI:Hid (∀i,0<=ak l i/\ak l i<5):=λi=>by
  by_cases hi:i<l.length
  .exact pX hv.parts.many.2 it i (by have:=it.len;omega)
  .have e:l[i]?=none:=zDA (by omega);unfold ak;simp only[e];exact⟨by decide,by decide⟩
 obtain⟨A1,aV⟩:=ex1 (w.alloc (.cells #[.int .i64 b.ac,.int .i64 b.places,.slice a2 b.parts.length c2,.slice a3 b.apart.length c3,.slice a4 b.aa.length c4] 26));obtain⟨A0,KH⟩:=ex1 (A1.alloc (.cells #[.slice la l.length lc] 31));obtain⟨A2,bc⟩:=ex1 (A0.alloc (.cells #[.int .i64 0,.int .i64 0] 43));have cS:=snew aV;have Qg:=snew2 KH cS
 have B1:Hid (aA A2 w.heap.size 26 #[.int .i64 b.ac,.int .i64 b.places,.slice a2 b.parts.length c2,.slice a3 b.apart.length c3,.slice a4 b.aa.length c4]):=by
  rw[<-bc];refine(ab.alloc [] _ _).box ?_ (by simp);rw[<-KH];refine(ab.alloc [] _ _).box ?_ (by simp);rw[<-aV];exact aA.new _ _ _
 have B2:Hid (aA A2 (w.heap.size+1) 31 #[.slice la l.length lc]):=by
  rw[<-bc];refine(ab.alloc [] _ _).box ?_ (by simp);rw[<-KH,<-cS];exact aA.new _ _ _
 have BR:=bnew2 bc Qg;have HW:=wnew3 aV KH bc;obtain⟨z0,z1,z2,z3,z4⟩:=B1.o.c5
 have hO:=uO A2 b _ a2 c2 _ _ (ai b) rfl (HB.o.later (Kp.of HW.o)) hv (HC.o.later HW.o) (w.heap.size+1) (λX t hX=>AO.o X t (HW.o.trans (hX.mono HW.o.size)))
  (λX hX=>DK X _ _ b l (w.heap.size+1) (HB.o.later (Kp.of (HW.o.trans (hX.mono HW.o.size)))) HV.o P9.o (HL.o.later (Kp.of (HW.o.trans (hX.mono HW.o.size)))) (aj.cell ⟨X,hX⟩ (B2.o.cell 0 rfl)))
 clear hb hv hc it hN XZ;go_enter ZF22,Tryz.ntmps22
 go_wp2_with fail
 refine hO.mono ?_;rintro e w1 ⟨pl,bi⟩;have dh:=HW.t bi;have oT:=hid bi;have BH:=dX HV.o;clear bi z0 z1 z2 z3 z4 hO aV KH bc cS Qg;rcases pl with⟨hL,rfl⟩|⟨hL,a,c,rfl,oR,_⟩
 .have HL:=hid hL;clear hL;obtain⟨W,hW⟩:=ex1 (w1.alloc (.cells #[.int .i64 0,.int .i64 0,.slice none 0 0,.slice none 0 0,.slice none 0 0,.slice none 0 0] 93));have tD:=knew hW;have HR:=tD.box (BR.o.below oT.o BR.o.lt) (by simp);obtain⟨t0,t1⟩:=HR.c2;have f0:=HR.aL 0;have f1:=HR.aL 1;have d0:=HR.same (i:=0) (v:=.int .i64 0) rfl;have d1:=HR.same (i:=1) (v:=.int .i64 0) rfl;have tA:Hid (Below w.heap.size w W):=(dh.o.trans (tD.below (by simp) dh.o.size):Below w.heap.size w W)
  have gu:=(bnew hW).o;have s0:=gu.c1;have g0:=gu.aL 0;have e0:=gu.same (i:=0) (v:=.int .i64 0) rfl;obtain⟨-,s1⟩:=gu.c2;have g1:=gu.aL 1;have e1:=gu.same (i:=1) (v:=.int .i64 0) rfl;obtain⟨-,-,s2⟩:=gu.c3;have g2:=gu.aL 2;have e2:=gu.same (i:=2) (v:=.slice none 0 0) rfl;obtain⟨-,-,-,s3⟩:=gu.c4;have g3:=gu.aL 3;have e3:=gu.same (i:=3) (v:=.slice none 0 0) rfl;obtain⟨-,-,-,-,s4⟩:=gu.c5;have g4:=gu.aL 4;have e4:=gu.same (i:=4) (v:=.slice none 0 0) rfl;obtain⟨-,-,-,-,-,s5⟩:=gu.c6;have g5:=gu.aL 5;have e5:=gu.same (i:=5) (v:=.slice none 0 0) rfl;clear tD HR gu;go_wp2
  refine bodyPost_ret (v:=.tuple #[.agg #[.int .i64 0,.int .i64 0],.int .i64 9]) ?_ rfl ⟨.inl ⟨HL.o,rfl⟩,tA.o⟩;rw[results_cell_tmp rfl];go_simp
 .obtain⟨L,yt⟩:=ex1 (aq b (ai b));have Tt:=mC HV.o (ai b);have Fh:=hid yt;rw[yt]at hL oR Tt⊢;clear yt;obtain⟨A3,eE⟩:=ex1 (w1.alloc (.cells #[.int .i64 b.ac,.int .i64 b.places,.slice a2 b.parts.length c2,.slice a3 b.apart.length c3,.slice a4 b.aa.length c4,.slice a L.length c] 93));have B3:=bnew eE;have DO:=wnew eE;have fL:=dh.t DO.o;have pZ:=oT.t DO.o;have Ov:Hid (bB 5 A3 (.slice a L.length c) L):=oR.later (Kp.of DO.o);have KO:Hid (L≠ []):=hL;have HTI:=hid Tt
  have HS:Hid (∀W,Below A3.heap.size A3 W->W.cell? ⟨w1.heap.size,0,none⟩=some (.int .i64 b.ac)/\W.cell? ⟨w1.heap.size,1,none⟩=some (.int .i64 b.places)/\W.cell? ⟨w1.heap.size,2,none⟩=some (.slice a2 b.parts.length c2)/\
   W.cell? ⟨w1.heap.size,3,none⟩=some (.slice a3 b.apart.length c3)/\W.cell? ⟨w1.heap.size,4,none⟩=some (.slice a4 b.aa.length c4)/\W.cell? ⟨w1.heap.size,5,none⟩=some (.slice a L.length c)/\W.cell? ⟨w.heap.size+1,0,none⟩=some (.slice la l.length lc)/\
   W.cell? ⟨w.heap.size+1+1,0,none⟩=some (cv W (w.heap.size+1+1) 0)/\W.cell? ⟨w.heap.size+1+1,1,none⟩=some (cv W (w.heap.size+1+1) 1)/\W.frozen? ⟨w.heap.size+1+1,0,none⟩=false/\W.frozen? ⟨w.heap.size+1+1,1,none⟩=false):=λW hW=>by
   have BX:=B3.o.below hW B3.o.lt;have BY:=B2.o.below (pZ.o.trans (hW.mono pZ.o.size)) B2.o.lt;have BZ:=BR.o.below (pZ.o.trans (hW.mono pZ.o.size)) BR.o.lt;exact⟨BX.cell 0 rfl,BX.cell 1 rfl,BX.cell 2 rfl,BX.cell 3 rfl,BX.cell 4 rfl,BX.cell 5 rfl,BY.cell 0 rfl,Fi (BZ.cell 0 rfl),Fi (BZ.cell 1 rfl),BZ.aL 0,BZ.aL 1⟩
  have Aa:w.heap.size+1+1<w1.heap.size:=(BR.o.below oT.o BR.o.lt).lt
  have tE:Hid (∀W v0 v1,Below A3.heap.size A3 W->(λW:World=>W.cell? ⟨w1.heap.size,0,none⟩=some (.int .i64 b.ac)/\W.cell? ⟨w1.heap.size,1,none⟩=some (.int .i64 b.places)/\W.cell? ⟨w1.heap.size,2,none⟩=some (.slice a2 b.parts.length c2)/\
   W.cell? ⟨w1.heap.size,3,none⟩=some (.slice a3 b.apart.length c3)/\W.cell? ⟨w1.heap.size,4,none⟩=some (.slice a4 b.aa.length c4)/\W.cell? ⟨w1.heap.size,5,none⟩=some (.slice a L.length c)/\W.cell? ⟨w.heap.size+1,0,none⟩=some (.slice la l.length lc)/\
   W.cell? ⟨w.heap.size+1+1,0,none⟩=some (cv W (w.heap.size+1+1) 0)/\W.cell? ⟨w.heap.size+1+1,1,none⟩=some (cv W (w.heap.size+1+1) 1)/\W.frozen? ⟨w.heap.size+1+1,0,none⟩=false/\W.frozen? ⟨w.heap.size+1+1,1,none⟩=false)
   ((W.setCell ⟨w.heap.size+1+1,0,none⟩ v0).setCell ⟨w.heap.size+1+1,1,none⟩ v1)):=λW v0 v1 hW=>by
   have hk:ab [w.heap.size+1+1] W ((W.setCell ⟨w.heap.size+1+1,0,none⟩ v0).setCell ⟨w.heap.size+1+1,1,none⟩ v1):=(ab.set W (by simp) _).trans' (ab.set _ (by simp) _);have BX:=hk.box (B3.o.below hW B3.o.lt) (by simp;omega);have BY:=hk.box (B2.o.below (pZ.o.trans (hW.mono pZ.o.size)) B2.o.lt) (by simp);have BZ:=((BR.o.below (pZ.o.trans (hW.mono pZ.o.size)) BR.o.lt).set 0 v0).set 1 v1;exact⟨BX.cell 0 rfl,BX.cell 1 rfl,BX.cell 2 rfl,BX.cell 3 rfl,BX.cell 4 rfl,BX.cell 5 rfl,BY.cell 0 rfl,Fi (BZ.cell 0 rfl),Fi (BZ.cell 1 rfl),BZ.aL 0,BZ.aL 1⟩
  clear hL oR Tt;go_wp2_with fail
  go_region_held3 (λW=>W.cell? ⟨w1.heap.size,0,none⟩=some (.int .i64 b.ac)/\W.cell? ⟨w1.heap.size,1,none⟩=some (.int .i64 b.places)/\W.cell? ⟨w1.heap.size,2,none⟩=some (.slice a2 b.parts.length c2)/\
   W.cell? ⟨w1.heap.size,3,none⟩=some (.slice a3 b.apart.length c3)/\W.cell? ⟨w1.heap.size,4,none⟩=some (.slice a4 b.aa.length c4)/\W.cell? ⟨w1.heap.size,5,none⟩=some (.slice a L.length c)/\W.cell? ⟨w.heap.size+1,0,none⟩=some (.slice la l.length lc)/\
   W.cell? ⟨w.heap.size+1+1,0,none⟩=some (cv W (w.heap.size+1+1) 0)/\W.cell? ⟨w.heap.size+1+1,1,none⟩=some (cv W (w.heap.size+1+1) 1)/\W.frozen? ⟨w.heap.size+1+1,0,none⟩=false/\W.frozen? ⟨w.heap.size+1+1,1,none⟩=false)
   (first|exact tE.o _ _ _ mF.o|exact HS.o _ mF.o|exact HS.o _ mO.o|exact HS.o _ (Below.drewN (Below.refl A3.heap.size A3) 1))
   (first
     |(go_at_call 67
       refine(jF _ _ l Te (HL.o.later (Kp.of (fL.o.trans ((Below.drewN (Below.refl A3.heap.size A3) 1).mono fL.o.size))))).mono ?_;rintro e w6 ⟨rfl,tJ⟩;have mO:Hid (Below A3.heap.size A3 w6):=(Below.drewN (Below.refl A3.heap.size A3) 1).trans tJ;clear tJ)
     |(go_at_call 62
       refine(pV w6 _ _ _ _ b N HN.o vV L (Ov.o.later (Kp.of mO.o)) KO.o _ HMI.o HTI.o).mono ?_;rintro e w7 ⟨rfl,qa⟩;have mF:=mO.t qa;clear qa))
  obtain⟨lo,DA⟩:=ex1 (ia N L (ak l));obtain⟨hi,Qi⟩:=ex1 (fp N L (ak l));have Ql:Hid (ia N L (ak l)=lo/\fp N L (ak l)=hi):=⟨DA,Qi⟩
  rw[DA,Qi];have BZ:=(BR.o.below (pZ.o.trans (mF.o.mono pZ.o.size)) BR.o.lt)
  obtain⟨WF,jK⟩:=ex1 ((w7.setCell ⟨w.heap.size+1+1,0,none⟩ (.int .i64 lo)).setCell ⟨w.heap.size+1+1,1,none⟩ (.int .i64 hi));have iw:aA WF (w.heap.size+1+1) 43 #[.int .i64 lo,.int .i64 hi]:=by rw[<-jK];exact(BZ.set 0 _).set 1 _
  have rQ:ab [w.heap.size+1+1] w7 WF:=by rw[<-jK];exact(ab.set w7 (by simp) _).trans' (ab.set _ (by simp) _)
  have tA:Hid (Below w.heap.size w WF):=(fL.o.trans (mF.o.mono fL.o.size)).trans (rQ.below (by simp;omega) (by have:=mF.o.size;have:=fL.o.size;omega));obtain⟨u0,u1⟩:=iw.c2;have e1:ia b.places.toNat L (ak l)=lo:=by rw[qH.o];exact DA
  have e2:fp b.places.toNat L (ak l)=hi:=by rw[qH.o];exact Qi
  have HE:Hid (ia b.places.toNat L (ak l)=lo/\fp b.places.toNat L (ak l)=hi):=⟨e1,e2⟩
  clear DA Qi e1 e2 BZ iw rQ;rw[jK,Fh.o];clear jK;go_wp2
  refine bodyPost_ret (v:=.tuple #[.agg #[.int .i64 lo,.int .i64 hi],.int .i64 0]) ?_ rfl ⟨.inr ⟨by rw[Fh.o];exact KO.o,by rw[Fh.o,HE.o.1,HE.o.2]⟩,tA.o⟩;rw[results_cell_tmp rfl];go_simp
end Go.Proofs.Cz
