/- A part. Conditions: none. -/
import Derived.Test.YtddlcmejelobdaaGreatDoorT35
import Derived.ChangeKeysEq
set_option linter.all false
set_option maxHeartbeats 8000000
namespace Go.Proofs.Cz
open Go.RowKit
def N0 (w:nq) (v vl:fu) (b:ab) (l:List Int) (g:Nat) (hb:ar w v b) (hv:Valid b) (j6:cO b l) (hl:ao w vl l) (hg:w.cell? ⟨g,0,none⟩=some vl):
 Calls ZP 59 #[v,ptr g] w (bK w (.int .i64 0))/\
 Calls ZP 85 #[v,ptr g] w (bK w (.int .i64 0)):=by
 have HB:=hid hb;obtain⟨a2,c2,a3,c3,a4,c4,rfl⟩:=hb.dJ;obtain⟨la,lc,⟨rfl,ll,lm,ln,lr⟩,le⟩:=hl;have HL:Hid (ao w (.slice la l.length lc) l):=⟨la,lc,⟨rfl,ll,lm,ln,lr⟩,le⟩
 obtain⟨A1,bh⟩:=ex1 (w.alloc (.cells #[.int .i64 b.ak,.int .i64 b.ah,.slice a2 b.ptz.length c2,.slice a3 b.aL.length c3,.slice a4 b.aX.length c4] 78));have B1:=(bnew bh).o;have HW:=wnew bh;obtain⟨x0,x1,x2,x3,x4⟩:=B1.c5;have y0:A1.cell? ⟨g,0,none⟩=some (.slice la l.length lc):=am.cell ⟨A1,HW.o⟩ hg;have hC:=Ny A1 _ _ b l (HB.o.later (Kp.of HW.o)) (HL.o.later (Kp.of HW.o)) hv.ptz.many hv.gJ j6;clear ll lm ln lr le hb hv j6 hg B1;refine⟨?x,?y⟩;case' x=>go_enter ZF59,Tryz.ntmps59
 case' y=>go_enter ZF85,Tryz.ntmps85
 all_goals
  go_wp2_with(go_at_call 60;refine hC.mono ?_;rintro e w1 ⟨⟨r,rfl,rfl⟩,bq⟩)
  go_ret;exact⟨rfl,HW.o.trans (bq.mono HW.o.size)⟩
def Gu (w:nq) (v vl:fu) (b:ab) (l:List Int) (g:Nat) (hb:ar w v b) (hv:Valid b) (j6:cO b l) (hl:ao w vl l) (hg:w.cell? ⟨g,0,none⟩=some vl):
 Calls ZP 85 #[v,ptr g] w (bK w (.int .i64 0)):=(N0 w v vl b l g hb hv j6 hl hg).2
def Uj (o m:Nat->Int):Prop:=o 0=m 0/\o 1=m 1/\o 2=m 2/\o 3=m 3
instance (o m : Nat -> Int) : Decidable (Uj o m) := by unfold Uj; infer_instance
end Go.Proofs.Cz

set_option maxHeartbeats 8000000
set_option maxRecDepth 100000
namespace Go.Proofs.Cz
open Go.RowKit
def cv (w:nq) (g i:Nat):fu:=(w.cell? ⟨g,i,none⟩).getD undef
def II {w:nq} {g i:Nat} {v:fu} (h:w.cell? ⟨g,i,none⟩=some v):w.cell? ⟨g,i,none⟩=some (cv w g i):=by unfold cv;rw[h];rfl
def N3 (w:nq) (b:ab) (L:List (Nat->Int)) (m:Nat->Int) (e:Ending) (w':nq):Prop:=
 ((L=[]/\e=.returned (.tuple #[.agg #[.int .i64 0,.int .i64 0],.int .i64 9]))\/(L≠ []/\e=.returned (.tuple #[.agg #[.int .i64 (pg b.ah.toNat L m),.int .i64 (kN b.ah.toNat L m)],.int .i64 0])))/\Below w.heap.size w w'
def Gv (w:nq) (v vl:fu) (b:ab) (l:List Int) (hb:ar w v b) (hv:Valid b) (hc:jh w) (j6:cO b l) (hl:ao w vl l):
 Calls ZP 29 #[v,vl] w (N3 w b (an b (aj b)) (ac l)):=by
 have HB:=hid hb;have HV:Hid (Valid b):=hv;have HC:Hid (jh w):=hc;have Yj:Hid (cO b l):=j6;obtain⟨a2,c2,a3,c3,a4,c4,rfl⟩:=hb.dJ;have Km:Hid (pl w (.agg #[.int .i64 b.ak,.int .i64 b.ah,.slice a2 b.ptz.length c2,.slice a3 b.aL.length c3,.slice a4 b.aX.length c4]) (aj b)):=iK hb hv;obtain⟨la,lc,⟨rfl,ll,lm,ln,lr⟩,le⟩:=hl;have HL:Hid (ao w (.slice la l.length lc) l):=⟨la,lc,⟨rfl,ll,lm,ln,lr⟩,le⟩
 clear ll lm ln lr le;have TZ:l.length<=4:=by have:=j6.len;have:=hv.ah;omega
 obtain⟨N,hN⟩:∃N:Nat,b.ah=N:=⟨b.ah.toNat,by have:=hv.ah;omega⟩
 have rN:N<=4:=by have:=hv.ah;omega
 have hNn:b.ah.toNat=N:=by omega
 have HN:=hid hN;have xi:=hid hNn
 have HMI:Hid (∀i,0<=ac l i/\ac l i<5):=λi=>by
  by_cases hi:i<l.length
  .exact yS hv.ptz.many.2 j6 i (by have:=j6.len;omega)
  .have e:l[i]?=none:=zCZ (by omega);unfold ac;simp only[e];exact⟨by decide,by decide⟩
 obtain⟨A1,bh⟩:=ex1 (w.alloc (.cells #[.int .i64 b.ak,.int .i64 b.ah,.slice a2 b.ptz.length c2,.slice a3 b.aL.length c3,.slice a4 b.aX.length c4] 26));obtain⟨A0,Dt⟩:=ex1 (A1.alloc (.cells #[.slice la l.length lc] 35));obtain⟨A2,bL⟩:=ex1 (A0.alloc (.cells #[.int .i64 0,.int .i64 0] 34));have eL:=snew bh;have Kl:=snew2 Dt eL
 have B1:Hid (aA A2 w.heap.size 26 #[.int .i64 b.ak,.int .i64 b.ah,.slice a2 b.ptz.length c2,.slice a3 b.aL.length c3,.slice a4 b.aX.length c4]):=by
  rw[<-bL];refine(aa.alloc [] _ _).box ?_ (by simp);rw[<-Dt];refine(aa.alloc [] _ _).box ?_ (by simp);rw[<-bh];exact aA.new _ _ _
 have B2:Hid (aA A2 (w.heap.size+1) 35 #[.slice la l.length lc]):=by
  rw[<-bL];refine(aa.alloc [] _ _).box ?_ (by simp);rw[<-Dt,<-eL];exact aA.new _ _ _
 have BR:=bnew2 bL Kl;have HW:=wnew3 bh Dt bL;obtain⟨z0,z1,z2,z3,z4⟩:=B1.o.c5
 have hO:=xv A2 b _ a2 c2 _ _ (aj b) rfl (HB.o.later (Kp.of HW.o)) hv (HC.o.later HW.o) (w.heap.size+1) (λX t hX=>Km.o X t (HW.o.trans (hX.mono HW.o.size)))
  (λX hX=>Gu X _ _ b l (w.heap.size+1) (HB.o.later (Kp.of (HW.o.trans (hX.mono HW.o.size)))) HV.o Yj.o (HL.o.later (Kp.of (HW.o.trans (hX.mono HW.o.size)))) (am.cell ⟨X,hX⟩ (B2.o.cell 0 rfl)))
 clear hb hv hc j6 hN hNn;go_enter ZF29,Tryz.ntmps29
 go_wp2_with fail
 refine hO.mono ?_;rintro e w1 ⟨Hh,bq⟩;have cV:=HW.t bq;have N4:=hid bq;have Pa:=gQ HV.o;clear bq z0 z1 z2 z3 z4 hO bh Dt bL eL Kl;rcases Hh with⟨hL,rfl⟩|⟨hL,a,c,rfl,xu,_⟩
 .have HL:=hid hL;clear hL;obtain⟨W,hW⟩:=ex1 (w1.alloc (.cells #[.int .i64 0,.int .i64 0,.slice none 0 0,.slice none 0 0,.slice none 0 0,.slice none 0 0] 81));have DD:=knew hW;have HR:=DD.box (BR.o.below N4.o BR.o.lt) (by simp);obtain⟨t0,t1⟩:=HR.c2;have f0:=HR.aH 0;have f1:=HR.aH 1;have d0:=HR.same (i:=0) (v:=.int .i64 0) rfl;have d1:=HR.same (i:=1) (v:=.int .i64 0) rfl;have xt:Hid (Below w.heap.size w W):=(cV.o.trans (DD.below (by simp) cV.o.size):Below w.heap.size w W)
  have eI:=(bnew hW).o;have s0:=eI.c1;have g0:=eI.aH 0;have e0:=eI.same (i:=0) (v:=.int .i64 0) rfl;obtain⟨-,s1⟩:=eI.c2;have g1:=eI.aH 1;have e1:=eI.same (i:=1) (v:=.int .i64 0) rfl;obtain⟨-,-,s2⟩:=eI.c3;have g2:=eI.aH 2;have e2:=eI.same (i:=2) (v:=.slice none 0 0) rfl;obtain⟨-,-,-,s3⟩:=eI.c4;have g3:=eI.aH 3;have e3:=eI.same (i:=3) (v:=.slice none 0 0) rfl;obtain⟨-,-,-,-,s4⟩:=eI.c5;have g4:=eI.aH 4;have e4:=eI.same (i:=4) (v:=.slice none 0 0) rfl;obtain⟨-,-,-,-,-,s5⟩:=eI.c6;have g5:=eI.aH 5;have e5:=eI.same (i:=5) (v:=.slice none 0 0) rfl;clear DD HR eI;go_wp2
  refine bodyPost_ret (v:=.tuple #[.agg #[.int .i64 0,.int .i64 0],.int .i64 9]) ?_ rfl ⟨.inl ⟨HL.o,rfl⟩,xt.o⟩;rw[results_cell_tmp rfl];go_simp
 .obtain⟨L,N5⟩:=ex1 (an b (aj b));have hTI:=nN HV.o (aj b);have RL:=hid N5;rw[N5]at hL xu hTI⊢;clear N5;obtain⟨A3,gP⟩:=ex1 (w1.alloc (.cells #[.int .i64 b.ak,.int .i64 b.ah,.slice a2 b.ptz.length c2,.slice a3 b.aL.length c3,.slice a4 b.aX.length c4,.slice a L.length c] 81));have B3:=bnew gP;have HW3:=wnew gP;have iI:=cV.t HW3.o;have xw:=N4.t HW3.o;have Yr:Hid (bW 5 A3 (.slice a L.length c) L):=xu.later (Kp.of HW3.o);have NY:Hid (L≠ []):=hL;have HTI:=hid hTI
  have HS:Hid (∀W,Below A3.heap.size A3 W->W.cell? ⟨w1.heap.size,0,none⟩=some (.int .i64 b.ak)/\W.cell? ⟨w1.heap.size,1,none⟩=some (.int .i64 b.ah)/\W.cell? ⟨w1.heap.size,2,none⟩=some (.slice a2 b.ptz.length c2)/\
   W.cell? ⟨w1.heap.size,3,none⟩=some (.slice a3 b.aL.length c3)/\W.cell? ⟨w1.heap.size,4,none⟩=some (.slice a4 b.aX.length c4)/\W.cell? ⟨w1.heap.size,5,none⟩=some (.slice a L.length c)/\W.cell? ⟨w.heap.size+1,0,none⟩=some (.slice la l.length lc)/\
   W.cell? ⟨w.heap.size+1+1,0,none⟩=some (cv W (w.heap.size+1+1) 0)/\W.cell? ⟨w.heap.size+1+1,1,none⟩=some (cv W (w.heap.size+1+1) 1)/\W.frozen? ⟨w.heap.size+1+1,0,none⟩=false/\W.frozen? ⟨w.heap.size+1+1,1,none⟩=false):=λW hW=>by
   have BX:=B3.o.below hW B3.o.lt;have BY:=B2.o.below (xw.o.trans (hW.mono xw.o.size)) B2.o.lt;have BZ:=BR.o.below (xw.o.trans (hW.mono xw.o.size)) BR.o.lt;exact⟨BX.cell 0 rfl,BX.cell 1 rfl,BX.cell 2 rfl,BX.cell 3 rfl,BX.cell 4 rfl,BX.cell 5 rfl,BY.cell 0 rfl,II (BZ.cell 0 rfl),II (BZ.cell 1 rfl),BZ.aH 0,BZ.aH 1⟩
  have CO:w.heap.size+1+1<w1.heap.size:=(BR.o.below N4.o BR.o.lt).lt
  have IG:Hid (∀W v0 v1,Below A3.heap.size A3 W->(λW:nq=>W.cell? ⟨w1.heap.size,0,none⟩=some (.int .i64 b.ak)/\W.cell? ⟨w1.heap.size,1,none⟩=some (.int .i64 b.ah)/\W.cell? ⟨w1.heap.size,2,none⟩=some (.slice a2 b.ptz.length c2)/\
   W.cell? ⟨w1.heap.size,3,none⟩=some (.slice a3 b.aL.length c3)/\W.cell? ⟨w1.heap.size,4,none⟩=some (.slice a4 b.aX.length c4)/\W.cell? ⟨w1.heap.size,5,none⟩=some (.slice a L.length c)/\W.cell? ⟨w.heap.size+1,0,none⟩=some (.slice la l.length lc)/\
   W.cell? ⟨w.heap.size+1+1,0,none⟩=some (cv W (w.heap.size+1+1) 0)/\W.cell? ⟨w.heap.size+1+1,1,none⟩=some (cv W (w.heap.size+1+1) 1)/\W.frozen? ⟨w.heap.size+1+1,0,none⟩=false/\W.frozen? ⟨w.heap.size+1+1,1,none⟩=false)
   ((W.setCell ⟨w.heap.size+1+1,0,none⟩ v0).setCell ⟨w.heap.size+1+1,1,none⟩ v1)):=λW v0 v1 hW=>by
   have hk:aa [w.heap.size+1+1] W ((W.setCell ⟨w.heap.size+1+1,0,none⟩ v0).setCell ⟨w.heap.size+1+1,1,none⟩ v1):=(aa.set W (by simp) _).trans' (aa.set _ (by simp) _);have BX:=hk.box (B3.o.below hW B3.o.lt) (by simp;omega);have BY:=hk.box (B2.o.below (xw.o.trans (hW.mono xw.o.size)) B2.o.lt) (by simp);have BZ:=((BR.o.below (xw.o.trans (hW.mono xw.o.size)) BR.o.lt).set 0 v0).set 1 v1;exact⟨BX.cell 0 rfl,BX.cell 1 rfl,BX.cell 2 rfl,BX.cell 3 rfl,BX.cell 4 rfl,BX.cell 5 rfl,BY.cell 0 rfl,II (BZ.cell 0 rfl),II (BZ.cell 1 rfl),BZ.aH 0,BZ.aH 1⟩
  clear hL xu hTI;go_wp2_with fail
  go_region_held3 (λW=>W.cell? ⟨w1.heap.size,0,none⟩=some (.int .i64 b.ak)/\W.cell? ⟨w1.heap.size,1,none⟩=some (.int .i64 b.ah)/\W.cell? ⟨w1.heap.size,2,none⟩=some (.slice a2 b.ptz.length c2)/\
   W.cell? ⟨w1.heap.size,3,none⟩=some (.slice a3 b.aL.length c3)/\W.cell? ⟨w1.heap.size,4,none⟩=some (.slice a4 b.aX.length c4)/\W.cell? ⟨w1.heap.size,5,none⟩=some (.slice a L.length c)/\W.cell? ⟨w.heap.size+1,0,none⟩=some (.slice la l.length lc)/\
   W.cell? ⟨w.heap.size+1+1,0,none⟩=some (cv W (w.heap.size+1+1) 0)/\W.cell? ⟨w.heap.size+1+1,1,none⟩=some (cv W (w.heap.size+1+1) 1)/\W.frozen? ⟨w.heap.size+1+1,0,none⟩=false/\W.frozen? ⟨w.heap.size+1+1,1,none⟩=false)
   (first|exact IG.o _ _ _ AM.o|exact HS.o _ AM.o|exact HS.o _ xx.o|exact HS.o _ (Below.drewN (Below.refl A3.heap.size A3) 1))
   (first
     |(go_at_call 61
       refine(ox _ _ l TZ (HL.o.later (Kp.of (iI.o.trans ((Below.drewN (Below.refl A3.heap.size A3) 1).mono iI.o.size))))).mono ?_;rintro e w6 ⟨rfl,Ew⟩;have xx:Hid (Below A3.heap.size A3 w6):=(Below.drewN (Below.refl A3.heap.size A3) 1).trans Ew;clear Ew)
     |(go_at_call 62
       refine(yO w6 _ _ _ _ b N HN.o rN L (Yr.o.later (Kp.of xx.o)) NY.o _ HMI.o HTI.o).mono ?_;rintro e w7 ⟨rfl,Gw⟩;have AM:=xx.t Gw;clear Gw))
  obtain⟨lo,IB⟩:=ex1 (pg N L (ac l));obtain⟨hi,Ug⟩:=ex1 (kN N L (ac l));have Yu:Hid (pg N L (ac l)=lo/\kN N L (ac l)=hi):=⟨IB,Ug⟩
  rw[IB,Ug];have BZ:=(BR.o.below (xw.o.trans (AM.o.mono xw.o.size)) BR.o.lt)
  obtain⟨WF,pB⟩:=ex1 ((w7.setCell ⟨w.heap.size+1+1,0,none⟩ (.int .i64 lo)).setCell ⟨w.heap.size+1+1,1,none⟩ (.int .i64 hi));have lW:aA WF (w.heap.size+1+1) 34 #[.int .i64 lo,.int .i64 hi]:=by rw[<-pB];exact(BZ.set 0 _).set 1 _
  have tX:aa [w.heap.size+1+1] w7 WF:=by rw[<-pB];exact(aa.set w7 (by simp) _).trans' (aa.set _ (by simp) _)
  have xt:Hid (Below w.heap.size w WF):=(iI.o.trans (AM.o.mono iI.o.size)).trans (tX.below (by simp;omega) (by have:=AM.o.size;have:=iI.o.size;omega));obtain⟨u0,u1⟩:=lW.c2;have e1:pg b.ah.toNat L (ac l)=lo:=by rw[xi.o];exact IB
  have e2:kN b.ah.toNat L (ac l)=hi:=by rw[xi.o];exact Ug
  have HE:Hid (pg b.ah.toNat L (ac l)=lo/\kN b.ah.toNat L (ac l)=hi):=⟨e1,e2⟩
  clear IB Ug e1 e2 BZ lW tX;rw[pB,RL.o];clear pB;go_wp2
  refine bodyPost_ret (v:=.tuple #[.agg #[.int .i64 lo,.int .i64 hi],.int .i64 0]) ?_ rfl ⟨.inr ⟨by rw[RL.o];exact NY.o,by rw[RL.o,HE.o.1,HE.o.2]⟩,xt.o⟩;rw[results_cell_tmp rfl];go_simp
end Go.Proofs.Cz
