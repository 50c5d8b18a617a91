/- A part. Conditions: none. -/
import Derived.Test.YtehbindidbgacaaGreatDoorT35
set_option linter.all false
set_option maxHeartbeats 8000000
set_option maxRecDepth 100000
namespace Go.Proofs.Cz
open Go.RowKit
def cv (w:World) (g i:Nat):Value:=(w.cell? ⟨g,i,none⟩).getD undef
theorem qg {w:World} {g i:Nat} {v:Value} (h:w.cell? ⟨g,i,none⟩=some v):w.cell? ⟨g,i,none⟩=some (cv w g i):=by unfold cv;rw[h];rfl
def sD (w:World) (b:an) (L:List (Nat->Int)) (m:Nat->Int) (e:Ending) (w':World):Prop:=
 ((L=[]/\e=.returned (.tuple #[.agg #[.int .i64 0,.int .i64 0],.int .i64 9]))\/(L≠ []/\e=.returned (.tuple #[.agg #[.int .i64 (jO b.places.toNat L m),.int .i64 (gV b.places.toNat L m)],.int .i64 0])))/\Below w.heap.size w w'
theorem Cg (w:World) (v vl:Value) (b:an) (l:List Int) (hb:ap w v b) (hv:Valid b) (hc:Chk w) (jA:cN b l) (hl:ao w vl l):
 Calls ZP 22 #[v,vl] w (sD w b (aD b (aF b)) (ac l)):=by
 have HB:=hid hb;have HV:Hid (Valid b):=hv;have HC:Hid (Chk w):=hc;have NO:Hid (cN b l):=jA;obtain⟨a2,c2,a3,c3,a4,c4,rfl⟩:=hb.et;have tV:Hid (gW w (.agg #[.int .i64 b.ah,.int .i64 b.places,.slice a2 b.parts.length c2,.slice a3 b.apart.length c3,.slice a4 b.aa.length c4]) (aF b)):=fk hb hv;obtain⟨la,lc,⟨rfl,ll,lm,ln,lr⟩,le⟩:=hl;have HL:Hid (ao w (.slice la l.length lc) l):=⟨la,lc,⟨rfl,ll,lm,ln,lr⟩,le⟩
 clear ll lm ln lr le;have IM:l.length<=4:=by have:=jA.len;have:=hv.places;omega
 obtain⟨N,hN⟩:∃N:Nat,b.places=N:=⟨b.places.toNat,by have:=hv.places;omega⟩
 have qe:N<=4:=by have:=hv.places;omega
 have Vs:b.places.toNat=N:=by omega
 have HN:=hid hN;have oG:=hid Vs
 have HMI:Hid (∀i,0<=ac l i/\ac l i<5):=fun i=>by
  by_cases hi:i<l.length
  .exact pz hv.parts.many.2 jA i (by have:=jA.len;omega)
  .have e:l[i]?=none:=List.getElem?_eq_none (by omega);unfold ac;simp only[e];exact⟨by decide,by decide⟩
 obtain⟨A1,ba⟩:=ex1 (w.alloc (.cells #[.int .i64 b.ah,.int .i64 b.places,.slice a2 b.parts.length c2,.slice a3 b.apart.length c3,.slice a4 b.aa.length c4] 26));obtain⟨A0,Ai⟩:=ex1 (A1.alloc (.cells #[.slice la l.length lc] 31));obtain⟨A2,bN⟩:=ex1 (A0.alloc (.cells #[.int .i64 0,.int .i64 0] 43));have eR:=snew ba;have NS:=snew2 Ai eR
 have B1:Hid (aC A2 w.heap.size 26 #[.int .i64 b.ah,.int .i64 b.places,.slice a2 b.parts.length c2,.slice a3 b.apart.length c3,.slice a4 b.aa.length c4]):=by
  rw[<-bN];refine(ab.alloc [] _ _).box ?_ (by simp);rw[<-Ai];refine(ab.alloc [] _ _).box ?_ (by simp);rw[<-ba];exact aC.new _ _ _
 have B2:Hid (aC A2 (w.heap.size+1) 31 #[.slice la l.length lc]):=by
  rw[<-bN];refine(ab.alloc [] _ _).box ?_ (by simp);rw[<-Ai,<-eR];exact aC.new _ _ _
 have BR:=bnew2 bN NS;have HW:=wnew3 ba Ai bN;obtain⟨z0,z1,z2,z3,z4⟩:=B1.o.c5
 have hO:=tW A2 b _ a2 c2 _ _ (aF b) rfl (HB.o.later (Kp.of HW.o)) hv (HC.o.later HW.o) (w.heap.size+1) (fun X t hX=>tV.o X t (HW.o.trans (hX.mono HW.o.size)))
  (fun X hX=>Ce X _ _ b l (w.heap.size+1) (HB.o.later (Kp.of (HW.o.trans (hX.mono HW.o.size)))) HV.o NO.o (HL.o.later (Kp.of (HW.o.trans (hX.mono HW.o.size)))) (aj.cell ⟨X,hX⟩ (B2.o.cell 0 rfl)))
 clear hb hv hc jA hN Vs;go_enter ZF22,Tryz.ntmps22
 go_wp2_with fail
 refine hO.mono ?_;rintro e w1 ⟨xp,bi⟩;have db:=HW.t bi;have I3:=hid bi;have F6:=dy HV.o;clear bi z0 z1 z2 z3 z4 hO ba Ai bN eR NS;rcases xp with⟨hL,rfl⟩|⟨hL,a,c,rfl,ox,_⟩
 .have HL:=hid hL;clear hL;obtain⟨W,hW⟩:=ex1 (w1.alloc (.cells #[.int .i64 0,.int .i64 0,.slice none 0 0,.slice none 0 0,.slice none 0 0,.slice none 0 0] 93));have sA:=knew hW;have HR:=sA.box (BR.o.below I3.o BR.o.lt) (by simp);obtain⟨t0,t1⟩:=HR.c2;have f0:=HR.aI 0;have f1:=HR.aI 1;have d0:=HR.same (i:=0) (v:=.int .i64 0) rfl;have d1:=HR.same (i:=1) (v:=.int .i64 0) rfl;have pv:Hid (Below w.heap.size w W):=(db.o.trans (sA.below (by simp) db.o.size):Below w.heap.size w W)
  have dF:=(bnew hW).o;have s0:=dF.c1;have g0:=dF.aI 0;have e0:=dF.same (i:=0) (v:=.int .i64 0) rfl;obtain⟨-,s1⟩:=dF.c2;have g1:=dF.aI 1;have e1:=dF.same (i:=1) (v:=.int .i64 0) rfl;obtain⟨-,-,s2⟩:=dF.c3;have g2:=dF.aI 2;have e2:=dF.same (i:=2) (v:=.slice none 0 0) rfl;obtain⟨-,-,-,s3⟩:=dF.c4;have g3:=dF.aI 3;have e3:=dF.same (i:=3) (v:=.slice none 0 0) rfl;obtain⟨-,-,-,-,s4⟩:=dF.c5;have g4:=dF.aI 4;have e4:=dF.same (i:=4) (v:=.slice none 0 0) rfl;obtain⟨-,-,-,-,-,s5⟩:=dF.c6;have g5:=dF.aI 5;have e5:=dF.same (i:=5) (v:=.slice none 0 0) rfl;clear sA HR dF;go_wp2
  refine bodyPost_ret (v:=.tuple #[.agg #[.int .i64 0,.int .i64 0],.int .i64 9]) ?_ rfl ⟨.inl ⟨HL.o,rfl⟩,pv.o⟩;rw[results_cell_tmp rfl];go_simp
 .obtain⟨L,me⟩:=ex1 (aD b (aF b));have QI:=jN HV.o (aF b);have mi:=hid me;rw[me]at hL ox QI⊢;clear me;obtain⟨A3,ii⟩:=ex1 (w1.alloc (.cells #[.int .i64 b.ah,.int .i64 b.places,.slice a2 b.parts.length c2,.slice a3 b.apart.length c3,.slice a4 b.aa.length c4,.slice a L.length c] 93));have B3:=bnew ii;have QJ:=wnew ii;have eM:=db.t QJ.o;have lJ:=I3.t QJ.o;have Md:Hid (bh 5 A3 (.slice a L.length c) L):=ox.later (Kp.of QJ.o);have ve:Hid (L≠ []):=hL;have R7:=hid QI
  have HS:Hid (∀W,Below A3.heap.size A3 W->W.cell? ⟨w1.heap.size,0,none⟩=some (.int .i64 b.ah)/\W.cell? ⟨w1.heap.size,1,none⟩=some (.int .i64 b.places)/\W.cell? ⟨w1.heap.size,2,none⟩=some (.slice a2 b.parts.length c2)/\
   W.cell? ⟨w1.heap.size,3,none⟩=some (.slice a3 b.apart.length c3)/\W.cell? ⟨w1.heap.size,4,none⟩=some (.slice a4 b.aa.length c4)/\W.cell? ⟨w1.heap.size,5,none⟩=some (.slice a L.length c)/\W.cell? ⟨w.heap.size+1,0,none⟩=some (.slice la l.length lc)/\
   W.cell? ⟨w.heap.size+1+1,0,none⟩=some (cv W (w.heap.size+1+1) 0)/\W.cell? ⟨w.heap.size+1+1,1,none⟩=some (cv W (w.heap.size+1+1) 1)/\W.frozen? ⟨w.heap.size+1+1,0,none⟩=false/\W.frozen? ⟨w.heap.size+1+1,1,none⟩=false):=fun W hW=>by
   have BX:=B3.o.below hW B3.o.lt;have BY:=B2.o.below (lJ.o.trans (hW.mono lJ.o.size)) B2.o.lt;have BZ:=BR.o.below (lJ.o.trans (hW.mono lJ.o.size)) BR.o.lt;exact⟨BX.cell 0 rfl,BX.cell 1 rfl,BX.cell 2 rfl,BX.cell 3 rfl,BX.cell 4 rfl,BX.cell 5 rfl,BY.cell 0 rfl,qg (BZ.cell 0 rfl),qg (BZ.cell 1 rfl),BZ.aI 0,BZ.aI 1⟩
  have rT:w.heap.size+1+1<w1.heap.size:=(BR.o.below I3.o BR.o.lt).lt
  have Ak:Hid (∀W v0 v1,Below A3.heap.size A3 W->(fun W:World=>W.cell? ⟨w1.heap.size,0,none⟩=some (.int .i64 b.ah)/\W.cell? ⟨w1.heap.size,1,none⟩=some (.int .i64 b.places)/\W.cell? ⟨w1.heap.size,2,none⟩=some (.slice a2 b.parts.length c2)/\
   W.cell? ⟨w1.heap.size,3,none⟩=some (.slice a3 b.apart.length c3)/\W.cell? ⟨w1.heap.size,4,none⟩=some (.slice a4 b.aa.length c4)/\W.cell? ⟨w1.heap.size,5,none⟩=some (.slice a L.length c)/\W.cell? ⟨w.heap.size+1,0,none⟩=some (.slice la l.length lc)/\
   W.cell? ⟨w.heap.size+1+1,0,none⟩=some (cv W (w.heap.size+1+1) 0)/\W.cell? ⟨w.heap.size+1+1,1,none⟩=some (cv W (w.heap.size+1+1) 1)/\W.frozen? ⟨w.heap.size+1+1,0,none⟩=false/\W.frozen? ⟨w.heap.size+1+1,1,none⟩=false)
   ((W.setCell ⟨w.heap.size+1+1,0,none⟩ v0).setCell ⟨w.heap.size+1+1,1,none⟩ v1)):=fun W v0 v1 hW=>by
   have hk:ab [w.heap.size+1+1] W ((W.setCell ⟨w.heap.size+1+1,0,none⟩ v0).setCell ⟨w.heap.size+1+1,1,none⟩ v1):=(ab.set W (by simp) _).trans' (ab.set _ (by simp) _);have BX:=hk.box (B3.o.below hW B3.o.lt) (by simp;omega);have BY:=hk.box (B2.o.below (lJ.o.trans (hW.mono lJ.o.size)) B2.o.lt) (by simp);have BZ:=((BR.o.below (lJ.o.trans (hW.mono lJ.o.size)) BR.o.lt).set 0 v0).set 1 v1;exact⟨BX.cell 0 rfl,BX.cell 1 rfl,BX.cell 2 rfl,BX.cell 3 rfl,BX.cell 4 rfl,BX.cell 5 rfl,BY.cell 0 rfl,qg (BZ.cell 0 rfl),qg (BZ.cell 1 rfl),BZ.aI 0,BZ.aI 1⟩
  clear hL ox QI;go_wp2_with fail
  go_region_held3 (fun W=>W.cell? ⟨w1.heap.size,0,none⟩=some (.int .i64 b.ah)/\W.cell? ⟨w1.heap.size,1,none⟩=some (.int .i64 b.places)/\W.cell? ⟨w1.heap.size,2,none⟩=some (.slice a2 b.parts.length c2)/\
   W.cell? ⟨w1.heap.size,3,none⟩=some (.slice a3 b.apart.length c3)/\W.cell? ⟨w1.heap.size,4,none⟩=some (.slice a4 b.aa.length c4)/\W.cell? ⟨w1.heap.size,5,none⟩=some (.slice a L.length c)/\W.cell? ⟨w.heap.size+1,0,none⟩=some (.slice la l.length lc)/\
   W.cell? ⟨w.heap.size+1+1,0,none⟩=some (cv W (w.heap.size+1+1) 0)/\W.cell? ⟨w.heap.size+1+1,1,none⟩=some (cv W (w.heap.size+1+1) 1)/\W.frozen? ⟨w.heap.size+1+1,0,none⟩=false/\W.frozen? ⟨w.heap.size+1+1,1,none⟩=false)
   (first|exact Ak.o _ _ _ kJ.o|exact HS.o _ kJ.o|exact HS.o _ mj.o|exact HS.o _ (Below.drewN (Below.refl A3.heap.size A3) 1))
   (first
     |(go_at_call 67
       refine(jo _ _ l IM (HL.o.later (Kp.of (eM.o.trans ((Below.drewN (Below.refl A3.heap.size A3) 1).mono eM.o.size))))).mono ?_;rintro e w6 ⟨rfl,xC⟩;have mj:Hid (Below A3.heap.size A3 w6):=(Below.drewN (Below.refl A3.heap.size A3) 1).trans xC;clear xC)
     |(go_at_call 62
       refine(jP w6 _ _ _ _ b N HN.o qe L (Md.o.later (Kp.of mj.o)) ve.o _ HMI.o R7.o).mono ?_;rintro e w7 ⟨rfl,tg⟩;have kJ:=mj.t tg;clear tg))
  obtain⟨lo,mD⟩:=ex1 (jO N L (ac l));obtain⟨hi,zJ⟩:=ex1 (gV N L (ac l));have Cf:Hid (jO N L (ac l)=lo/\gV N L (ac l)=hi):=⟨mD,zJ⟩
  rw[mD,zJ];have BZ:=(BR.o.below (lJ.o.trans (kJ.o.mono lJ.o.size)) BR.o.lt)
  obtain⟨WF,kC⟩:=ex1 ((w7.setCell ⟨w.heap.size+1+1,0,none⟩ (.int .i64 lo)).setCell ⟨w.heap.size+1+1,1,none⟩ (.int .i64 hi));have iP:aC WF (w.heap.size+1+1) 43 #[.int .i64 lo,.int .i64 hi]:=by rw[<-kC];exact(BZ.set 0 _).set 1 _
  have oH:ab [w.heap.size+1+1] w7 WF:=by rw[<-kC];exact(ab.set w7 (by simp) _).trans' (ab.set _ (by simp) _)
  have pv:Hid (Below w.heap.size w WF):=(eM.o.trans (kJ.o.mono eM.o.size)).trans (oH.below (by simp;omega) (by have:=kJ.o.size;have:=eM.o.size;omega));obtain⟨u0,u1⟩:=iP.c2;have e1:jO b.places.toNat L (ac l)=lo:=by rw[oG.o];exact mD
  have e2:gV b.places.toNat L (ac l)=hi:=by rw[oG.o];exact zJ
  have HE:Hid (jO b.places.toNat L (ac l)=lo/\gV b.places.toNat L (ac l)=hi):=⟨e1,e2⟩
  clear mD zJ e1 e2 BZ iP oH;rw[kC,mi.o];clear kC;go_wp2
  refine bodyPost_ret (v:=.tuple #[.agg #[.int .i64 lo,.int .i64 hi],.int .i64 0]) ?_ rfl ⟨.inr ⟨by rw[mi.o];exact ve.o,by rw[mi.o,HE.o.1,HE.o.2]⟩,pv.o⟩;rw[results_cell_tmp rfl];go_simp
end Go.Proofs.Cz
