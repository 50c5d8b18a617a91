/- A part. Conditions: none. -/
import Derived.Test.YtboiakcocelkmaaGreatDoorT36
set_option linter.all false
set_option maxHeartbeats 8000000
set_option maxRecDepth 100000
namespace Go.Proofs.Cz
open Go.RowKit
def cv (w:World) (g i:Nat):Value:=(w.cell? ⟨g,i,none⟩).getD undef
theorem Ef {w:World} {g i:Nat} {v:Value} (h:w.cell? ⟨g,i,none⟩=some v):w.cell? ⟨g,i,none⟩=some (cv w g i):=by unfold cv;rw[h];rfl
def JB (w:World) (b:ao) (L:List (Nat->Int)) (m:Nat->Int) (e:Ending) (w':World):Prop:=
 ((L=[]/\e=.returned (.tuple #[.agg #[.int .i64 0,.int .i64 0],.int .i64 9]))\/(L≠ []/\e=.returned (.tuple #[.agg #[.int .i64 (gW b.places.toNat L m),.int .i64 (fq b.places.toNat L m)],.int .i64 0])))/\Below w.heap.size w w'
theorem CJ (w:World) (v vl:Value) (b:ao) (l:List Int) (hb:au w v b) (hv:Valid b) (hc:jH w) (jq:dp b l) (hl:an w vl l):
 Calls ZP 12 #[v,vl] w (JB w b (aM b (aq b)) (aa l)):=by
 have HB:=hid hb;have HV:Hid (Valid b):=hv;have HC:Hid (jH w):=hc;have KH:Hid (dp b l):=jq;obtain⟨a2,c2,a3,c3,a4,c4,rfl⟩:=hb.cj;have Jv:Hid (pw w (.agg #[.int .i64 b.ak,.int .i64 b.places,.slice a2 b.parts.length c2,.slice a3 b.apart.length c3,.slice a4 b.ab.length c4]) (aq b)):=gG hb hv;obtain⟨la,lc,⟨rfl,ll,lm,ln,lr⟩,le⟩:=hl;have HL:Hid (an w (.slice la l.length lc) l):=⟨la,lc,⟨rfl,ll,lm,ln,lr⟩,le⟩
 clear ll lm ln lr le;have QP:l.length<=4:=by have:=jq.len;have:=hv.places;omega
 obtain⟨N,hN⟩:∃N:Nat,b.places=N:=⟨b.places.toNat,by have:=hv.places;omega⟩
 have zJ:N<=4:=by have:=hv.places;omega
 have VB:b.places.toNat=N:=by omega
 have HN:=hid hN;have wS:=hid VB
 have HMI:Hid (∀i,0<=aa l i/\aa l i<5):=fun i=>by
  by_cases hi:i<l.length
  .exact py hv.parts.many.2 jq i (by have:=jq.len;omega)
  .have e:l[i]?=none:=List.getElem?_eq_none (by omega);unfold aa;simp only[e];exact⟨by decide,by decide⟩
 obtain⟨A1,aV⟩:=ex1 (w.alloc (.cells #[.int .i64 b.ak,.int .i64 b.places,.slice a2 b.parts.length c2,.slice a3 b.apart.length c3,.slice a4 b.ab.length c4] 26));obtain⟨A0,tp⟩:=ex1 (A1.alloc (.cells #[.slice la l.length lc] 27));obtain⟨A2,bY⟩:=ex1 (A0.alloc (.cells #[.int .i64 0,.int .i64 0] 37));have eE:=snew aV;have GA:=snew2 tp eE
 have B1:Hid (aF A2 w.heap.size 26 #[.int .i64 b.ak,.int .i64 b.places,.slice a2 b.parts.length c2,.slice a3 b.apart.length c3,.slice a4 b.ab.length c4]):=by
  rw[<-bY];refine(ac.alloc [] _ _).box ?_ (by simp);rw[<-tp];refine(ac.alloc [] _ _).box ?_ (by simp);rw[<-aV];exact aF.new _ _ _
 have B2:Hid (aF A2 (w.heap.size+1) 27 #[.slice la l.length lc]):=by
  rw[<-bY];refine(ac.alloc [] _ _).box ?_ (by simp);rw[<-tp,<-eE];exact aF.new _ _ _
 have BR:=bnew2 bY GA;have HW:=wnew3 aV tp bY;obtain⟨z0,z1,z2,z3,z4⟩:=B1.o.c5
 have hO:=t7 A2 b _ a2 c2 _ _ (aq b) rfl (HB.o.later (Kp.of HW.o)) hv (HC.o.later HW.o) (w.heap.size+1) (fun X t hX=>Jv.o X t (HW.o.trans (hX.mono HW.o.size)))
  (fun X hX=>CH X _ _ b l (w.heap.size+1) (HB.o.later (Kp.of (HW.o.trans (hX.mono HW.o.size)))) HV.o KH.o (HL.o.later (Kp.of (HW.o.trans (hX.mono HW.o.size)))) (ai.cell ⟨X,hX⟩ (B2.o.cell 0 rfl)))
 clear hb hv hc jq hN VB;go_enter ZF12,Tryz.ntmps12
 go_wp2_with fail
 refine hO.mono ?_;rintro e w1 ⟨Kn,bj⟩;have eI:=HW.t bj;have sU:=hid bj;have sw:=fI HV.o;clear bj z0 z1 z2 z3 z4 hO aV tp bY eE GA;rcases Kn with⟨hL,rfl⟩|⟨hL,a,c,rfl,t6,_⟩
 .have HL:=hid hL;clear hL;obtain⟨W,hW⟩:=ex1 (w1.alloc (.cells #[.int .i64 0,.int .i64 0,.slice none 0 0,.slice none 0 0,.slice none 0 0,.slice none 0 0] 71));have Rf:=knew hW;have HR:=Rf.box (BR.o.below sU.o BR.o.lt) (by simp);obtain⟨t0,t1⟩:=HR.c2;have f0:=HR.bM 0;have f1:=HR.bM 1;have d0:=HR.same (i:=0) (v:=.int .i64 0) rfl;have d1:=HR.same (i:=1) (v:=.int .i64 0) rfl;have tZ:Hid (Below w.heap.size w W):=(eI.o.trans (Rf.below (by simp) eI.o.size):Below w.heap.size w W)
  have j7:=(bnew hW).o;have s0:=j7.c1;have g0:=j7.bM 0;have e0:=j7.same (i:=0) (v:=.int .i64 0) rfl;obtain⟨-,s1⟩:=j7.c2;have g1:=j7.bM 1;have e1:=j7.same (i:=1) (v:=.int .i64 0) rfl;obtain⟨-,-,s2⟩:=j7.c3;have g2:=j7.bM 2;have e2:=j7.same (i:=2) (v:=.slice none 0 0) rfl;obtain⟨-,-,-,s3⟩:=j7.c4;have g3:=j7.bM 3;have e3:=j7.same (i:=3) (v:=.slice none 0 0) rfl;obtain⟨-,-,-,-,s4⟩:=j7.c5;have g4:=j7.bM 4;have e4:=j7.same (i:=4) (v:=.slice none 0 0) rfl;obtain⟨-,-,-,-,-,s5⟩:=j7.c6;have g5:=j7.bM 5;have e5:=j7.same (i:=5) (v:=.slice none 0 0) rfl;clear Rf HR j7;go_wp2
  refine bodyPost_ret (v:=.tuple #[.agg #[.int .i64 0,.int .i64 0],.int .i64 9]) ?_ rfl ⟨.inl ⟨HL.o,rfl⟩,tZ.o⟩;rw[results_cell_tmp rfl];go_simp
 .obtain⟨L,CI⟩:=ex1 (aM b (aq b));have Q7:=pr HV.o (aq b);have GC:=hid CI;rw[CI]at hL t6 Q7⊢;clear CI;obtain⟨A3,iI⟩:=ex1 (w1.alloc (.cells #[.int .i64 b.ak,.int .i64 b.places,.slice a2 b.parts.length c2,.slice a3 b.apart.length c3,.slice a4 b.ab.length c4,.slice a L.length c] 71));have B3:=bnew iI;have Q8:=wnew iI;have gi:=eI.t Q8.o;have pz:=sU.t Q8.o;have Q9:Hid (bV 5 A3 (.slice a L.length c) L):=t6.later (Kp.of Q8.o);have OC:Hid (L≠ []):=hL;have Xt:=hid Q7
  have HS:Hid (∀W,Below A3.heap.size A3 W->W.cell? ⟨w1.heap.size,0,none⟩=some (.int .i64 b.ak)/\W.cell? ⟨w1.heap.size,1,none⟩=some (.int .i64 b.places)/\W.cell? ⟨w1.heap.size,2,none⟩=some (.slice a2 b.parts.length c2)/\
   W.cell? ⟨w1.heap.size,3,none⟩=some (.slice a3 b.apart.length c3)/\W.cell? ⟨w1.heap.size,4,none⟩=some (.slice a4 b.ab.length c4)/\W.cell? ⟨w1.heap.size,5,none⟩=some (.slice a L.length c)/\W.cell? ⟨w.heap.size+1,0,none⟩=some (.slice la l.length lc)/\
   W.cell? ⟨w.heap.size+1+1,0,none⟩=some (cv W (w.heap.size+1+1) 0)/\W.cell? ⟨w.heap.size+1+1,1,none⟩=some (cv W (w.heap.size+1+1) 1)/\W.frozen? ⟨w.heap.size+1+1,0,none⟩=false/\W.frozen? ⟨w.heap.size+1+1,1,none⟩=false):=fun W hW=>by
   have BX:=B3.o.below hW B3.o.lt;have BY:=B2.o.below (pz.o.trans (hW.mono pz.o.size)) B2.o.lt;have BZ:=BR.o.below (pz.o.trans (hW.mono pz.o.size)) BR.o.lt;exact⟨BX.cell 0 rfl,BX.cell 1 rfl,BX.cell 2 rfl,BX.cell 3 rfl,BX.cell 4 rfl,BX.cell 5 rfl,BY.cell 0 rfl,Ef (BZ.cell 0 rfl),Ef (BZ.cell 1 rfl),BZ.bM 0,BZ.bM 1⟩
  have y7:w.heap.size+1+1<w1.heap.size:=(BR.o.below sU.o BR.o.lt).lt
  have tq:Hid (∀W v0 v1,Below A3.heap.size A3 W->(fun W:World=>W.cell? ⟨w1.heap.size,0,none⟩=some (.int .i64 b.ak)/\W.cell? ⟨w1.heap.size,1,none⟩=some (.int .i64 b.places)/\W.cell? ⟨w1.heap.size,2,none⟩=some (.slice a2 b.parts.length c2)/\
   W.cell? ⟨w1.heap.size,3,none⟩=some (.slice a3 b.apart.length c3)/\W.cell? ⟨w1.heap.size,4,none⟩=some (.slice a4 b.ab.length c4)/\W.cell? ⟨w1.heap.size,5,none⟩=some (.slice a L.length c)/\W.cell? ⟨w.heap.size+1,0,none⟩=some (.slice la l.length lc)/\
   W.cell? ⟨w.heap.size+1+1,0,none⟩=some (cv W (w.heap.size+1+1) 0)/\W.cell? ⟨w.heap.size+1+1,1,none⟩=some (cv W (w.heap.size+1+1) 1)/\W.frozen? ⟨w.heap.size+1+1,0,none⟩=false/\W.frozen? ⟨w.heap.size+1+1,1,none⟩=false)
   ((W.setCell ⟨w.heap.size+1+1,0,none⟩ v0).setCell ⟨w.heap.size+1+1,1,none⟩ v1)):=fun W v0 v1 hW=>by
   have hk:ac [w.heap.size+1+1] W ((W.setCell ⟨w.heap.size+1+1,0,none⟩ v0).setCell ⟨w.heap.size+1+1,1,none⟩ v1):=(ac.set W (by simp) _).trans' (ac.set _ (by simp) _);have BX:=hk.box (B3.o.below hW B3.o.lt) (by simp;omega);have BY:=hk.box (B2.o.below (pz.o.trans (hW.mono pz.o.size)) B2.o.lt) (by simp);have BZ:=((BR.o.below (pz.o.trans (hW.mono pz.o.size)) BR.o.lt).set 0 v0).set 1 v1;exact⟨BX.cell 0 rfl,BX.cell 1 rfl,BX.cell 2 rfl,BX.cell 3 rfl,BX.cell 4 rfl,BX.cell 5 rfl,BY.cell 0 rfl,Ef (BZ.cell 0 rfl),Ef (BZ.cell 1 rfl),BZ.bM 0,BZ.bM 1⟩
  clear hL t6 Q7;go_wp2_with fail
  go_region_held3 (fun W=>W.cell? ⟨w1.heap.size,0,none⟩=some (.int .i64 b.ak)/\W.cell? ⟨w1.heap.size,1,none⟩=some (.int .i64 b.places)/\W.cell? ⟨w1.heap.size,2,none⟩=some (.slice a2 b.parts.length c2)/\
   W.cell? ⟨w1.heap.size,3,none⟩=some (.slice a3 b.apart.length c3)/\W.cell? ⟨w1.heap.size,4,none⟩=some (.slice a4 b.ab.length c4)/\W.cell? ⟨w1.heap.size,5,none⟩=some (.slice a L.length c)/\W.cell? ⟨w.heap.size+1,0,none⟩=some (.slice la l.length lc)/\
   W.cell? ⟨w.heap.size+1+1,0,none⟩=some (cv W (w.heap.size+1+1) 0)/\W.cell? ⟨w.heap.size+1+1,1,none⟩=some (cv W (w.heap.size+1+1) 1)/\W.frozen? ⟨w.heap.size+1+1,0,none⟩=false/\W.frozen? ⟨w.heap.size+1+1,1,none⟩=false)
   (first|exact tq.o _ _ _ mr.o|exact HS.o _ mr.o|exact HS.o _ oh.o|exact HS.o _ (Below.drewN (Below.refl A3.heap.size A3) 1))
   (first
     |(go_at_call 55
       refine(jm _ _ l QP (HL.o.later (Kp.of (gi.o.trans ((Below.drewN (Below.refl A3.heap.size A3) 1).mono gi.o.size))))).mono ?_;rintro e w6 ⟨rfl,tu⟩;have oh:Hid (Below A3.heap.size A3 w6):=(Below.drewN (Below.refl A3.heap.size A3) 1).trans tu;clear tu)
     |(go_at_call 54
       refine(pu w6 _ _ _ _ b N HN.o zJ L (Q9.o.later (Kp.of oh.o)) OC.o _ HMI.o Xt.o).mono ?_;rintro e w7 ⟨rfl,xk⟩;have mr:=oh.t xk;clear xk))
  obtain⟨lo,qe⟩:=ex1 (gW N L (aa l));obtain⟨hi,sO⟩:=ex1 (fq N L (aa l));have SB:Hid (gW N L (aa l)=lo/\fq N L (aa l)=hi):=⟨qe,sO⟩
  rw[qe,sO];have BZ:=(BR.o.below (pz.o.trans (mr.o.mono pz.o.size)) BR.o.lt)
  obtain⟨WF,vi⟩:=ex1 ((w7.setCell ⟨w.heap.size+1+1,0,none⟩ (.int .i64 lo)).setCell ⟨w.heap.size+1+1,1,none⟩ (.int .i64 hi));have kF:aF WF (w.heap.size+1+1) 37 #[.int .i64 lo,.int .i64 hi]:=by rw[<-vi];exact(BZ.set 0 _).set 1 _
  have CA:ac [w.heap.size+1+1] w7 WF:=by rw[<-vi];exact(ac.set w7 (by simp) _).trans' (ac.set _ (by simp) _)
  have tZ:Hid (Below w.heap.size w WF):=(gi.o.trans (mr.o.mono gi.o.size)).trans (CA.below (by simp;omega) (by have:=mr.o.size;have:=gi.o.size;omega));obtain⟨u0,u1⟩:=kF.c2;have e1:gW b.places.toNat L (aa l)=lo:=by rw[wS.o];exact qe
  have e2:fq b.places.toNat L (aa l)=hi:=by rw[wS.o];exact sO
  have HE:Hid (gW b.places.toNat L (aa l)=lo/\fq b.places.toNat L (aa l)=hi):=⟨e1,e2⟩
  clear qe sO e1 e2 BZ kF CA;rw[vi,GC.o];clear vi;go_wp2
  refine bodyPost_ret (v:=.tuple #[.agg #[.int .i64 lo,.int .i64 hi],.int .i64 0]) ?_ rfl ⟨.inr ⟨by rw[GC.o];exact OC.o,by rw[GC.o,HE.o.1,HE.o.2]⟩,tZ.o⟩;rw[results_cell_tmp rfl];go_simp
end Go.Proofs.Cz
