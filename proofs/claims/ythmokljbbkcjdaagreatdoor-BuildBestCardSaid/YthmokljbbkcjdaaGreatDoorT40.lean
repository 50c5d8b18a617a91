/- A part. Conditions: none. -/
import Derived.Test.YthmokljbbkcjdaaGreatDoorT39
set_option linter.all false
set_option maxHeartbeats 8000000
set_option maxRecDepth 100000
namespace Go.Proofs.Cz
open Go.RowKit
variable {L S l:List (Nat->Int)} {W:World} {b:av} {fn:Func} {g i k n t:Nat} {ks:List ((Nat->Int)->Int)} {m t0 x:Nat->Int} {o:List Int} {ty:TypeId} {u:Tmp}
def cv (w:World) (g i:Nat):Value:=(w.cell? ⟨g,i,none⟩).getD undef
theorem oP {w:World} {v:Value} (h:w.cell? ⟨g,i,none⟩=some v):w.cell? ⟨g,i,none⟩=some (cv w g i):=by unfold cv;rw[h];rfl
def I2 (w:World) (b:av) (L:List (Nat->Int)) (m:Nat->Int) (e:Ending) (w':World):Prop:=
 ((L=[]/\e=.returned (.tuple #[.agg #[.int .i64 0,.int .i64 0],.int .i64 9]))\/(L≠ []/\e=.returned (.tuple #[.agg #[.int .i64 (jY b.places.toNat L m),.int .i64 (gV b.places.toNat L m)],.int .i64 0])))/\Below w.heap.size w w'
theorem sO (w:World) (v vl:Value) (b:av) (l:List Int) (hb:aD w v b) (hv:Valid b) (hc:kD w) (fS:bY b l) (hl:az w vl l):
 Calls ZP 38 #[v,vl] w (I2 w b (aC b (bX b)) (ai l)):=by
 have HB:=hid hb;have HV:Hid (Valid b):=hv;have HC:Hid (kD w):=hc;have Iw:Hid (bY b l):=fS;obtain⟨a2,c2,a3,c3,a4,c4,rfl⟩:=hb.gm;have uU:Hid (kF w (.agg #[.int .i64 b.an,.int .i64 b.places,.slice a2 b.parts.length c2,.slice a3 b.apart.length c3,.slice a4 b.ac.length c4]) (bX b)):=lW hb hv;obtain⟨la,lc,⟨rfl,ll,lm,ln,lr⟩,le⟩:=hl;have HL:Hid (az w (.slice la l.length lc) l):=⟨la,lc,⟨rfl,ll,lm,ln,lr⟩,le⟩
 clear ll lm ln lr le;have LM:l.length<=4:=by have:=fS.len;have:=hv.places;omega
 obtain⟨N,hN⟩:∃N:Nat,b.places=N:=⟨b.places.toNat,by have:=hv.places;omega⟩
 have lT:N<=4:=by have:=hv.places;omega
 have NG:b.places.toNat=N:=by omega
 have HN:=hid hN;have sG:=hid NG
 have HMI:Hid (∀i,0<=ai l i/\ai l i<5):=fun i=>by
  by_cases hi:i<l.length
  .exact pY hv.parts.many.2 fS i (by have:=fS.len;omega)
  .have e:l[i]?=none:=List.getElem?_eq_none (by omega);unfold ai;simp only[e];exact⟨by decide,by decide⟩
 obtain⟨A1,bB⟩:=ex1 (w.alloc (.cells #[.int .i64 b.an,.int .i64 b.places,.slice a2 b.parts.length c2,.slice a3 b.apart.length c3,.slice a4 b.ac.length c4] 26));obtain⟨A0,qO⟩:=ex1 (A1.alloc (.cells #[.slice la l.length lc] 32));obtain⟨A2,cu⟩:=ex1 (A0.alloc (.cells #[.int .i64 0,.int .i64 0] 31));have eS:=snew bB;have F9:=snew2 qO eS
 have B1:Hid (aF A2 w.heap.size 26 #[.int .i64 b.an,.int .i64 b.places,.slice a2 b.parts.length c2,.slice a3 b.apart.length c3,.slice a4 b.ac.length c4]):=by
  rw[<-cu];refine(aa.alloc [] _ _).box ?_ (by simp);rw[<-qO];refine(aa.alloc [] _ _).box ?_ (by simp);rw[<-bB];exact aF.new _ _ _
 have B2:Hid (aF A2 (w.heap.size+1) 32 #[.slice la l.length lc]):=by
  rw[<-cu];refine(aa.alloc [] _ _).box ?_ (by simp);rw[<-qO,<-eS];exact aF.new _ _ _
 have BR:=bnew2 cu F9;have HW:=wnew3 bB qO cu;obtain⟨z0,z1,z2,z3,z4⟩:=B1.o.c5
 have hO:=tT A2 b _ a2 c2 _ _ (bX b) rfl (HB.o.later (Kp.of HW.o)) hv (HC.o.later HW.o) (w.heap.size+1) (fun X t hX=>uU.o X t (HW.o.trans (hX.mono HW.o.size)))
  (fun X hX=>Ci X _ _ b l (w.heap.size+1) (HB.o.later (Kp.of (HW.o.trans (hX.mono HW.o.size)))) HV.o Iw.o (HL.o.later (Kp.of (HW.o.trans (hX.mono HW.o.size)))) (am.cell ⟨X,hX⟩ (B2.o.cell 0 rfl)))
 clear hb hv hc fS hN NG;go_enter ZF38,Tryz.ntmps38
 go_wp2_with fail
 refine hO.mono ?_;rintro e w1 ⟨xK,bN⟩;have dF:=HW.t bN;have I1:=hid bN;have JT:=eN HV.o;clear bN z0 z1 z2 z3 z4 hO bB qO cu eS F9;rcases xK with⟨hL,rfl⟩|⟨hL,a,c,rfl,sH,_⟩
 .have HL:=hid hL;clear hL;obtain⟨W,hW⟩:=ex1 (w1.alloc (.cells #[.int .i64 0,.int .i64 0,.slice none 0 0,.slice none 0 0,.slice none 0 0,.slice none 0 0] 86));have xR:=knew hW;have HR:=xR.box (BR.o.below I1.o BR.o.lt) (by simp);obtain⟨t0,t1⟩:=HR.c2;have f0:=HR.aN 0;have f1:=HR.aN 1;have d0:=HR.same (i:=0) (v:=.int .i64 0) rfl;have d1:=HR.same (i:=1) (v:=.int .i64 0) rfl;have pT:Hid (Below w.heap.size w W):=(dF.o.trans (xR.below (by simp) dF.o.size):Below w.heap.size w W)
  have dS:=(bnew hW).o;have s0:=dS.c1;have g0:=dS.aN 0;have e0:=dS.same (i:=0) (v:=.int .i64 0) rfl;obtain⟨-,s1⟩:=dS.c2;have g1:=dS.aN 1;have e1:=dS.same (i:=1) (v:=.int .i64 0) rfl;obtain⟨-,-,s2⟩:=dS.c3;have g2:=dS.aN 2;have e2:=dS.same (i:=2) (v:=.slice none 0 0) rfl;obtain⟨-,-,-,s3⟩:=dS.c4;have g3:=dS.aN 3;have e3:=dS.same (i:=3) (v:=.slice none 0 0) rfl;obtain⟨-,-,-,-,s4⟩:=dS.c5;have g4:=dS.aN 4;have e4:=dS.same (i:=4) (v:=.slice none 0 0) rfl;obtain⟨-,-,-,-,-,s5⟩:=dS.c6;have g5:=dS.aN 5;have e5:=dS.same (i:=5) (v:=.slice none 0 0) rfl;clear xR HR dS;go_wp2
  refine bodyPost_ret (v:=.tuple #[.agg #[.int .i64 0,.int .i64 0],.int .i64 9]) ?_ rfl ⟨.inl ⟨HL.o,rfl⟩,pT.o⟩;rw[results_cell_tmp rfl];go_simp
 .obtain⟨L,qP⟩:=ex1 (aC b (bX b));have Qp:=mz HV.o (bX b);have tU:=hid qP;rw[qP]at hL sH Qp⊢;clear qP;obtain⟨A3,gM⟩:=ex1 (w1.alloc (.cells #[.int .i64 b.an,.int .i64 b.places,.slice a2 b.parts.length c2,.slice a3 b.apart.length c3,.slice a4 b.ac.length c4,.slice a L.length c] 86));have B3:=bnew gM;have DF:=wnew gM;have jm:=dF.t DF.o;have pZ:=I1.t DF.o;have RJ:Hid (bC 5 A3 (.slice a L.length c) L):=sH.later (Kp.of DF.o);have kZ:Hid (L≠ []):=hL;have RN:=hid Qp
  have HS:Hid (∀W,Below A3.heap.size A3 W->W.cell? ⟨w1.heap.size,0,none⟩=some (.int .i64 b.an)/\W.cell? ⟨w1.heap.size,1,none⟩=some (.int .i64 b.places)/\W.cell? ⟨w1.heap.size,2,none⟩=some (.slice a2 b.parts.length c2)/\
   W.cell? ⟨w1.heap.size,3,none⟩=some (.slice a3 b.apart.length c3)/\W.cell? ⟨w1.heap.size,4,none⟩=some (.slice a4 b.ac.length c4)/\W.cell? ⟨w1.heap.size,5,none⟩=some (.slice a L.length c)/\W.cell? ⟨w.heap.size+1,0,none⟩=some (.slice la l.length lc)/\
   W.cell? ⟨w.heap.size+1+1,0,none⟩=some (cv W (w.heap.size+1+1) 0)/\W.cell? ⟨w.heap.size+1+1,1,none⟩=some (cv W (w.heap.size+1+1) 1)/\W.frozen? ⟨w.heap.size+1+1,0,none⟩=false/\W.frozen? ⟨w.heap.size+1+1,1,none⟩=false):=fun W hW=>by
   have BX:=B3.o.below hW B3.o.lt;have BY:=B2.o.below (pZ.o.trans (hW.mono pZ.o.size)) B2.o.lt;have BZ:=BR.o.below (pZ.o.trans (hW.mono pZ.o.size)) BR.o.lt;exact⟨BX.cell 0 rfl,BX.cell 1 rfl,BX.cell 2 rfl,BX.cell 3 rfl,BX.cell 4 rfl,BX.cell 5 rfl,BY.cell 0 rfl,oP (BZ.cell 0 rfl),oP (BZ.cell 1 rfl),BZ.aN 0,BZ.aN 1⟩
  have wD:w.heap.size+1+1<w1.heap.size:=(BR.o.below I1.o BR.o.lt).lt
  have zU:Hid (∀W v0 v1,Below A3.heap.size A3 W->(fun W:World=>W.cell? ⟨w1.heap.size,0,none⟩=some (.int .i64 b.an)/\W.cell? ⟨w1.heap.size,1,none⟩=some (.int .i64 b.places)/\W.cell? ⟨w1.heap.size,2,none⟩=some (.slice a2 b.parts.length c2)/\
   W.cell? ⟨w1.heap.size,3,none⟩=some (.slice a3 b.apart.length c3)/\W.cell? ⟨w1.heap.size,4,none⟩=some (.slice a4 b.ac.length c4)/\W.cell? ⟨w1.heap.size,5,none⟩=some (.slice a L.length c)/\W.cell? ⟨w.heap.size+1,0,none⟩=some (.slice la l.length lc)/\
   W.cell? ⟨w.heap.size+1+1,0,none⟩=some (cv W (w.heap.size+1+1) 0)/\W.cell? ⟨w.heap.size+1+1,1,none⟩=some (cv W (w.heap.size+1+1) 1)/\W.frozen? ⟨w.heap.size+1+1,0,none⟩=false/\W.frozen? ⟨w.heap.size+1+1,1,none⟩=false)
   ((W.setCell ⟨w.heap.size+1+1,0,none⟩ v0).setCell ⟨w.heap.size+1+1,1,none⟩ v1)):=fun W v0 v1 hW=>by
   have hk:aa [w.heap.size+1+1] W ((W.setCell ⟨w.heap.size+1+1,0,none⟩ v0).setCell ⟨w.heap.size+1+1,1,none⟩ v1):=(aa.set W (by simp) _).trans' (aa.set _ (by simp) _);have BX:=hk.box (B3.o.below hW B3.o.lt) (by simp;omega);have BY:=hk.box (B2.o.below (pZ.o.trans (hW.mono pZ.o.size)) B2.o.lt) (by simp);have BZ:=((BR.o.below (pZ.o.trans (hW.mono pZ.o.size)) BR.o.lt).set 0 v0).set 1 v1;exact⟨BX.cell 0 rfl,BX.cell 1 rfl,BX.cell 2 rfl,BX.cell 3 rfl,BX.cell 4 rfl,BX.cell 5 rfl,BY.cell 0 rfl,oP (BZ.cell 0 rfl),oP (BZ.cell 1 rfl),BZ.aN 0,BZ.aN 1⟩
  clear hL sH Qp;go_wp2_with fail
  go_region_held3 (fun W=>W.cell? ⟨w1.heap.size,0,none⟩=some (.int .i64 b.an)/\W.cell? ⟨w1.heap.size,1,none⟩=some (.int .i64 b.places)/\W.cell? ⟨w1.heap.size,2,none⟩=some (.slice a2 b.parts.length c2)/\
   W.cell? ⟨w1.heap.size,3,none⟩=some (.slice a3 b.apart.length c3)/\W.cell? ⟨w1.heap.size,4,none⟩=some (.slice a4 b.ac.length c4)/\W.cell? ⟨w1.heap.size,5,none⟩=some (.slice a L.length c)/\W.cell? ⟨w.heap.size+1,0,none⟩=some (.slice la l.length lc)/\
   W.cell? ⟨w.heap.size+1+1,0,none⟩=some (cv W (w.heap.size+1+1) 0)/\W.cell? ⟨w.heap.size+1+1,1,none⟩=some (cv W (w.heap.size+1+1) 1)/\W.frozen? ⟨w.heap.size+1+1,0,none⟩=false/\W.frozen? ⟨w.heap.size+1+1,1,none⟩=false)
   (first|exact zU.o _ _ _ Ae.o|exact HS.o _ Ae.o|exact HS.o _ re.o|exact HS.o _ (Below.drewN (Below.refl A3.heap.size A3) 1))
   (first
     |(go_at_call 64
       refine(gC _ _ l LM (HL.o.later (Kp.of (jm.o.trans ((Below.drewN (Below.refl A3.heap.size A3) 1).mono jm.o.size))))).mono ?_;rintro e w6 ⟨rfl,lh⟩;have re:Hid (Below A3.heap.size A3 w6):=(Below.drewN (Below.refl A3.heap.size A3) 1).trans lh;clear lh)
     |(go_at_call 65
       refine(jZ w6 _ _ _ _ b N HN.o lT L (RJ.o.later (Kp.of re.o)) kZ.o _ HMI.o RN.o).mono ?_;rintro e w7 ⟨rfl,Ap⟩;have Ae:=re.t Ap;clear Ap))
  obtain⟨lo,nL⟩:=ex1 (jY N L (ai l));obtain⟨hi,xQ⟩:=ex1 (gV N L (ai l));have IU:Hid (jY N L (ai l)=lo/\gV N L (ai l)=hi):=⟨nL,xQ⟩
  rw[nL,xQ];have BZ:=(BR.o.below (pZ.o.trans (Ae.o.mono pZ.o.size)) BR.o.lt)
  obtain⟨WF,jW⟩:=ex1 ((w7.setCell ⟨w.heap.size+1+1,0,none⟩ (.int .i64 lo)).setCell ⟨w.heap.size+1+1,1,none⟩ (.int .i64 hi));have jX:aF WF (w.heap.size+1+1) 31 #[.int .i64 lo,.int .i64 hi]:=by rw[<-jW];exact(BZ.set 0 _).set 1 _
  have nA:aa [w.heap.size+1+1] w7 WF:=by rw[<-jW];exact(aa.set w7 (by simp) _).trans' (aa.set _ (by simp) _)
  have pT:Hid (Below w.heap.size w WF):=(jm.o.trans (Ae.o.mono jm.o.size)).trans (nA.below (by simp;omega) (by have:=Ae.o.size;have:=jm.o.size;omega));obtain⟨u0,u1⟩:=jX.c2;have e1:jY b.places.toNat L (ai l)=lo:=by rw[sG.o];exact nL
  have e2:gV b.places.toNat L (ai l)=hi:=by rw[sG.o];exact xQ
  have HE:Hid (jY b.places.toNat L (ai l)=lo/\gV b.places.toNat L (ai l)=hi):=⟨e1,e2⟩
  clear nL xQ e1 e2 BZ jX nA;rw[jW,tU.o];clear jW;go_wp2
  refine bodyPost_ret (v:=.tuple #[.agg #[.int .i64 lo,.int .i64 hi],.int .i64 0]) ?_ rfl ⟨.inr ⟨by rw[tU.o];exact kZ.o,by rw[tU.o,HE.o.1,HE.o.2]⟩,pT.o⟩;rw[results_cell_tmp rfl];go_simp
def Sz (W:World) (g t n:Nat):Prop:=∃cs:Array Value,aF W g t cs/\cs.size=n
theorem Sz.cv (h:Sz W g t n) (hi:i<n):W.cell? ⟨g,i,none⟩=some (cv W g i):=by
 obtain⟨cs,h,rfl⟩:=h;exact oP (h.cell i (Array.getElem?_eq_getElem hi))
theorem Sz.aN (h:Sz W g t n) (i:Nat):W.frozen? ⟨g,i,none⟩=false:=by
 obtain⟨cs,h,_⟩:=h;exact h.aN i
theorem Sz.set (h:Sz W g t n) (a:Addr) (ha:a.spot=none) (v:Value):Sz (W.setCell a v) g t n:=by
 obtain⟨cs,h,hs⟩:=h;obtain⟨ab,ao,asp⟩:=a;obtain rfl:asp=none:=ha;by_cases e:ab=g
 .subst e;exact⟨_,h.set ao v,by simpa using hs⟩
 .exact⟨cs,(aa.set (O:=[ab]) W (by simp) v).box h (by simp;exact fun h=>e h.symm),hs⟩
def Core (A W:World) (g4 g5:Nat):Prop:=aa [g4,g5] A W/\Sz W g4 79 5/\Sz W g5 91 4
theorem Core.set {A:World} {g4 g5:Nat} (h:Core A W g4 g5) (a:Addr) (ha:a.spot=none) (hb:a.block∈ [g4,g5]) (v:Value):Core A (W.setCell a v) g4 g5:=
 ⟨h.1.trans' (aa.set W hb v),h.2.1.set a ha v,h.2.2.set a ha v⟩
theorem Af {p q:Tmp} {ty':TypeId} (h:fn.results=#[.cell p ty,.cell q ty',.tmp u]) (tmps:Array Value) (P:Program) (w:World):
 (results fn tmps).run P w=
   ((asAddr (tmps.getD p undef)).run P w).andThen fun a w₁=>((loadVar ty a).run P w₁).andThen fun v w₂=>((asAddr (tmps.getD q undef)).run P w₂).andThen fun a' w₃=>((loadVar ty' a').run P w₃).andThen fun v' w₄=>.ok (.tuple #[v,v',tmps.getD u undef]) w₄:=by
 simp only[results,h];simp[Sem.run_bind,Result.andThen]
theorem oQ {l:List Int} (hv:Valid b) (h:bY b l):∀i,i<b.places.toNat->0<=ai l i/\ai l i<b.parts.length:=fun i hi=>by
 have hl:=h.len;have e:l[i]?=some (l[i]'(by omega)):=List.getElem?_eq_getElem (by omega);have h1:=h.range i _ (by omega) e;unfold ai;rw[e];simp only[Option.getD_some];omega
theorem FB (w:World) (v vl:Value) (b:av) (l:List Int) (hb:aD w v b) (hv:Valid b) (hc:kD w) (fS:bY b l) (hl:az w vl l):
 Calls ZP 82 #[v,vl] w (dd w (.tuple #[v,.agg (bD (ai l)),.int .i64 0])):=by
 have HB:=hid hb;have HV:Hid (Valid b):=hv;have HC:Hid (kD w):=hc;have Iw:Hid (bY b l):=fS;obtain⟨a2,c2,a3,c3,a4,c4,rfl⟩:=hb.gm;obtain⟨la,lc,⟨rfl,ll,lm,ln,lr⟩,le⟩:=hl;have HL:Hid (az w (.slice la l.length lc) l):=⟨la,lc,⟨rfl,ll,lm,ln,lr⟩,le⟩
 clear ll lm ln lr le;have LM:l.length<=4:=by have:=fS.len;have:=hv.places;omega
 obtain⟨A0,qO⟩:=ex1 (w.alloc (.cells #[.int .i64 b.an,.int .i64 b.places,.slice a2 b.parts.length c2,.slice a3 b.apart.length c3,.slice a4 b.ac.length c4] 26));obtain⟨A1,bB⟩:=ex1 (A0.alloc (.cells #[.int .i64 0,.int .i64 0,.slice none 0 0,.slice none 0 0,.slice none 0 0] 79));obtain⟨A2,cu⟩:=ex1 (A1.alloc (.cells #[.int .i64 0,.int .i64 0,.int .i64 0,.int .i64 0] 91));have F9:=snew qO;have eS:=snew2 bB F9
 have B0:Hid (aF A2 w.heap.size 26 #[.int .i64 b.an,.int .i64 b.places,.slice a2 b.parts.length c2,.slice a3 b.apart.length c3,.slice a4 b.ac.length c4]):=by
  rw[<-cu];refine(aa.alloc [] _ _).box ?_ (by simp);rw[<-bB];refine(aa.alloc [] _ _).box ?_ (by simp);rw[<-qO];exact aF.new _ _ _
 have B4:Hid (aF A2 (w.heap.size+1) 79 #[.int .i64 0,.int .i64 0,.slice none 0 0,.slice none 0 0,.slice none 0 0]):=by
  rw[<-cu];refine(aa.alloc [] _ _).box ?_ (by simp);rw[<-bB,<-F9];exact aF.new _ _ _
 have B5:=bnew2 cu eS;have HW:=wnew3 qO bB cu;obtain⟨z0,z1,z2,z3,z4⟩:=B0.o.c5;have hC1:=sx A2 _ b (HB.o.later (Kp.of HW.o)) hv (HC.o.later HW.o);clear hb hv hc fS;go_enter ZF82,Tryz.ntmps82
 go_wp2_with fail
 refine hC1.mono ?_;rintro e w1 ⟨⟨r,rfl,rfl⟩,bN⟩;have dF:=hid bN;have F8:=HW.t bN;clear bN hC1 z0 z1 z2 z3 z4 qO bB cu F9 eS;have BY:=B0.o.below dF.o B0.o.lt;obtain⟨z0,z1,z2,z3,z4⟩:=BY.c5;obtain⟨A3,gM⟩:=ex1 (w1.alloc (.cells #[.int .i64 b.an,.int .i64 b.places,.slice a2 b.parts.length c2,.slice a3 b.apart.length c3,.slice a4 b.ac.length c4] 79));have B8:=bnew gM;have DG:=wnew gM;have DF:=F8.t DG.o;have H23:=dF.t DG.o;have zhZ:w.heap.size+1+1<w1.heap.size:=(B5.o.below dF.o B5.o.lt).lt;have C4:=hidb B4 H23.o;have C5:=hidb B5 H23.o;have NH:=sw A3 _ _ b l (HB.o.later (Kp.of DF.o)) (HL.o.later (Kp.of DF.o)) HV.o.parts.many HV.o.hQ Iw.o;obtain⟨y0,y1,y2,y3,y4⟩:=B8.o.c5;clear BY;go_wp2_with fail
 refine NH.mono ?_;rintro e w5 ⟨⟨r,rfl,rfl⟩,kQ⟩;have RP:=hid kQ;have XP:=DF.t kQ;clear kQ NH z0 z1 z2 z3 z4 y0 y1 y2 y3 y4 gM
 have Vk:Hid (∀W,Core A3 W (w.heap.size+1) (w.heap.size+1+1)->(fun W:World=>(W.cell? ⟨w1.heap.size,0,none⟩=some (.int .i64 b.an)/\W.cell? ⟨w1.heap.size,1,none⟩=some (.int .i64 b.places)/\W.cell? ⟨w1.heap.size,2,none⟩=some (.slice a2 b.parts.length c2)/\W.cell? ⟨w1.heap.size,3,none⟩=some (.slice a3 b.apart.length c3)/\W.cell? ⟨w1.heap.size,4,none⟩=some (.slice a4 b.ac.length c4))/\(W.cell? ⟨w.heap.size+1,0,none⟩=some (cv W (w.heap.size+1) 0)/\W.frozen? ⟨w.heap.size+1,0,none⟩=false/\W.cell? ⟨w.heap.size+1,1,none⟩=some (cv W (w.heap.size+1) 1)/\W.frozen? ⟨w.heap.size+1,1,none⟩=false/\W.cell? ⟨w.heap.size+1,2,none⟩=some (cv W (w.heap.size+1) 2)/\W.frozen? ⟨w.heap.size+1,2,none⟩=false/\W.cell? ⟨w.heap.size+1,3,none⟩=some (cv W (w.heap.size+1) 3)/\W.frozen? ⟨w.heap.size+1,3,none⟩=false/\W.cell? ⟨w.heap.size+1,4,none⟩=some (cv W (w.heap.size+1) 4)/\W.frozen? ⟨w.heap.size+1,4,none⟩=false/\W.cell? ⟨w.heap.size+1+1,0,none⟩=some (cv W (w.heap.size+1+1) 0)/\W.frozen? ⟨w.heap.size+1+1,0,none⟩=false/\W.cell? ⟨w.heap.size+1+1,1,none⟩=some (cv W (w.heap.size+1+1) 1)/\W.frozen? ⟨w.heap.size+1+1,1,none⟩=false/\W.cell? ⟨w.heap.size+1+1,2,none⟩=some (cv W (w.heap.size+1+1) 2)/\W.frozen? ⟨w.heap.size+1+1,2,none⟩=false/\W.cell? ⟨w.heap.size+1+1,3,none⟩=some (cv W (w.heap.size+1+1) 3)/\W.frozen? ⟨w.heap.size+1+1,3,none⟩=false)/\Core A3 W (w.heap.size+1) (w.heap.size+1+1)) W):=fun W h=>by
  have h8:=h.1.box B8.o (by simp;omega);exact⟨⟨h8.cell 0 rfl,h8.cell 1 rfl,h8.cell 2 rfl,h8.cell 3 rfl,h8.cell 4 rfl⟩,⟨h.2.1.cv (by decide),h.2.1.aN 0,h.2.1.cv (by decide),h.2.1.aN 1,h.2.1.cv (by decide),h.2.1.aN 2,h.2.1.cv (by decide),h.2.1.aN 3,h.2.1.cv (by decide),h.2.1.aN 4,h.2.2.cv (by decide),h.2.2.aN 0,h.2.2.cv (by decide),h.2.2.aN 1,h.2.2.cv (by decide),h.2.2.aN 2,h.2.2.cv (by decide),h.2.2.aN 3⟩,h⟩
 have zeD:Hid (∀W,(fun W:World=>(W.cell? ⟨w1.heap.size,0,none⟩=some (.int .i64 b.an)/\W.cell? ⟨w1.heap.size,1,none⟩=some (.int .i64 b.places)/\W.cell? ⟨w1.heap.size,2,none⟩=some (.slice a2 b.parts.length c2)/\W.cell? ⟨w1.heap.size,3,none⟩=some (.slice a3 b.apart.length c3)/\W.cell? ⟨w1.heap.size,4,none⟩=some (.slice a4 b.ac.length c4))/\(W.cell? ⟨w.heap.size+1,0,none⟩=some (cv W (w.heap.size+1) 0)/\W.frozen? ⟨w.heap.size+1,0,none⟩=false/\W.cell? ⟨w.heap.size+1,1,none⟩=some (cv W (w.heap.size+1) 1)/\W.frozen? ⟨w.heap.size+1,1,none⟩=false/\W.cell? ⟨w.heap.size+1,2,none⟩=some (cv W (w.heap.size+1) 2)/\W.frozen? ⟨w.heap.size+1,2,none⟩=false/\W.cell? ⟨w.heap.size+1,3,none⟩=some (cv W (w.heap.size+1) 3)/\W.frozen? ⟨w.heap.size+1,3,none⟩=false/\W.cell? ⟨w.heap.size+1,4,none⟩=some (cv W (w.heap.size+1) 4)/\W.frozen? ⟨w.heap.size+1,4,none⟩=false/\W.cell? ⟨w.heap.size+1+1,0,none⟩=some (cv W (w.heap.size+1+1) 0)/\W.frozen? ⟨w.heap.size+1+1,0,none⟩=false/\W.cell? ⟨w.heap.size+1+1,1,none⟩=some (cv W (w.heap.size+1+1) 1)/\W.frozen? ⟨w.heap.size+1+1,1,none⟩=false/\W.cell? ⟨w.heap.size+1+1,2,none⟩=some (cv W (w.heap.size+1+1) 2)/\W.frozen? ⟨w.heap.size+1+1,2,none⟩=false/\W.cell? ⟨w.heap.size+1+1,3,none⟩=some (cv W (w.heap.size+1+1) 3)/\W.frozen? ⟨w.heap.size+1+1,3,none⟩=false)/\Core A3 W (w.heap.size+1) (w.heap.size+1+1)) W->Core A3 W (w.heap.size+1) (w.heap.size+1+1)):=fun W h=>h.2.2
 have HC0:Hid (∀W,Below A3.heap.size A3 W->Core A3 W (w.heap.size+1) (w.heap.size+1+1)):=fun W h=>
  ⟨aa.mono (O:=[]) (aa.of h) (by simp),⟨_,C4.o.below h C4.o.lt,rfl⟩,⟨_,C5.o.below h C5.o.lt,rfl⟩⟩
 go_wp2_with fail
 go_region_held3 (fun W:World=>(W.cell? ⟨w1.heap.size,0,none⟩=some (.int .i64 b.an)/\W.cell? ⟨w1.heap.size,1,none⟩=some (.int .i64 b.places)/\W.cell? ⟨w1.heap.size,2,none⟩=some (.slice a2 b.parts.length c2)/\W.cell? ⟨w1.heap.size,3,none⟩=some (.slice a3 b.apart.length c3)/\W.cell? ⟨w1.heap.size,4,none⟩=some (.slice a4 b.ac.length c4))/\(W.cell? ⟨w.heap.size+1,0,none⟩=some (cv W (w.heap.size+1) 0)/\W.frozen? ⟨w.heap.size+1,0,none⟩=false/\W.cell? ⟨w.heap.size+1,1,none⟩=some (cv W (w.heap.size+1) 1)/\W.frozen? ⟨w.heap.size+1,1,none⟩=false/\W.cell? ⟨w.heap.size+1,2,none⟩=some (cv W (w.heap.size+1) 2)/\W.frozen? ⟨w.heap.size+1,2,none⟩=false/\W.cell? ⟨w.heap.size+1,3,none⟩=some (cv W (w.heap.size+1) 3)/\W.frozen? ⟨w.heap.size+1,3,none⟩=false/\W.cell? ⟨w.heap.size+1,4,none⟩=some (cv W (w.heap.size+1) 4)/\W.frozen? ⟨w.heap.size+1,4,none⟩=false/\W.cell? ⟨w.heap.size+1+1,0,none⟩=some (cv W (w.heap.size+1+1) 0)/\W.frozen? ⟨w.heap.size+1+1,0,none⟩=false/\W.cell? ⟨w.heap.size+1+1,1,none⟩=some (cv W (w.heap.size+1+1) 1)/\W.frozen? ⟨w.heap.size+1+1,1,none⟩=false/\W.cell? ⟨w.heap.size+1+1,2,none⟩=some (cv W (w.heap.size+1+1) 2)/\W.frozen? ⟨w.heap.size+1+1,2,none⟩=false/\W.cell? ⟨w.heap.size+1+1,3,none⟩=some (cv W (w.heap.size+1+1) 3)/\W.frozen? ⟨w.heap.size+1+1,3,none⟩=false)/\Core A3 W (w.heap.size+1) (w.heap.size+1+1))
  (first|(refine Vk.o _ ?_;(repeat refine Core.set ?_ _ rfl (by simp) _);first|exact HC0.o _ (Below.drewN RP.o 1)|exact HC0.o _ re.o))
  (first
    |(go_at_call 64
      refine(gC _ _ l LM (HL.o.later (Kp.of (XP.o.trans ((Below.drewN (Below.refl w5.heap.size w5) 1).mono XP.o.size))))).mono ?_;rintro e w6 ⟨rfl,lh⟩;have re:Hid (Below A3.heap.size A3 w6):=RP.o.trans (((Below.drewN (Below.refl w5.heap.size w5) 1).trans lh).mono RP.o.size);simp only[bD];clear lh))
 obtain⟨WF,jW⟩:=ex1 ((((((((((w6).setCell ⟨w.heap.size+1,0,none⟩ (.int .i64 b.an)).setCell ⟨w.heap.size+1,1,none⟩ (.int .i64 b.places)).setCell ⟨w.heap.size+1,2,none⟩ (.slice a2 b.parts.length c2)).setCell ⟨w.heap.size+1,3,none⟩ (.slice a3 b.apart.length c3)).setCell ⟨w.heap.size+1,4,none⟩ (.slice a4 b.ac.length c4)).setCell ⟨w.heap.size+1+1,0,none⟩ (.int .i64 (ai l 0))).setCell ⟨w.heap.size+1+1,1,none⟩ (.int .i64 (ai l 1))).setCell ⟨w.heap.size+1+1,2,none⟩ (.int .i64 (ai l 2))).setCell ⟨w.heap.size+1+1,3,none⟩ (.int .i64 (ai l 3)));have D4:=C4.o.below re.o C4.o.lt;have D5:=C5.o.below re.o C5.o.lt;have lg:∀(W:World) (i:Nat) (v:Value),aa [w.heap.size+1] W (W.setCell ⟨w.heap.size+1,i,none⟩ v):=fun W i v=>aa.set W (by simp) v;have Vl:∀(W:World) (i:Nat) (v:Value),aa [w.heap.size+1+1] W (W.setCell ⟨w.heap.size+1+1,i,none⟩ v):=fun W i v=>aa.set W (by simp) v
 have F4:aF WF (w.heap.size+1) 79 #[.int .i64 b.an,.int .i64 b.places,.slice a2 b.parts.length c2,.slice a3 b.apart.length c3,.slice a4 b.ac.length c4]:=by
  rw[<-jW];refine(Vl _ 3 _).box ?_ (by simp);refine(Vl _ 2 _).box ?_ (by simp);refine(Vl _ 1 _).box ?_ (by simp);refine(Vl _ 0 _).box ?_ (by simp);exact((((D4.set 0 _).set 1 _).set 2 _).set 3 _).set 4 _
 have F5:aF WF (w.heap.size+1+1) 91 #[.int .i64 (ai l 0),.int .i64 (ai l 1),.int .i64 (ai l 2),.int .i64 (ai l 3)]:=by
  rw[<-jW]
  have D5':aF ((((((w6).setCell ⟨w.heap.size+1,0,none⟩ (.int .i64 b.an)).setCell ⟨w.heap.size+1,1,none⟩ (.int .i64 b.places)).setCell ⟨w.heap.size+1,2,none⟩ (.slice a2 b.parts.length c2)).setCell ⟨w.heap.size+1,3,none⟩ (.slice a3 b.apart.length c3)).setCell ⟨w.heap.size+1,4,none⟩ (.slice a4 b.ac.length c4)) (w.heap.size+1+1) 91 #[.int .i64 0,.int .i64 0,.int .i64 0,.int .i64 0]:=by
   refine(lg _ 4 _).box ?_ (by simp);refine(lg _ 3 _).box ?_ (by simp);refine(lg _ 2 _).box ?_ (by simp);refine(lg _ 1 _).box ?_ (by simp);refine(lg _ 0 _).box ?_ (by simp);exact D5
  exact(((D5'.set 0 _).set 1 _).set 2 _).set 3 _
 have nA:aa [w.heap.size+1,w.heap.size+1+1] w6 WF:=by
  rw[<-jW];refine aa.trans' ?_ (aa.set _ (by simp) _);refine aa.trans' ?_ (aa.set _ (by simp) _);refine aa.trans' ?_ (aa.set _ (by simp) _);refine aa.trans' ?_ (aa.set _ (by simp) _);refine aa.trans' ?_ (aa.set _ (by simp) _);refine aa.trans' ?_ (aa.set _ (by simp) _);refine aa.trans' ?_ (aa.set _ (by simp) _);refine aa.trans' ?_ (aa.set _ (by simp) _);refine aa.trans' ?_ (aa.set _ (by simp) _);exact aa.refl _ _
 have pT:Hid (Below w.heap.size w WF):=(DF.o.trans (re.o.mono DF.o.size)).trans (nA.below (by simp;omega) (by have:=re.o.size;have:=DF.o.size;omega));obtain⟨u0,u1,u2,u3,u4⟩:=F4.c5;obtain⟨x0,x1,x2,x3⟩:=F5.c4;rw[jW];clear jW D4 D5 lg Vl F4 F5 nA;go_wp2
 refine bodyPost_ret (v:=.tuple #[.agg #[.int .i64 b.an,.int .i64 b.places,.slice a2 b.parts.length c2,.slice a3 b.apart.length c3,.slice a4 b.ac.length c4],.agg #[.int .i64 (ai l 0),.int .i64 (ai l 1),.int .i64 (ai l 2),.int .i64 (ai l 3)],.int .i64 0]) ?_ rfl ⟨rfl,pT.o⟩;rw[Af rfl];go_simp
theorem bNums_any (w:World) (v vl:Value) (b:av) (l:List Int) (hb:aD w v b) (hv:Valid b) (hc:kD w) (fS:bY b l) (hl:az w vl l):
 Calls ZP 36 #[v,vl] w (dd w (.tuple #[.int .i64 (jy b.places.toNat (ai l)),.int .i64 0]))/\
 Calls ZP 37 #[v,vl] w (dd w (.tuple #[.int .i64 (dR b (ai l) b.places.toNat),.int .i64 0])):=by
 have HB:=hid hb;have HV:Hid (Valid b):=hv;have HC:Hid (kD w):=hc;have Iw:Hid (bY b l):=fS;obtain⟨a2,c2,a3,c3,a4,c4,rfl⟩:=hb.gm;obtain⟨la,lc,⟨rfl,ll,lm,ln,lr⟩,le⟩:=hl;have HL:Hid (az w (.slice la l.length lc) l):=⟨la,lc,⟨rfl,ll,lm,ln,lr⟩,le⟩
 clear ll lm ln lr le;obtain⟨N,hN⟩:∃N:Nat,b.places=N:=⟨b.places.toNat,by have:=hv.places;omega⟩
 have lT:1<=N/\N<=4:=by have:=hv.places;omega
 have NG:b.places.toNat=N:=by omega
 have HN:=hid hN;rw[NG];obtain⟨A0,qO⟩:=ex1 (w.alloc (.cells #[.int .i64 b.an,.int .i64 b.places,.slice a2 b.parts.length c2,.slice a3 b.apart.length c3,.slice a4 b.ac.length c4] 26));have B0:=(bnew qO).o;have HW:=wnew qO;obtain⟨z0,z1,z2,z3,z4⟩:=B0.c5;have hA:=FB A0 _ _ b l (HB.o.later (Kp.of HW.o)) hv (HC.o.later HW.o) fS (HL.o.later (Kp.of HW.o));simp only[bD]at hA;clear hb hv hc fS hN NG B0;refine⟨?_,?_⟩
 all_goals
  first|go_enter ZF36,Tryz.ntmps36|go_enter ZF37,Tryz.ntmps37
  go_wp2_with fail
  refine hA.mono ?_;rintro e w1 ⟨rfl,bN⟩;have F8:=HW.t bN;clear bN hA qO z0 z1 z2 z3 z4;obtain⟨A1,bB⟩:=ex1 (w1.alloc (.cells #[.int .i64 b.an,.int .i64 b.places,.slice a2 b.parts.length c2,.slice a3 b.apart.length c3,.slice a4 b.ac.length c4] 79));obtain⟨A2,cu⟩:=ex1 (A1.alloc (.cells #[.int .i64 (ai l 0),.int .i64 (ai l 1),.int .i64 (ai l 2),.int .i64 (ai l 3)] 91));have eS:=snew bB;have D1:=(bnewk bB cu).o;have D2:=(bnew2 cu eS).o;have H12:=(wnew2 bB cu).o;have tR:=F8.t H12;obtain⟨y0,y1,y2,y3,y4⟩:=D1.c5;obtain⟨x0,x1,x2,x3⟩:=D2.c4
 .have hC:=jz A2 (.slice a2 b.parts.length c2) (.slice a3 b.apart.length c3) (.slice a4 b.ac.length c4) b N HN.o lT (ai l);simp only[bD]at hC;clear D1 D2 H12;go_wp2_with(go_at_call 78;refine hC.mono ?_;rintro e w3 ⟨rfl,pg⟩)
  go_ret2;exact⟨rfl,tR.o.trans (pg.mono tR.o.size)⟩
 .have hC:=oN A2 _ _ _ b (HB.o.later (Kp.of tR.o)) HV.o N HN.o (ai l) (fun i hi=>oQ HV.o Iw.o i (by have:=HN.o;omega));simp only[bD]at hC;clear D1 D2 H12;go_wp2_with(go_at_call 79;refine hC.mono ?_;rintro e w3 ⟨rfl,pg⟩)
  go_ret2;exact⟨rfl,tR.o.trans (pg.mono tR.o.size)⟩
theorem lX (w:World) (v vl:Value) (b:av) (l:List Int) (hb:aD w v b) (hv:Valid b) (hc:kD w) (fS:bY b l) (hl:az w vl l):
 Calls ZP 36 #[v,vl] w (dd w (.tuple #[.int .i64 (jy b.places.toNat (ai l)),.int .i64 0])):=(bNums_any w v vl b l hb hv hc fS hl).1
theorem qa (w:World) (v vl:Value) (b:av) (l:List Int) (hb:aD w v b) (hv:Valid b) (hc:kD w) (fS:bY b l) (hl:az w vl l):
 Calls ZP 37 #[v,vl] w (dd w (.tuple #[.int .i64 (dR b (ai l) b.places.toNat),.int .i64 0])):=(bNums_any w v vl b l hb hv hc fS hl).2
def aJ:List ((Nat->Int)->Int)->(Nat->Int)->(Nat->Int)->Bool
 | [],_,_=>false
 |k::ks,x,y=>if k x<k y then true else if k x=k y then aJ ks x y else false
def cG (ks:List ((Nat->Int)->Int)) (t0:Nat->Int) (l:List (Nat->Int)) (k:Nat):Nat->Int:=(l.take k).foldl (fun out x=>if aJ ks x out then x else out) t0
def bZ (ks:List ((Nat->Int)->Int)):List (Nat->Int)->(Nat->Int)
 | []=>fun _=>0
 |t0::l=>cG ks t0 l l.length
theorem nH (hx:l[k]?=some x) (h:aJ ks x (cG ks t0 l k)=true):cG ks t0 l (k+1)=x:=by
 unfold cG at*;rw[List.take_add_one,hx,List.foldl_append];simp[h]
theorem mB (hx:l[k]?=some x) (h:aJ ks x (cG ks t0 l k)=false):cG ks t0 l (k+1)=cG ks t0 l k:=by
 unfold cG at*;rw[List.take_add_one,hx,List.foldl_append];simp[h]
theorem kG:∀k:Nat,cG ks t0 l k∈t0::l
 |0=>by simp[cG]
 |k+1=>by
  cases hx:l[k]? with
  |none=>
   have e:cG ks t0 l (k+1)=cG ks t0 l k:=by unfold cG;rw[List.take_add_one,hx];simp
   rw[e];exact kG k
  |some x=>
   cases h:aJ ks x (cG ks t0 l k)with
   |true=>rw[nH hx h];exact List.mem_cons_of_mem _ (List.mem_of_getElem? hx)
   |false=>rw[mB hx h];exact kG k
theorem gp (h:S≠ []):bZ ks S∈S:=by
 cases S with
 |nil=>exact absurd rfl h
 |cons t0 l=>exact kG _
theorem lex_tie {k:(Nat->Int)->Int} {y:Nat->Int} (h:k x=k y):aJ (k::ks) x y=aJ ks x y:=by
 show(if k x<k y then true else if k x=k y then aJ ks x y else false)=_;rw[if_neg (by rw[h];exact Int.lt_irrefl _),if_pos h]
def KOk (w:World) (S:List (Nat->Int)) (f:Value×((Nat->Int)->Int)):Prop:=
 (∃u,f.1=.func (.func 78) #[u] #[]/\∀X,Below w.heap.size w X->∀m∈S,Calls ZP 78 #[u,.agg #[.int .i64 (m 0),.int .i64 (m 1),.int .i64 (m 2),.int .i64 (m 3)]] X (dd X (.int .i64 (f.2 m))))\/
 (∃u,f.1=.func (.func 79) #[u] #[]/\∀X,Below w.heap.size w X->∀m∈S,Calls ZP 79 #[u,.agg #[.int .i64 (m 0),.int .i64 (m 1),.int .i64 (m 2),.int .i64 (m 3)]] X (dd X (.int .i64 (f.2 m))))\/
 ∃u,f.1=.func (.func 81) #[] #[u]/\∀X,Below w.heap.size w X->∀m∈S,Calls ZP 81 #[.agg #[.int .i64 (m 0),.int .i64 (m 1),.int .i64 (m 2),.int .i64 (m 3)],u] X (dd X (.int .i64 (f.2 m)))
theorem best_any (w:World) (v:Value) (S:List (Nat->Int)) (hS:bC 4 w v S) (br:S≠ []) (hlen:S.length<=1000) (fs:List (Value×((Nat->Int)->Int))) (JY:∀f∈fs,KOk w S f) (gn:Nat) (hn:aF w gn 122 (fs.map (·.1)).toArray) (hr:fs.length<=2):
 Calls ZP 77 #[v,.slice (some ⟨gn,0,none⟩) fs.length fs.length] w (dd w (.agg (bD (bZ (fs.map (·.2)) S)))):=by
 obtain⟨t0,l,rfl⟩:∃t0 l,S=t0::l:=by cases S with
  |nil=>exact absurd rfl br
  |cons a l=>exact⟨a,l,rfl⟩
 have HK0:=hid JY;have HNB:=hid hn;obtain⟨r,Oh⟩:=ex1 (fs.length);obtain⟨ks,hks⟩:=ex1 (fs.map (·.2));have HRR:Hid (fs.length=r/\fs.map (·.2)=ks):=⟨Oh,hks⟩
 rw[Oh]at hr;rw[Oh,hks];obtain⟨a,cap,hs,he⟩:=hS;obtain⟨⟨blk,off,sp⟩,t1,rfl,hx,pa⟩:=hs.elem he (k:=0) (by simp);simp at hx;subst hx;obtain rfl:sp=none:=(pa 0 (by omega)).1;have HE:Hid (cn w v (t0::l).length (some ⟨blk,off,none⟩) cap/\∀b,some (⟨blk,off,none⟩:Addr)=some b->∀j t,(t0::l)[j]?=some t->∀r,r<4->At w b (j*4+r) (.int .i64 (t r))):=⟨hs,he⟩
 obtain⟨rfl,hle,jF,_,_⟩:=hs;unfold maxLen at jF;simp only[List.length_cons]at hle hlen⊢;obtain⟨A1,bB⟩:=ex1 (w.alloc (.cells #[.int .i64 0,.int .i64 0,.int .i64 0,.int .i64 0] 91));obtain⟨A2,cu⟩:=ex1 (A1.alloc (.cells (bD t0) 91));have eS:=snew bB;have H1:=(wnew bB).o;have B1:=bnewk bB cu;have B2:=bnew2 cu eS;have HW:=wnew2 bB cu;have r0:A1.cell? ⟨blk,off,none⟩=some (.int .i64 (t0 0)):=by simpa using((pa 0 (by omega)).later (Kp.of H1)).2
 have r1:A1.cell? ⟨blk,off+1,none⟩=some (.int .i64 (t0 1)):=by simpa using((pa 1 (by omega)).later (Kp.of H1)).2
 have r2:A1.cell? ⟨blk,off+2,none⟩=some (.int .i64 (t0 2)):=by simpa using((pa 2 (by omega)).later (Kp.of H1)).2
 have r3:A1.cell? ⟨blk,off+3,none⟩=some (.int .i64 (t0 3)):=by simpa using((pa 3 (by omega)).later (Kp.of H1)).2
 simp only[bD]at cu;have Na:((l.length+1:Nat):Int)=(l.length:Int)+1:=by omega
 clear pa he br hn H1 JY Oh hks;go_enter ZF77,Tryz.ntmps77
 by_cases ZD:cap=1
 .have NE:l=[]:=List.eq_nil_of_length_eq_zero (by omega);subst NE;go_wp2
  clear bB cu eS r0 r1 r2 r3;go_loopw [18,7,9,10,11] (fun i _ _ _ _ wr=>i=.int .i64 0/\Hid (aF wr (w.heap.size+1) 91 (bD (cG ks t0 [] 0)))/\Hid (aa [w.heap.size+1] A2 wr)) (fun _ _ _ _ _ _=>0)
  case atStart=>exact⟨rfl,B2.o,aa.refl _ _⟩
  case round=>
   obtain⟨rfl,An,uW⟩:=hrel;have BR:aF wr w.heap.size 91 #[.int .i64 0,.int .i64 0,.int .i64 0,.int .i64 0]:=uW.o.box B1.o (by simp);obtain⟨p0,p1,p2,p3⟩:=BR.c4;have f0:=BR.aN 0;have f1:=BR.aN 1;have f2:=BR.aN 2;have f3:=BR.aN 3;obtain⟨bb,Ek⟩:=ex1 (cG ks t0 [] 0);rw[Ek]at An;obtain⟨q0,q1,q2,q3⟩:=An.o.c4;have HBB:Hid (bZ ks (t0:: [])=bb):=(Ek:bZ ks (t0:: [])=bb)
   clear Ek;go_wp2
   obtain⟨WF,jW⟩:=ex1 ((((wr.setCell ⟨w.heap.size,0,none⟩ (.int .i64 (bb 0))).setCell ⟨w.heap.size,1,none⟩ (.int .i64 (bb 1))).setCell ⟨w.heap.size,2,none⟩ (.int .i64 (bb 2))).setCell ⟨w.heap.size,3,none⟩ (.int .i64 (bb 3)));have jX:aF WF w.heap.size 91 #[.int .i64 (bb 0),.int .i64 (bb 1),.int .i64 (bb 2),.int .i64 (bb 3)]:=by rw[<-jW];exact(((BR.set 0 _).set 1 _).set 2 _).set 3 _
   have nA:aa [w.heap.size] wr WF:=by rw[<-jW];exact(((aa.set wr (by simp) _).trans' (aa.set _ (by simp) _)).trans' (aa.set _ (by simp) _)).trans' (aa.set _ (by simp) _)
   have pT:Below w.heap.size w WF:=(HW.o.trans (uW.o.below (by simp) HW.o.size)).trans (nA.below (by simp) (by have:=uW.o.size;have:=HW.o.size;omega));obtain⟨u0,u1,u2,u3⟩:=jX.c4;rw[jW];refine bodyPost_ret (v:=.agg (bD (bZ ks (t0:: [])))) ?_ rfl ⟨rfl,pT⟩;rw[fK rfl,HBB.o];go_simp;simp[bD]
 .go_wp2
  clear bB cu eS r0 r1 r2 r3;go_loopw [18,7,9,10,11] (fun i _ _ _ _ wr=>∃k:Nat,k<=l.length/\i=.int .i64 k/\Hid (aF wr (w.heap.size+1) 91 (bD (cG ks t0 l k)))/\Hid (aa [w.heap.size+1] A2 wr)) (fun i _ _ _ _ _=>l.length-(intOf i).toNat)
  case atStart=>exact⟨0,Nat.zero_le _,rfl,B2.o,aa.refl _ _⟩
  case round=>
   obtain⟨k,hk,rfl,An,uW⟩:=hrel;by_cases aA:k<l.length
   .have hx:l[k]?=some l[k]:=List.getElem?_eq_getElem aA;obtain⟨x,MY⟩:=ex1 (l[k]);rw[MY]at hx;have HX:=hid hx;have HXM:Hid (x∈t0::l):=List.mem_cons_of_mem _ (List.mem_of_getElem? hx);obtain⟨y,hy⟩:=ex1 (cG ks t0 l k);have HYM:Hid (y∈t0::l):=by rw[<-hy];exact kG k
    have HY:=hid hy;rw[hy]at An;obtain⟨wo,rfl⟩:∃wo,wo=wr:=⟨wr,rfl⟩
    have be:∀r,r<4->wo.cell? ⟨blk,off+4+k*4+r,none⟩=some (.int .i64 (x r)):=fun r hr=>by
     have h1:=(HE.o.2 _ rfl (k+1) x (by simpa using hx) r hr)
     have h2:=h1.later (Kp.of HW.o);have h3:=h2.lt;have h4:=h2.2;have h5:=h1.lt;rw[show off+4+k*4+r=off+((k+1)*4+r) by omega];exact(World.cell?_of_block (w:=A2) (a:=⟨blk,off+((k+1)*4+r),none⟩) (uW.o.block blk h3 (by simp at h5⊢;omega))).trans h4
    have s0:=be 0 (by omega);have s1:=be 1 (by omega);have s2:=be 2 (by omega);have s3:=be 3 (by omega);simp only[Nat.add_zero]at s0;obtain⟨wt,Ao⟩:=ex1 (wo.alloc (.cells (bD x) 91));have LX:=knew Ao;have HBX:=bnew Ao;have HBt:Hid (aF wt (w.heap.size+1) 91 (bD y)):=LX.box An.o (by simp);have RH:Hid (aa [w.heap.size+1] A2 wt):=uW.o.trans (O':=[]) LX (by simp);have RI:Hid (Below w.heap.size w wt):=HW.o.trans (RH.o.below (by simp) HW.o.size);have zh4:w.heap.size+1<wo.heap.size:=An.o.lt;have hgn:gn<w.heap.size:=HNB.o.lt;simp only[bD]at Ao;have ka:(k:Int)<(l.length:Int):=by omega
    have Cb:=hid aA;clear be hx MY LX hy aA hk;go_wp2
    clear Ao s0 s1 s2 s3;go_loopw [24,9,10,11] (fun j _ _ _ wr=>∃jj:Nat,jj<=r/\j=.int .i64 jj/\Hid (aJ ks x y=aJ ((fs.drop jj).map (·.2)) x y)/\Hid (aF wr (w.heap.size+1) 91 (bD y))/\Hid (Below wt.heap.size wt wr)) (fun j _ _ _ _=>r-(intOf j).toNat)
    case atStart=>exact⟨0,Nat.zero_le _,rfl,by rw[List.drop_zero,HRR.o.2];rfl,HBt.o,Below.refl _ _⟩
    case round=>
     obtain⟨jj,hjj,rfl,XV,Vm,RQ⟩:=hrel;have NF:=hidb HBX RQ.o;have IT:=RI.t RQ.o;have NB:aF wr gn 122 (fs.map (·.1)).toArray:=HNB.o.below IT.o HNB.o.lt;by_cases hj:jj<r
     .have nj:(jj:Int)<(r:Int):=by omega
      have MM:jj<fs.length:=by rw[HRR.o.1];exact hj
      have HJ:Hid (jj<r):=hj;obtain⟨⟨fv,kf⟩,MD⟩:∃f,fs[jj]=f:=⟨_,rfl⟩
      have fS:=HK0.o fs[jj] (List.getElem_mem MM);rw[MD]at fS;have n0:wr.cell? ⟨gn,jj,none⟩=some fv:=NB.cell jj (by simp[MM,MD])
      have HLS:Hid (aJ ks x y=aJ (kf::(fs.drop (jj+1)).map (·.2)) x y):=by
       refine XV.o.trans ?_;rw[List.drop_eq_getElem_cons MM,MD];rfl
      obtain⟨kx,OK⟩:=ex1 (kf x);obtain⟨ky,hky⟩:=ex1 (kf y);have I3:Hid (kf x=kx/\kf y=ky):=⟨OK,hky⟩
      obtain⟨X0,X1,X2,X3⟩:=NF.o.a4;obtain⟨Y0,Y1,Y2,Y3⟩:=Vm.o.a4;clear NB XV hj MM MD;rcases fS with⟨u,rfl,hc⟩|⟨u,rfl,hc⟩|⟨u,rfl,hc⟩
      all_goals
       have cx:∀X:am wr,Calls ZP _ _ X.1 (fun e iU=>e=.returned (.int .i64 kx)/\∃Y:am wr,iU=Y.1):=fun X=>(hc X.1 (IT.o.trans (X.2.mono IT.o.size)) x HXM.o).mono fun e w' h=>⟨by rw[h.1,<-OK],X.on h.2⟩
       have cy:∀X:am wr,Calls ZP _ _ X.1 (fun e iU=>e=.returned (.int .i64 ky)/\∃Y:am wr,iU=Y.1):=fun X=>(hc X.1 (IT.o.trans (X.2.mono IT.o.size)) y HYM.o).mono fun e w' h=>⟨by rw[h.1,<-hky],X.on h.2⟩
       clear hc OK hky;rcases Int.lt_trichotomy kx ky with h3|h3|h3
       .have Vn:Hid (aJ ks x y=true):=(by rw[HLS.o];unfold aJ;rw[if_pos (by rw[I3.o.1,I3.o.2];exact h3)]:aJ ks x y=true)
        have h4:¬kx=ky:=by omega
        have h5:(kx==ky)=false:=by simp;omega
        clear I3;go_wp2_with fail
        refine aq (by kernel_rfl) (by kernel_rfl) ?_;repeat(go_big_quiet_step (first|(go_at_call 78;with_reducible exact cx _)|(go_at_call 78;with_reducible exact cy _)|(go_at_call 79;with_reducible exact cx _)|(go_at_call 79;with_reducible exact cy _)|(go_at_call 81;with_reducible exact cx _)|(go_at_call 81;with_reducible exact cy _)))
        refine wpQuiet_nil ?_;rintro _ ⟨X,rfl⟩;have Vo:=RQ.t X.2;have Mb:=hidb Vm X.2;have x0:=X0 X;have x1:=X1 X;have x2:=X2 X;have x3:=X3 X;have y0:=Y0 X;have y1:=Y1 X;have y2:=Y2 X;have y3:=Y3 X;have g0:=Mb.o.aN 0;have g1:=Mb.o.aN 1;have g2:=Mb.o.aN 2;have g3:=Mb.o.aN 3;clear X0 X1 X2 X3 Y0 Y1 Y2 Y3 cx cy n0;go_wp2
        obtain⟨WS,hWS⟩:=ex1 ((((X.1.setCell ⟨w.heap.size+1,0,none⟩ (.int .i64 (x 0))).setCell ⟨w.heap.size+1,1,none⟩ (.int .i64 (x 1))).setCell ⟨w.heap.size+1,2,none⟩ (.int .i64 (x 2))).setCell ⟨w.heap.size+1,3,none⟩ (.int .i64 (x 3)));have hBS:aF WS (w.heap.size+1) 91 (bD x):=by rw[<-hWS];exact(((Mb.o.set 0 _).set 1 _).set 2 _).set 3 _
        have hKS:aa [w.heap.size+1] X.1 WS:=by rw[<-hWS];exact(((aa.set X.1 (by simp) _).trans' (aa.set _ (by simp) _)).trans' (aa.set _ (by simp) _)).trans' (aa.set _ (by simp) _)
        rw[hWS];have ua:=Cb.o;refine⟨⟨k+1,by omega,by go_num,?_,(RH.o.trans (O':=[]) (aa.of Vo.o) (by simp)).trans' hKS⟩,by simp[intOf];omega⟩;rw[nH HX.o (by rw[HY.o];exact Vn.o)];exact hBS
       .have H3E:Hid (kx=ky):=h3;have zbR:Hid (aJ ks x y=aJ ((fs.drop (jj+1)).map (·.2)) x y):=HLS.o.trans (lex_tie (I3.o.1.trans (H3E.o.trans I3.o.2.symm)));have h4:kx=ky:=h3;clear h3;subst h4;clear I3 H3E;go_wp2_with fail
        refine aq (by kernel_rfl) (by kernel_rfl) ?_;repeat(go_big_quiet_step (first|(go_at_call 78;with_reducible exact cx _)|(go_at_call 78;with_reducible exact cy _)|(go_at_call 79;with_reducible exact cx _)|(go_at_call 79;with_reducible exact cy _)|(go_at_call 81;with_reducible exact cx _)|(go_at_call 81;with_reducible exact cy _)))
        refine wpQuiet_nil ?_;rintro _ ⟨X,rfl⟩;have Vo:=RQ.t X.2;have Mb:=hidb Vm X.2;clear X0 X1 X2 X3 Y0 Y1 Y2 Y3 cx cy n0;go_wp2
        have hjl:=HJ.o;refine⟨⟨jj+1,by omega,by go_num,zbR.o,Mb.o,Vo.o⟩,by simp[intOf];omega⟩
       .have Vn:Hid (aJ ks x y=false):=(by rw[HLS.o];unfold aJ;rw[if_neg (by rw[I3.o.1,I3.o.2];omega),if_neg (by rw[I3.o.1,I3.o.2];omega)]:aJ ks x y=false)
        have h4:¬kx=ky:=by omega
        have h5:(kx==ky)=false:=by simp;omega
        have h6:¬kx<ky:=by omega
        clear I3;go_wp2_with fail
        refine aq (by kernel_rfl) (by kernel_rfl) ?_;repeat(go_big_quiet_step (first|(go_at_call 78;with_reducible exact cx _)|(go_at_call 78;with_reducible exact cy _)|(go_at_call 79;with_reducible exact cx _)|(go_at_call 79;with_reducible exact cy _)|(go_at_call 81;with_reducible exact cx _)|(go_at_call 81;with_reducible exact cy _)))
        refine wpQuiet_nil ?_;rintro _ ⟨X,rfl⟩;have Vo:=RQ.t X.2;have Mb:=hidb Vm X.2;clear X0 X1 X2 X3 Y0 Y1 Y2 Y3 cx cy n0;go_wp2
        have ua:=Cb.o;refine⟨⟨k+1,by omega,by go_num,?_,RH.o.trans (O':=[]) (aa.of Vo.o) (by simp)⟩,by simp[intOf];omega⟩;rw[mB HX.o (by rw[HY.o];exact Vn.o),HY.o];exact Mb.o
     have hjr:jj=r:=by omega
     subst hjr;have Vn:Hid (aJ ks x y=false):=(by rw[XV.o,List.drop_eq_nil_of_le (by rw[HRR.o.1];exact Nat.le_refl _)];rfl:aJ ks x y=false)
     clear NB XV;go_wp2
     have ua:=Cb.o;refine⟨⟨k+1,by omega,by go_num,?_,RH.o.trans (O':=[]) (aa.of RQ.o) (by simp)⟩,by simp[intOf];omega⟩;rw[mB HX.o (by rw[HY.o];exact Vn.o),HY.o];exact Vm.o
   .have e:k=l.length:=by omega
    subst e;have BR:aF wr w.heap.size 91 #[.int .i64 0,.int .i64 0,.int .i64 0,.int .i64 0]:=uW.o.box B1.o (by simp);obtain⟨p0,p1,p2,p3⟩:=BR.c4;have f0:=BR.aN 0;have f1:=BR.aN 1;have f2:=BR.aN 2;have f3:=BR.aN 3;obtain⟨bb,Ek⟩:=ex1 (cG ks t0 l l.length);rw[Ek]at An;obtain⟨q0,q1,q2,q3⟩:=An.o.c4;have HBB:Hid (bZ ks (t0::l)=bb):=(Ek:bZ ks (t0::l)=bb)
    clear Ek;go_wp2
    obtain⟨WF,jW⟩:=ex1 ((((wr.setCell ⟨w.heap.size,0,none⟩ (.int .i64 (bb 0))).setCell ⟨w.heap.size,1,none⟩ (.int .i64 (bb 1))).setCell ⟨w.heap.size,2,none⟩ (.int .i64 (bb 2))).setCell ⟨w.heap.size,3,none⟩ (.int .i64 (bb 3)));have jX:aF WF w.heap.size 91 #[.int .i64 (bb 0),.int .i64 (bb 1),.int .i64 (bb 2),.int .i64 (bb 3)]:=by rw[<-jW];exact(((BR.set 0 _).set 1 _).set 2 _).set 3 _
    have nA:aa [w.heap.size] wr WF:=by rw[<-jW];exact(((aa.set wr (by simp) _).trans' (aa.set _ (by simp) _)).trans' (aa.set _ (by simp) _)).trans' (aa.set _ (by simp) _)
    have pT:Below w.heap.size w WF:=(HW.o.trans (uW.o.below (by simp) HW.o.size)).trans (nA.below (by simp) (by have:=uW.o.size;have:=HW.o.size;omega));obtain⟨u0,u1,u2,u3⟩:=jX.c4;rw[jW];refine bodyPost_ret (v:=.agg (bD (bZ ks (t0::l)))) ?_ rfl ⟨rfl,pT⟩;rw[fK rfl,HBB.o];go_simp;simp[bD]
theorem FC (w:World) (v:Value) (S:List (Nat->Int)) (hS:bC 4 w v S) (br:S≠ []) (hlen:S.length<=1000) (bk:Value) (I4:(Nat->Int)->Int) (gn:Nat) (hn:aF w gn 122 #[.func (.func 79) #[bk] #[]])
 (oY:∀X,Below w.heap.size w X->∀m∈S,Calls ZP 79 #[bk,.agg (bD m)] X (dd X (.int .i64 (I4 m)))):
 Calls ZP 77 #[v,.slice (some ⟨gn,0,none⟩) 1 1] w (dd w (.agg (bD (bZ [I4] S)))):=
 best_any w v S hS br hlen [(_,I4)] (fun f h=>by cases h with|head=>exact .inr (.inl ⟨bk,rfl,oY⟩)|tail _ h=>cases h) gn hn (by simp)
theorem FE (w:World) (v:Value) (S:List (Nat->Int)) (hS:bC 4 w v S) (br:S≠ []) (hlen:S.length<=1000) (gb:Nat) (I4:(Nat->Int)->Int) (gn:Nat) (hn:aF w gn 122 #[.func (.func 81) #[] #[ptr gb]])
 (oY:∀X,Below w.heap.size w X->∀m∈S,Calls ZP 81 #[.agg (bD m),ptr gb] X (dd X (.int .i64 (I4 m)))):
 Calls ZP 77 #[v,.slice (some ⟨gn,0,none⟩) 1 1] w (dd w (.agg (bD (bZ [I4] S)))):=
 best_any w v S hS br hlen [(_,I4)] (fun f h=>by cases h with|head=>exact .inr (.inr ⟨ptr gb,rfl,oY⟩)|tail _ h=>cases h) gn hn (by simp)
theorem FF (w:World) (v:Value) (S:List (Nat->Int)) (hS:bC 4 w v S) (br:S≠ []) (hlen:S.length<=1000) (bk:Value) (I4:(Nat->Int)->Int) (kf1:(Nat->Int)->Int) (gn:Nat) (hn:aF w gn 122 #[.func (.func 78) #[bk] #[],.func (.func 79) #[bk] #[]])
 (oY:∀X,Below w.heap.size w X->∀m∈S,Calls ZP 78 #[bk,.agg (bD m)] X (dd X (.int .i64 (I4 m)))) (j8:∀X,Below w.heap.size w X->∀m∈S,Calls ZP 79 #[bk,.agg (bD m)] X (dd X (.int .i64 (kf1 m)))):
 Calls ZP 77 #[v,.slice (some ⟨gn,0,none⟩) 2 2] w (dd w (.agg (bD (bZ [I4,kf1] S)))):=
 best_any w v S hS br hlen [(_,I4),(_,kf1)] (fun f h=>by cases h with|head=>exact .inl ⟨bk,rfl,oY⟩|tail _ h=>cases h with|head=>exact .inr (.inl ⟨bk,rfl,j8⟩)|tail _ h=>cases h) gn hn (by simp)
def dy (b:av) (m:Nat->Int):Int:=dR b m b.places.toNat
def fO (b:av) (m:Nat->Int):Int:=jy b.places.toNat m
def NI (w:World) (b:av) (L:List (Nat->Int)) (ks:List ((Nat->Int)->Int)) (val:(Nat->Int)->Int) (e:Ending) (w':World):Prop:=
 ((L=[]/\e=.returned (.tuple #[.slice none 0 0,.int .i64 0,.int .i64 9]))\/(L≠ []/\au b L=[]/\e=.returned (.tuple #[.slice none 0 0,.int .i64 0,.int .i64 8]))\/
  (L≠ []/\au b L≠ []/\∃v,e=.returned (.tuple #[v,.int .i64 (val (bZ ks (au b L))),.int .i64 0])/\az w' v (aR b.places.toNat (bZ ks (au b L)))))/\Below w.heap.size w w'
theorem eX (h:m∈au b L):m∈aG b:=(List.mem_filter.1 h).1
theorem jB (hv:Valid b) (h:m∈aG b):∀i,i<b.places.toNat->0<=m i/\m i<b.parts.length:=by
 rw[eF]at h;obtain⟨o,ho,rfl⟩:=List.mem_map.1 h;exact oQ hv (it hv ho)
theorem sP (hv:Valid b) (L:List (Nat->Int)):(au b L).length<=625:=Nat.le_trans (List.length_filter_le _ _) (eN hv)
theorem results_tmp3 {t x:Tmp} (h:fn.results=#[.tmp t,.tmp u,.tmp x]) (tmps:Array Value) (P:Program) (w:World):(results fn tmps).run P w=.ok (.tuple #[tmps.getD t undef,tmps.getD u undef,tmps.getD x undef]) w:=by
 simp only[results,h];simp[Sem.run_bind,Result.andThen]
theorem xw (w:World) (v:Value) (b:av) (ag:(Nat->Int)->Bool) (hb:aD w v b) (hv:Valid b) (hc:kD w) (iK:kF w v ag):Calls ZP 34 #[v] w (NI w b (aC b ag) [dy b] (dy b)):=by
 have HB:=hid hb;have HV:Hid (Valid b):=hv;have HC:Hid (kD w):=hc;have sG:Hid (b.places=(b.places.toNat:Int)):=(by have:=hv.places;omega:b.places=(b.places.toNat:Int))
 have Mc:Hid (1<=b.places.toNat/\b.places.toNat<=4):=(by have:=hv.places;omega:1<=b.places.toNat/\b.places.toNat<=4)
 obtain⟨a2,c2,a3,c3,a4,c4,rfl⟩:=hb.gm;have uU:=hid iK;obtain⟨A1,bB⟩:=ex1 (w.alloc (.cells #[.int .i64 b.an,.int .i64 b.places,.slice a2 b.parts.length c2,.slice a3 b.apart.length c3,.slice a4 b.ac.length c4] 26));have B1:=bnew bB;have HW:=wnew bB;obtain⟨z0,z1,z2,z3,z4⟩:=B1.o.c5;clear hb hv hc iK;go_enter ZF34,Tryz.ntmps34
 go_wp2_with fail
 refine(jn A1 _ b ag a2 c2 _ _ rfl (HB.o.later (Kp.of HW.o)) HV.o (HC.o.later HW.o) (fun X t hX=>uU.o X t (HW.o.trans (hX.mono HW.o.size)))).mono ?_;rintro e w1 ⟨xK,bN⟩;have dF:=HW.t bN;clear bN z0 z1 z2 z3 z4 bB;rcases xK with⟨hL,rfl⟩|⟨hL,hS,rfl⟩|⟨hL,hS,a,c,vs,rfl,Fk,oZ,pR,JY⟩
 .have HL:=hid hL;clear hL;go_wp2
  refine bodyPost_ret (v:=.tuple #[.slice none 0 0,.int .i64 0,.int .i64 9]) ?_ rfl ⟨.inl ⟨HL.o,rfl⟩,dF.o.alloc dF.o.size _⟩;rw[results_tmp3 rfl];rfl
 .have HL:Hid (aC b ag≠ []/\au b (aC b ag)=[]):=⟨hL,hS⟩
  clear hL hS;go_wp2
  refine bodyPost_ret (v:=.tuple #[.slice none 0 0,.int .i64 0,.int .i64 8]) ?_ rfl ⟨.inr (.inl ⟨HL.o.1,HL.o.2,rfl⟩),dF.o.alloc dF.o.size _⟩;rw[results_tmp3 rfl];rfl
 .have HL:Hid (aC b ag≠ []/\au b (aC b ag)≠ []):=⟨hL,hS⟩
  obtain⟨L,qP⟩:=ex1 (aC b ag);have tU:=hid qP;rw[qP]at Fk oZ pR hS;obtain⟨sa,sc,rfl,_,_⟩:=oZ.slice;have LY:=hid oZ;have HS:=hid hS;obtain⟨W2,DH⟩:=ex1 (w1.alloc (.cells #[.int .i64 b.an,.int .i64 b.places,.slice a2 b.parts.length c2,.slice a3 b.apart.length c3,.slice a4 b.ac.length c4,.slice a (aC b ag).length c] 86));obtain⟨W3,I5⟩:=ex1 (W2.alloc (.cells #[.func (.func 79) #[.agg #[.int .i64 b.an,.int .i64 b.places,.slice a2 b.parts.length c2,.slice a3 b.apart.length c3,.slice a4 b.ac.length c4]] #[]] 122));have kM:=snew DH;have ka:=knew DH;have kc:=knew I5;have D2:=(bnew DH).o;have D3:Hid (aF W3 w1.heap.size 86 #[.int .i64 b.an,.int .i64 b.places,.slice a2 b.parts.length c2,.slice a3 b.apart.length c3,.slice a4 b.ac.length c4,.slice a (aC b ag).length c]):=kc.box D2 (by simp);have DN:=bnew2 I5 kM;have DG:Hid (Below w1.heap.size w1 W3):=(ka.trans kc (by simp)).below (by simp) (Nat.le_refl _);have jm:=dF.t DG.o;have jo:=FC W3 _ (au b L) (LY.o.later (Kp.of DG.o)) HS.o (by have:=sP HV.o L;omega) (.agg #[.int .i64 b.an,.int .i64 b.places,.slice a2 b.parts.length c2,.slice a3 b.apart.length c3,.slice a4 b.ac.length c4]) (dy b) (w1.heap.size+1) DN.o (fun X hX m hm=>by simpa [fO,dy]using(oN X _ _ _ b (HB.o.later (Kp.of (jm.o.trans (hX.mono jm.o.size)))) HV.o b.places.toNat sG.o m (jB HV.o (eX hm))));obtain⟨mm,uJ⟩:=ex1 (bZ [dy b] (au b L));have rf:=hid uJ;have Qr:Hid (mm∈au b L):=(by rw[<-uJ];exact gp HS.o:mm∈au b L)
  rw[uJ]at jo;clear hL hS qP Fk oZ pR JY uJ ka kc;obtain⟨z0,z1,z2,z3,z4⟩:=D2.c5;clear D2;simp only[bD]at jo;go_wp2_with fail
  refine jo.mono ?_;rintro e w4 ⟨rfl,ig⟩;have NJ:=hid ig;have pf:=jm.t ig;clear ig jo z0 z1 z2 z3 z4 DH I5 kM;obtain⟨W5,I6⟩:=ex1 (w4.alloc (.cells #[.int .i64 (mm 0),.int .i64 (mm 1),.int .i64 (mm 2),.int .i64 (mm 3)] 91));have DM:=bnew I6;have NK:=wnew I6;have DE:=pf.t NK.o;have D5:Hid (aF W5 w1.heap.size 86 #[.int .i64 b.an,.int .i64 b.places,.slice a2 b.parts.length c2,.slice a3 b.apart.length c3,.slice a4 b.ac.length c4,.slice a (aC b ag).length c]):=D3.o.below (NJ.o.trans (NK.o.mono NJ.o.size)) D3.o.lt
  have I7:Hid (∀W,Below W5.heap.size W5 W->(fun W:World=>W.cell? ⟨w1.heap.size,0,none⟩=some (.int .i64 b.an)/\W.cell? ⟨w1.heap.size,1,none⟩=some (.int .i64 b.places)/\W.cell? ⟨w1.heap.size,2,none⟩=some (.slice a2 b.parts.length c2)/\W.cell? ⟨w1.heap.size,3,none⟩=some (.slice a3 b.apart.length c3)/\W.cell? ⟨w1.heap.size,4,none⟩=some (.slice a4 b.ac.length c4)/\W.cell? ⟨w4.heap.size,0,none⟩=some (.int .i64 (mm 0))/\W.cell? ⟨w4.heap.size,1,none⟩=some (.int .i64 (mm 1))/\W.cell? ⟨w4.heap.size,2,none⟩=some (.int .i64 (mm 2))/\W.cell? ⟨w4.heap.size,3,none⟩=some (.int .i64 (mm 3))) W):=fun W h=>by
   have e1:=D5.o.below h D5.o.lt;have e2:=DM.o.below h DM.o.lt;exact⟨e1.cell 0 rfl,e1.cell 1 rfl,e1.cell 2 rfl,e1.cell 3 rfl,e1.cell 4 rfl,e2.cell 0 rfl,e2.cell 1 rfl,e2.cell 2 rfl,e2.cell 3 rfl⟩
  have I8:=oM (W5.drewN 1) (.slice a2 b.parts.length c2) (.slice a3 b.apart.length c3) (.slice a4 b.ac.length c4) b b.places.toNat sG.o Mc.o mm;have uV:Hid (∀X,Below W5.heap.size W5 X->Calls ZP 79 #[.agg #[.int .i64 b.an,.int .i64 b.places,.slice a2 b.parts.length c2,.slice a3 b.apart.length c3,.slice a4 b.ac.length c4],.agg #[.int .i64 (mm 0),.int .i64 (mm 1),.int .i64 (mm 2),.int .i64 (mm 3)]] X (dd X (.int .i64 (dy b mm)))):=fun X hX=>by simpa [fO,dy,bD]using(oN X _ _ _ b (HB.o.later (Kp.of (DE.o.trans (hX.mono DE.o.size)))) HV.o b.places.toNat sG.o mm (jB HV.o (eX Qr.o)))
  simp only[bD]at I8;go_wp2_with fail
  go_region_held3 (fun W:World=>W.cell? ⟨w1.heap.size,0,none⟩=some (.int .i64 b.an)/\W.cell? ⟨w1.heap.size,1,none⟩=some (.int .i64 b.places)/\W.cell? ⟨w1.heap.size,2,none⟩=some (.slice a2 b.parts.length c2)/\W.cell? ⟨w1.heap.size,3,none⟩=some (.slice a3 b.apart.length c3)/\W.cell? ⟨w1.heap.size,4,none⟩=some (.slice a4 b.ac.length c4)/\W.cell? ⟨w4.heap.size,0,none⟩=some (.int .i64 (mm 0))/\W.cell? ⟨w4.heap.size,1,none⟩=some (.int .i64 (mm 1))/\W.cell? ⟨w4.heap.size,2,none⟩=some (.int .i64 (mm 2))/\W.cell? ⟨w4.heap.size,3,none⟩=some (.int .i64 (mm 3)))
   (first|exact I7.o _ Ae.o|exact I7.o _ re.o|exact I7.o _ (Below.drewN (Below.refl W5.heap.size W5) 1))
   (first
     |(go_at_call 80
       refine I8.mono ?_;rintro e w6 ⟨⟨lv,rfl,nL⟩,lh⟩;have IU:Hid (az w6 lv (aR b.places.toNat mm)):=az.ew nL;have re:Hid (Below W5.heap.size W5 w6):=(Below.drewN (Below.refl W5.heap.size W5) 1).trans lh;clear nL lh I8)
     |(go_at_call 79
       refine(uV.o w6 re.o).mono ?_;rintro e w7 ⟨rfl,Ap⟩;have Ae:=re.t Ap;have FG:Hid (az w7 lv (aR b.places.toNat mm)):=IU.o.later (Kp.of Ap);clear Ap))
  clear I6;go_wp2
  refine bodyPost_ret (v:=.tuple #[lv,.int .i64 (dy b mm),.int .i64 0]) ?_ rfl ⟨.inr (.inr ⟨HL.o.1,HL.o.2,lv,by rw[tU.o,rf.o],by rw[tU.o,rf.o];exact FG.o⟩),DE.o.trans (Ae.o.mono DE.o.size)⟩;rw[results_tmp3 rfl];rfl
theorem Cj (w:World) (v:Value) (b:av) (ag:(Nat->Int)->Bool) (hb:aD w v b) (hv:Valid b) (hc:kD w) (iK:kF w v ag):Calls ZP 33 #[v] w (NI w b (aC b ag) [fO b,dy b] (fO b)):=by
 have HB:=hid hb;have HV:Hid (Valid b):=hv;have HC:Hid (kD w):=hc;have sG:Hid (b.places=(b.places.toNat:Int)):=(by have:=hv.places;omega:b.places=(b.places.toNat:Int))
 have Mc:Hid (1<=b.places.toNat/\b.places.toNat<=4):=(by have:=hv.places;omega:1<=b.places.toNat/\b.places.toNat<=4)
 obtain⟨a2,c2,a3,c3,a4,c4,rfl⟩:=hb.gm;have uU:=hid iK;obtain⟨A1,bB⟩:=ex1 (w.alloc (.cells #[.int .i64 b.an,.int .i64 b.places,.slice a2 b.parts.length c2,.slice a3 b.apart.length c3,.slice a4 b.ac.length c4] 26));have B1:=bnew bB;have HW:=wnew bB;obtain⟨z0,z1,z2,z3,z4⟩:=B1.o.c5;clear hb hv hc iK;go_enter ZF33,Tryz.ntmps33
 go_wp2_with fail
 refine(jn A1 _ b ag a2 c2 _ _ rfl (HB.o.later (Kp.of HW.o)) HV.o (HC.o.later HW.o) (fun X t hX=>uU.o X t (HW.o.trans (hX.mono HW.o.size)))).mono ?_;rintro e w1 ⟨xK,bN⟩;have dF:=HW.t bN;clear bN z0 z1 z2 z3 z4 bB;rcases xK with⟨hL,rfl⟩|⟨hL,hS,rfl⟩|⟨hL,hS,a,c,vs,rfl,Fk,oZ,pR,JY⟩
 .have HL:=hid hL;clear hL;go_wp2
  refine bodyPost_ret (v:=.tuple #[.slice none 0 0,.int .i64 0,.int .i64 9]) ?_ rfl ⟨.inl ⟨HL.o,rfl⟩,dF.o.alloc dF.o.size _⟩;rw[results_tmp3 rfl];rfl
 .have HL:Hid (aC b ag≠ []/\au b (aC b ag)=[]):=⟨hL,hS⟩
  clear hL hS;go_wp2
  refine bodyPost_ret (v:=.tuple #[.slice none 0 0,.int .i64 0,.int .i64 8]) ?_ rfl ⟨.inr (.inl ⟨HL.o.1,HL.o.2,rfl⟩),dF.o.alloc dF.o.size _⟩;rw[results_tmp3 rfl];rfl
 .have HL:Hid (aC b ag≠ []/\au b (aC b ag)≠ []):=⟨hL,hS⟩
  obtain⟨L,qP⟩:=ex1 (aC b ag);have tU:=hid qP;rw[qP]at Fk oZ pR hS;obtain⟨sa,sc,rfl,_,_⟩:=oZ.slice;have LY:=hid oZ;have HS:=hid hS;obtain⟨W2,DH⟩:=ex1 (w1.alloc (.cells #[.int .i64 b.an,.int .i64 b.places,.slice a2 b.parts.length c2,.slice a3 b.apart.length c3,.slice a4 b.ac.length c4,.slice a (aC b ag).length c] 86));obtain⟨W3,I5⟩:=ex1 (W2.alloc (.cells #[.func (.func 78) #[.agg #[.int .i64 b.an,.int .i64 b.places,.slice a2 b.parts.length c2,.slice a3 b.apart.length c3,.slice a4 b.ac.length c4]] #[],.func (.func 79) #[.agg #[.int .i64 b.an,.int .i64 b.places,.slice a2 b.parts.length c2,.slice a3 b.apart.length c3,.slice a4 b.ac.length c4]] #[]] 122));have kM:=snew DH;have ka:=knew DH;have kc:=knew I5;have D2:=(bnew DH).o;have D3:Hid (aF W3 w1.heap.size 86 #[.int .i64 b.an,.int .i64 b.places,.slice a2 b.parts.length c2,.slice a3 b.apart.length c3,.slice a4 b.ac.length c4,.slice a (aC b ag).length c]):=kc.box D2 (by simp);have DN:=bnew2 I5 kM;have DG:Hid (Below w1.heap.size w1 W3):=(ka.trans kc (by simp)).below (by simp) (Nat.le_refl _);have jm:=dF.t DG.o;have jo:=FF W3 _ (au b L) (LY.o.later (Kp.of DG.o)) HS.o (by have:=sP HV.o L;omega) (.agg #[.int .i64 b.an,.int .i64 b.places,.slice a2 b.parts.length c2,.slice a3 b.apart.length c3,.slice a4 b.ac.length c4]) (fO b) (dy b) (w1.heap.size+1) DN.o (fun X hX m hm=>by simpa [fO,dy]using(jz X _ _ _ b b.places.toNat sG.o Mc.o m)) (fun X hX m hm=>by simpa [fO,dy]using(oN X _ _ _ b (HB.o.later (Kp.of (jm.o.trans (hX.mono jm.o.size)))) HV.o b.places.toNat sG.o m (jB HV.o (eX hm))));obtain⟨mm,uJ⟩:=ex1 (bZ [fO b,dy b] (au b L));have rf:=hid uJ;have Qr:Hid (mm∈au b L):=(by rw[<-uJ];exact gp HS.o:mm∈au b L)
  rw[uJ]at jo;clear hL hS qP Fk oZ pR JY uJ ka kc;obtain⟨z0,z1,z2,z3,z4⟩:=D2.c5;clear D2;simp only[bD]at jo;go_wp2_with fail
  refine jo.mono ?_;rintro e w4 ⟨rfl,ig⟩;have NJ:=hid ig;have pf:=jm.t ig;clear ig jo z0 z1 z2 z3 z4 DH I5 kM;obtain⟨W5,I6⟩:=ex1 (w4.alloc (.cells #[.int .i64 (mm 0),.int .i64 (mm 1),.int .i64 (mm 2),.int .i64 (mm 3)] 91));have DM:=bnew I6;have NK:=wnew I6;have DE:=pf.t NK.o;have D5:Hid (aF W5 w1.heap.size 86 #[.int .i64 b.an,.int .i64 b.places,.slice a2 b.parts.length c2,.slice a3 b.apart.length c3,.slice a4 b.ac.length c4,.slice a (aC b ag).length c]):=D3.o.below (NJ.o.trans (NK.o.mono NJ.o.size)) D3.o.lt
  have I7:Hid (∀W,Below W5.heap.size W5 W->(fun W:World=>W.cell? ⟨w1.heap.size,0,none⟩=some (.int .i64 b.an)/\W.cell? ⟨w1.heap.size,1,none⟩=some (.int .i64 b.places)/\W.cell? ⟨w1.heap.size,2,none⟩=some (.slice a2 b.parts.length c2)/\W.cell? ⟨w1.heap.size,3,none⟩=some (.slice a3 b.apart.length c3)/\W.cell? ⟨w1.heap.size,4,none⟩=some (.slice a4 b.ac.length c4)/\W.cell? ⟨w4.heap.size,0,none⟩=some (.int .i64 (mm 0))/\W.cell? ⟨w4.heap.size,1,none⟩=some (.int .i64 (mm 1))/\W.cell? ⟨w4.heap.size,2,none⟩=some (.int .i64 (mm 2))/\W.cell? ⟨w4.heap.size,3,none⟩=some (.int .i64 (mm 3))) W):=fun W h=>by
   have e1:=D5.o.below h D5.o.lt;have e2:=DM.o.below h DM.o.lt;exact⟨e1.cell 0 rfl,e1.cell 1 rfl,e1.cell 2 rfl,e1.cell 3 rfl,e1.cell 4 rfl,e2.cell 0 rfl,e2.cell 1 rfl,e2.cell 2 rfl,e2.cell 3 rfl⟩
  have I8:=oM (W5.drewN 1) (.slice a2 b.parts.length c2) (.slice a3 b.apart.length c3) (.slice a4 b.ac.length c4) b b.places.toNat sG.o Mc.o mm;have uV:Hid (∀X,Below W5.heap.size W5 X->Calls ZP 78 #[.agg #[.int .i64 b.an,.int .i64 b.places,.slice a2 b.parts.length c2,.slice a3 b.apart.length c3,.slice a4 b.ac.length c4],.agg #[.int .i64 (mm 0),.int .i64 (mm 1),.int .i64 (mm 2),.int .i64 (mm 3)]] X (dd X (.int .i64 (fO b mm)))):=fun X hX=>by simpa [fO,dy,bD]using(jz X _ _ _ b b.places.toNat sG.o Mc.o mm)
  simp only[bD]at I8;go_wp2_with fail
  go_region_held3 (fun W:World=>W.cell? ⟨w1.heap.size,0,none⟩=some (.int .i64 b.an)/\W.cell? ⟨w1.heap.size,1,none⟩=some (.int .i64 b.places)/\W.cell? ⟨w1.heap.size,2,none⟩=some (.slice a2 b.parts.length c2)/\W.cell? ⟨w1.heap.size,3,none⟩=some (.slice a3 b.apart.length c3)/\W.cell? ⟨w1.heap.size,4,none⟩=some (.slice a4 b.ac.length c4)/\W.cell? ⟨w4.heap.size,0,none⟩=some (.int .i64 (mm 0))/\W.cell? ⟨w4.heap.size,1,none⟩=some (.int .i64 (mm 1))/\W.cell? ⟨w4.heap.size,2,none⟩=some (.int .i64 (mm 2))/\W.cell? ⟨w4.heap.size,3,none⟩=some (.int .i64 (mm 3)))
   (first|exact I7.o _ Ae.o|exact I7.o _ re.o|exact I7.o _ (Below.drewN (Below.refl W5.heap.size W5) 1))
   (first
     |(go_at_call 80
       refine I8.mono ?_;rintro e w6 ⟨⟨lv,rfl,nL⟩,lh⟩;have IU:Hid (az w6 lv (aR b.places.toNat mm)):=az.ew nL;have re:Hid (Below W5.heap.size W5 w6):=(Below.drewN (Below.refl W5.heap.size W5) 1).trans lh;clear nL lh I8)
     |(go_at_call 78
       refine(uV.o w6 re.o).mono ?_;rintro e w7 ⟨rfl,Ap⟩;have Ae:=re.t Ap;have FG:Hid (az w7 lv (aR b.places.toNat mm)):=IU.o.later (Kp.of Ap);clear Ap))
  clear I6;go_wp2
  refine bodyPost_ret (v:=.tuple #[lv,.int .i64 (fO b mm),.int .i64 0]) ?_ rfl ⟨.inr (.inr ⟨HL.o.1,HL.o.2,lv,by rw[tU.o,rf.o],by rw[tU.o,rf.o];exact FG.o⟩),DE.o.trans (Ae.o.mono DE.o.size)⟩;rw[results_tmp3 rfl];rfl
def tV (b:av) (L:List (Nat->Int)) (m:Nat->Int):Int:=gV b.places.toNat L m
def J0 (b:av) (L:List (Nat->Int)) (m:Nat->Int):Int:=jY b.places.toNat L m
def Vp (w:World) (b:av) (L:List (Nat->Int)) (e:Ending) (w':World):Prop:=
 ((L=[]/\e=.returned (.tuple #[.slice none 0 0,.agg #[.int .i64 0,.int .i64 0],.int .i64 9]))\/(L≠ []/\au b L=[]/\e=.returned (.tuple #[.slice none 0 0,.agg #[.int .i64 0,.int .i64 0],.int .i64 8]))\/
  (L≠ []/\au b L≠ []/\∃v,e=.returned (.tuple #[v,.agg #[.int .i64 (J0 b L (bZ [tV b L] (au b L))),.int .i64 (tV b L (bZ [tV b L] (au b L)))],.int .i64 0])/\az w' v (aR b.places.toNat (bZ [tV b L] (au b L)))))/\Below w.heap.size w w'
theorem lY {t x:Tmp} (h:fn.results=#[.tmp t,.cell u ty,.tmp x]) (tmps:Array Value) (P:Program) (w:World):(results fn tmps).run P w=((asAddr (tmps.getD u undef)).run P w).andThen fun a w₁=>((loadVar ty a).run P w₁).andThen fun v w₂=>.ok (.tuple #[tmps.getD t undef,v,tmps.getD x undef]) w₂:=by
 simp only[results,h];simp[Sem.run_bind,Result.andThen]
theorem oR (hv:Valid b) (h:m∈aG b):∀i,0<=m i/\m i<5:=qA hv m h
theorem Md (w:World) (g:Nat) (b:av) (hv:Valid b) (v2 v3 v4:Value) (a:Option Addr) (c:Nat) (L:List (Nat->Int)) (hg:aF w g 86 #[.int .i64 b.an,.int .i64 b.places,v2,v3,v4,.slice a L.length c]) (hL:bC 5 w (.slice a L.length c) L) (br:L≠ [])
 (ht:∀t∈L,∀i,0<=t i/\t i<=20) (m:Nat->Int) (hm:∀i,0<=m i/\m i<5):Calls ZP 81 #[.agg (bD m),ptr g] w (dd w (.int .i64 (tV b L m))):=by
 have hNN:b.places=(b.places.toNat:Int):=by have:=hv.places;omega
 have lT:b.places.toNat<=4:=by have:=hv.places;omega
 obtain⟨A1,bB⟩:=ex1 (w.alloc (.cells (bD m) 91));have j8:=knew bB;have B1:=(bnew bB).o;have BG:=j8.box hg (by simp);have HW:Hid (Below w.heap.size w A1):=j8.below (by simp) (Nat.le_refl _);obtain⟨z0,z1,z2,z3,z4,z5⟩:=BG.c6;obtain⟨y0,y1,y2,y3⟩:=B1.c4;have hC:=jZ A1 v2 v3 v4 (.slice a L.length c) b b.places.toNat hNN lT L (hL.later (Kp.of HW.o)) br m hm ht;have hF:=pU;have HHK:Hid (gV b.places.toNat L m=tV b L m):=rfl;generalize gV b.places.toNat L m=hi at*;generalize jY b.places.toNat L m=lo at*;simp only[bD]at bB hC⊢;clear hg hL br ht hm B1 BG j8 hNN lT hv;go_enter ZF81,Tryz.ntmps81
 go_wp2_with(go_at_call 65;refine hC.mono ?_;rintro e w1 ⟨rfl,bN⟩)
 go_ret;exact⟨by first|rfl|(rw[<-HHK.o];rfl),HW.o.trans (bN.mono HW.o.size)⟩
theorem xx (w:World) (v:Value) (b:av) (ag:(Nat->Int)->Bool) (hb:aD w v b) (hv:Valid b) (hc:kD w) (iK:kF w v ag):Calls ZP 35 #[v] w (Vp w b (aC b ag)):=by
 have HB:=hid hb;have HV:Hid (Valid b):=hv;have HC:Hid (kD w):=hc;have sG:Hid (b.places=(b.places.toNat:Int)):=(by have:=hv.places;omega:b.places=(b.places.toNat:Int))
 have Mc:Hid (1<=b.places.toNat/\b.places.toNat<=4):=(by have:=hv.places;omega:1<=b.places.toNat/\b.places.toNat<=4)
 obtain⟨a2,c2,a3,c3,a4,c4,rfl⟩:=hb.gm;have uU:=hid iK;have RN:Hid (∀x∈aC b ag,∀j,0<=x j/\x j<=20):=mz hv ag;obtain⟨A0,qO⟩:=ex1 (w.alloc (.cells #[.int .i64 b.an,.int .i64 b.places,.slice a2 b.parts.length c2,.slice a3 b.apart.length c3,.slice a4 b.ac.length c4] 26));obtain⟨A1,bB⟩:=ex1 (A0.alloc (.cells #[.int .i64 0,.int .i64 0] 31));have F9:=snew qO;have B1:=bnewk qO bB;have BR:=bnew2 bB F9;have HW:=wnew2 qO bB;obtain⟨z0,z1,z2,z3,z4⟩:=B1.o.c5;clear hb hv hc iK;go_enter ZF35,Tryz.ntmps35
 go_wp2_with fail
 refine(jn A1 _ b ag a2 c2 _ _ rfl (HB.o.later (Kp.of HW.o)) HV.o (HC.o.later HW.o) (fun X t hX=>uU.o X t (HW.o.trans (hX.mono HW.o.size)))).mono ?_;rintro e w1 ⟨xK,bN⟩;have I9:=hid bN;have dF:=HW.t bN;clear bN z0 z1 z2 z3 z4 bB qO F9;rcases xK with⟨hL,rfl⟩|⟨hL,hS,rfl⟩|⟨hL,hS,a,c,vs,rfl,Fk,oZ,pR,JY⟩
 .have HL:=hid hL;clear hL;obtain⟨W,hW⟩:=ex1 (w1.alloc (.cells #[.int .i64 0,.int .i64 0,.slice none 0 0,.slice none 0 0,.slice none 0 0,.slice none 0 0] 86));have xR:=knew hW;have HR:=xR.box (BR.o.below I9.o BR.o.lt) (by simp);have dS:=(bnew hW).o;have pT:Hid (Below w.heap.size w W):=(dF.o.trans (xR.below (by simp) dF.o.size):Below w.heap.size w W)
  obtain⟨t0,t1⟩:=HR.c2;have f0:=HR.aN 0;have f1:=HR.aN 1;have d0:=HR.same (i:=0) (v:=.int .i64 0) rfl;have d1:=HR.same (i:=1) (v:=.int .i64 0) rfl;have s0:=dS.c1;have g0:=dS.aN 0;have e0:=dS.same (i:=0) (v:=.int .i64 0) rfl;obtain⟨-,s1⟩:=dS.c2;have g1:=dS.aN 1;have e1:=dS.same (i:=1) (v:=.int .i64 0) rfl;obtain⟨-,-,s2⟩:=dS.c3;have g2:=dS.aN 2;have e2:=dS.same (i:=2) (v:=.slice none 0 0) rfl;obtain⟨-,-,-,s3⟩:=dS.c4;have g3:=dS.aN 3;have e3:=dS.same (i:=3) (v:=.slice none 0 0) rfl;obtain⟨-,-,-,-,s4⟩:=dS.c5;have g4:=dS.aN 4;have e4:=dS.same (i:=4) (v:=.slice none 0 0) rfl;obtain⟨-,-,-,-,-,s5⟩:=dS.c6;have g5:=dS.aN 5;have e5:=dS.same (i:=5) (v:=.slice none 0 0) rfl;clear xR HR dS;go_wp2
  refine bodyPost_ret (v:=.tuple #[.slice none 0 0,.agg #[.int .i64 0,.int .i64 0],.int .i64 9]) ?_ rfl ⟨.inl ⟨HL.o,rfl⟩,pT.o⟩;rw[lY rfl];go_simp
 .have HL:Hid (aC b ag≠ []/\au b (aC b ag)=[]):=⟨hL,hS⟩
  clear hL hS;obtain⟨W,hW⟩:=ex1 (w1.alloc (.cells #[.int .i64 0,.int .i64 0,.slice none 0 0,.slice none 0 0,.slice none 0 0,.slice none 0 0] 86));have xR:=knew hW;have HR:=xR.box (BR.o.below I9.o BR.o.lt) (by simp);have dS:=(bnew hW).o;have pT:Hid (Below w.heap.size w W):=(dF.o.trans (xR.below (by simp) dF.o.size):Below w.heap.size w W)
  obtain⟨t0,t1⟩:=HR.c2;have f0:=HR.aN 0;have f1:=HR.aN 1;have d0:=HR.same (i:=0) (v:=.int .i64 0) rfl;have d1:=HR.same (i:=1) (v:=.int .i64 0) rfl;have s0:=dS.c1;have g0:=dS.aN 0;have e0:=dS.same (i:=0) (v:=.int .i64 0) rfl;obtain⟨-,s1⟩:=dS.c2;have g1:=dS.aN 1;have e1:=dS.same (i:=1) (v:=.int .i64 0) rfl;obtain⟨-,-,s2⟩:=dS.c3;have g2:=dS.aN 2;have e2:=dS.same (i:=2) (v:=.slice none 0 0) rfl;obtain⟨-,-,-,s3⟩:=dS.c4;have g3:=dS.aN 3;have e3:=dS.same (i:=3) (v:=.slice none 0 0) rfl;obtain⟨-,-,-,-,s4⟩:=dS.c5;have g4:=dS.aN 4;have e4:=dS.same (i:=4) (v:=.slice none 0 0) rfl;obtain⟨-,-,-,-,-,s5⟩:=dS.c6;have g5:=dS.aN 5;have e5:=dS.same (i:=5) (v:=.slice none 0 0) rfl;clear xR HR dS;go_wp2
  refine bodyPost_ret (v:=.tuple #[.slice none 0 0,.agg #[.int .i64 0,.int .i64 0],.int .i64 8]) ?_ rfl ⟨.inr (.inl ⟨HL.o.1,HL.o.2,rfl⟩),pT.o⟩;rw[lY rfl];go_simp
 .have HL:Hid (aC b ag≠ []/\au b (aC b ag)≠ []):=⟨hL,hS⟩
  obtain⟨L,qP⟩:=ex1 (aC b ag);have tU:=hid qP;have kZ:Hid (L≠ []):=by rw[<-qP];exact hL
  have HTL:Hid (∀x∈L,∀j,0<=x j/\x j<=20):=(by rw[<-qP];exact RN.o:∀x∈L,∀j,0<=x j/\x j<=20)
  rw[qP]at Fk oZ pR hS⊢;obtain⟨sa,sc,rfl,_,_⟩:=oZ.slice;have LY:=hid oZ;have HVA:=hid Fk;have HS:=hid hS;obtain⟨W2,DH⟩:=ex1 (w1.alloc (.cells #[.int .i64 b.an,.int .i64 b.places,.slice a2 b.parts.length c2,.slice a3 b.apart.length c3,.slice a4 b.ac.length c4,.slice a L.length c] 86));obtain⟨W3,I5⟩:=ex1 (W2.alloc (.cells #[.func (.func 81) #[] #[ptr w1.heap.size]] 122));have kM:=snew DH;have ka:=knew DH;have kc:=knew I5;have D3:Hid (aF W3 w1.heap.size 86 #[.int .i64 b.an,.int .i64 b.places,.slice a2 b.parts.length c2,.slice a3 b.apart.length c3,.slice a4 b.ac.length c4,.slice a L.length c]):=kc.box (by rw[<-DH];exact aF.new _ _ _) (by simp);have DN:=bnew2 I5 kM;have DG:Hid (Below w1.heap.size w1 W3):=(ka.trans kc (by simp)).below (by simp) (Nat.le_refl _);have jm:=dF.t DG.o
  have jo:=FE W3 _ (au b L) (LY.o.later (Kp.of DG.o)) HS.o (by have:=sP HV.o L;omega) w1.heap.size (tV b L) (w1.heap.size+1) DN.o
   (fun X hX m hm=>Md X w1.heap.size b HV.o _ _ _ a c L (D3.o.below hX D3.o.lt) (HVA.o.later ((Kp.of DG.o).trans (Kp.of hX) DG.o.size)) kZ.o HTL.o m (oR HV.o (eX hm)))
  obtain⟨mm,uJ⟩:=ex1 (bZ [tV b L] (au b L));have rf:=hid uJ;have Qr:Hid (mm∈au b L):=(by rw[<-uJ];exact gp HS.o:mm∈au b L)
  rw[uJ]at jo;clear hL hS qP Fk oZ pR JY uJ ka kc;simp only[bD]at jo;go_wp2_with fail
  refine jo.mono ?_;rintro e w4 ⟨rfl,ig⟩;have NJ:=hid ig;have pf:=jm.t ig;clear ig jo DH I5 kM;obtain⟨W5,I6⟩:=ex1 (w4.alloc (.cells #[.int .i64 (mm 0),.int .i64 (mm 1),.int .i64 (mm 2),.int .i64 (mm 3)] 91));have DM:=bnew I6;have NK:=wnew I6;have DE:=pf.t NK.o;have RP:=NJ.t NK.o;have H15:=DG.t RP.o;have D5:=hidb D3 RP.o;have R5:Hid (aF W5 (w.heap.size+1) 31 #[.int .i64 0,.int .i64 0]):=(BR.o.below I9.o BR.o.lt).below H15.o (BR.o.below I9.o BR.o.lt).lt;have wD:w.heap.size+1<w1.heap.size:=(BR.o.below I9.o BR.o.lt).lt;have UL:w1.heap.size<w4.heap.size:=(D3.o.below NJ.o D3.o.lt).lt
  have I7:Hid (∀W,Below W5.heap.size W5 W->(fun W:World=>(W.cell? ⟨w1.heap.size,0,none⟩=some (.int .i64 b.an)/\W.cell? ⟨w1.heap.size,1,none⟩=some (.int .i64 b.places)/\W.cell? ⟨w1.heap.size,2,none⟩=some (.slice a2 b.parts.length c2)/\W.cell? ⟨w1.heap.size,3,none⟩=some (.slice a3 b.apart.length c3)/\W.cell? ⟨w1.heap.size,4,none⟩=some (.slice a4 b.ac.length c4)/\W.cell? ⟨w1.heap.size,5,none⟩=some (.slice a L.length c))/\(W.cell? ⟨w4.heap.size,0,none⟩=some (.int .i64 (mm 0))/\W.cell? ⟨w4.heap.size,1,none⟩=some (.int .i64 (mm 1))/\W.cell? ⟨w4.heap.size,2,none⟩=some (.int .i64 (mm 2))/\W.cell? ⟨w4.heap.size,3,none⟩=some (.int .i64 (mm 3)))/\(W.cell? ⟨w.heap.size+1,0,none⟩=some (cv W (w.heap.size+1) 0)/\W.frozen? ⟨w.heap.size+1,0,none⟩=false/\W.cell? ⟨w.heap.size+1,1,none⟩=some (cv W (w.heap.size+1) 1)/\W.frozen? ⟨w.heap.size+1,1,none⟩=false)) W):=fun W h=>by
   have e1:=D5.o.below h D5.o.lt;have e2:=DM.o.below h DM.o.lt;have e3:=R5.o.below h R5.o.lt;exact⟨⟨e1.cell 0 rfl,e1.cell 1 rfl,e1.cell 2 rfl,e1.cell 3 rfl,e1.cell 4 rfl,e1.cell 5 rfl⟩,⟨e2.cell 0 rfl,e2.cell 1 rfl,e2.cell 2 rfl,e2.cell 3 rfl⟩,oP (e3.cell 0 rfl),e3.aN 0,oP (e3.cell 1 rfl),e3.aN 1⟩
  have zbU:Hid (∀W v0 v1,Below W5.heap.size W5 W->(fun W:World=>(W.cell? ⟨w1.heap.size,0,none⟩=some (.int .i64 b.an)/\W.cell? ⟨w1.heap.size,1,none⟩=some (.int .i64 b.places)/\W.cell? ⟨w1.heap.size,2,none⟩=some (.slice a2 b.parts.length c2)/\W.cell? ⟨w1.heap.size,3,none⟩=some (.slice a3 b.apart.length c3)/\W.cell? ⟨w1.heap.size,4,none⟩=some (.slice a4 b.ac.length c4)/\W.cell? ⟨w1.heap.size,5,none⟩=some (.slice a L.length c))/\(W.cell? ⟨w4.heap.size,0,none⟩=some (.int .i64 (mm 0))/\W.cell? ⟨w4.heap.size,1,none⟩=some (.int .i64 (mm 1))/\W.cell? ⟨w4.heap.size,2,none⟩=some (.int .i64 (mm 2))/\W.cell? ⟨w4.heap.size,3,none⟩=some (.int .i64 (mm 3)))/\(W.cell? ⟨w.heap.size+1,0,none⟩=some (cv W (w.heap.size+1) 0)/\W.frozen? ⟨w.heap.size+1,0,none⟩=false/\W.cell? ⟨w.heap.size+1,1,none⟩=some (cv W (w.heap.size+1) 1)/\W.frozen? ⟨w.heap.size+1,1,none⟩=false)) ((W.setCell ⟨w.heap.size+1,0,none⟩ v0).setCell ⟨w.heap.size+1,1,none⟩ v1)):=fun W v0 v1 h=>by
   have hk:aa [w.heap.size+1] W ((W.setCell ⟨w.heap.size+1,0,none⟩ v0).setCell ⟨w.heap.size+1,1,none⟩ v1):=(aa.set W (by simp) _).trans' (aa.set _ (by simp) _);have e1:=hk.box (D5.o.below h D5.o.lt) (by simp;omega);have e2:=hk.box (DM.o.below h DM.o.lt) (by simp;omega);have e3:=((R5.o.below h R5.o.lt).set 0 v0).set 1 v1;exact⟨⟨e1.cell 0 rfl,e1.cell 1 rfl,e1.cell 2 rfl,e1.cell 3 rfl,e1.cell 4 rfl,e1.cell 5 rfl⟩,⟨e2.cell 0 rfl,e2.cell 1 rfl,e2.cell 2 rfl,e2.cell 3 rfl⟩,oP (e3.cell 0 rfl),e3.aN 0,oP (e3.cell 1 rfl),e3.aN 1⟩
  have I8:=oM (W5.drewN 1) (.slice a2 b.parts.length c2) (.slice a3 b.apart.length c3) (.slice a4 b.ac.length c4) b b.places.toNat sG.o Mc.o mm
  have uV:Hid (∀X,Below W5.heap.size W5 X->Calls ZP 65 #[.agg #[.int .i64 b.an,.int .i64 b.places,.slice a2 b.parts.length c2,.slice a3 b.apart.length c3,.slice a4 b.ac.length c4,.slice a L.length c],.agg #[.int .i64 (mm 0),.int .i64 (mm 1),.int .i64 (mm 2),.int .i64 (mm 3)]] X (dd X (.agg #[.int .i64 (J0 b L mm),.int .i64 (tV b L mm)]))):=fun X hX=>
   jZ X _ _ _ _ b b.places.toNat sG.o Mc.o.2 L (HVA.o.later ((Kp.of H15.o).trans (Kp.of hX) H15.o.size)) kZ.o mm (oR HV.o (eX Qr.o)) HTL.o
  simp only[bD]at I8;go_wp2_with fail
  go_region_held3 (fun W:World=>(W.cell? ⟨w1.heap.size,0,none⟩=some (.int .i64 b.an)/\W.cell? ⟨w1.heap.size,1,none⟩=some (.int .i64 b.places)/\W.cell? ⟨w1.heap.size,2,none⟩=some (.slice a2 b.parts.length c2)/\W.cell? ⟨w1.heap.size,3,none⟩=some (.slice a3 b.apart.length c3)/\W.cell? ⟨w1.heap.size,4,none⟩=some (.slice a4 b.ac.length c4)/\W.cell? ⟨w1.heap.size,5,none⟩=some (.slice a L.length c))/\(W.cell? ⟨w4.heap.size,0,none⟩=some (.int .i64 (mm 0))/\W.cell? ⟨w4.heap.size,1,none⟩=some (.int .i64 (mm 1))/\W.cell? ⟨w4.heap.size,2,none⟩=some (.int .i64 (mm 2))/\W.cell? ⟨w4.heap.size,3,none⟩=some (.int .i64 (mm 3)))/\(W.cell? ⟨w.heap.size+1,0,none⟩=some (cv W (w.heap.size+1) 0)/\W.frozen? ⟨w.heap.size+1,0,none⟩=false/\W.cell? ⟨w.heap.size+1,1,none⟩=some (cv W (w.heap.size+1) 1)/\W.frozen? ⟨w.heap.size+1,1,none⟩=false))
   (first|exact zbU.o _ _ _ Ae.o|exact I7.o _ Ae.o|exact I7.o _ re.o|exact I7.o _ (Below.drewN (Below.refl W5.heap.size W5) 1))
   (first
     |(go_at_call 80
       refine I8.mono ?_;rintro e w6 ⟨⟨lv,rfl,nL⟩,lh⟩;have IU:Hid (az w6 lv (aR b.places.toNat mm)):=az.ew nL;have re:Hid (Below W5.heap.size W5 w6):=(Below.drewN (Below.refl W5.heap.size W5) 1).trans lh;have HLV:Hid (∀k,lv.ownBlock=some k->w.heap.size+1<k):=(fun k hk=>by have h1:=(aE nL k hk).1;have h2:=R5.o.lt;exact Nat.lt_of_lt_of_le h2 h1:∀k,lv.ownBlock=some k->w.heap.size+1<k)
       have HLW:=hid nL;clear nL lh I8)
     |(go_at_call 65
       refine(uV.o w6 re.o).mono ?_;rintro e w7 ⟨rfl,Ap⟩;have Ae:=re.t Ap;have FG:Hid (w7.ownsRow (W5.drewN 1).heap.size 3 1 lv (aR b.places.toNat mm).length ((aR b.places.toNat mm).map (Value.int .i64))):=bA HLW.o fun k hk=>Ap.block k (aE HLW.o k hk).2;clear Ap))
  clear I6;obtain⟨lo,nL⟩:=ex1 (J0 b L mm);obtain⟨hi,xQ⟩:=ex1 (tV b L mm);have UX:Hid (J0 b L mm=lo/\tV b L mm=hi):=⟨nL,xQ⟩
  rw[nL,xQ];have BZ:=R5.o.below Ae.o R5.o.lt;obtain⟨WF,jW⟩:=ex1 ((w7.setCell ⟨w.heap.size+1,0,none⟩ (.int .i64 lo)).setCell ⟨w.heap.size+1,1,none⟩ (.int .i64 hi));have jX:aF WF (w.heap.size+1) 31 #[.int .i64 lo,.int .i64 hi]:=by rw[<-jW];exact(BZ.set 0 _).set 1 _
  have nA:aa [w.heap.size+1] w7 WF:=by rw[<-jW];exact(aa.set w7 (by simp) _).trans' (aa.set _ (by simp) _)
  have pT:Hid (Below w.heap.size w WF):=(DE.o.trans (Ae.o.mono DE.o.size)).trans (nA.below (by simp) (by have:=Ae.o.size;have:=DE.o.size;omega));have HLF:Hid (az WF lv (aR b.places.toNat mm)):=az.ew (bA FG.o fun k hk=>nA.block k (aE FG.o k hk).2 (by have:=HLV.o k hk;simp;omega));obtain⟨u0,u1⟩:=jX.c2;rw[jW];clear nL xQ BZ jX nA jW;go_wp2
  refine bodyPost_ret (v:=.tuple #[lv,.agg #[.int .i64 lo,.int .i64 hi],.int .i64 0]) ?_ rfl ⟨.inr (.inr ⟨HL.o.1,HL.o.2,lv,by rw[tU.o,rf.o,UX.o.1,UX.o.2],by rw[tU.o,rf.o];exact HLF.o⟩),pT.o⟩;rw[lY rfl];go_simp
theorem nI:∀(ks:List ((Nat->Int)->Int)) (x y:Nat->Int),aJ ks x y=true->aJ ks y x=false
 | [],_,_,h=>by simp[aJ]at h
 |k::ks,x,y,h=>by
  unfold aJ at h⊢;by_cases h1:k x<k y
  .rw[if_neg (by omega),if_neg (by omega)]
  .rw[if_neg h1]at h;by_cases h2:k x=k y
   .rw[if_pos h2]at h;rw[if_neg (by omega),if_pos h2.symm];exact nI ks x y h
   .rw[if_neg h2]at h;cases h
theorem sQ:∀(ks:List ((Nat->Int)->Int)) (x y z:Nat->Int),aJ ks x y=true->aJ ks z y=false->aJ ks x z=true
 | [],_,_,_,h,_=>by simp[aJ]at h
 |k::ks,x,y,z,h,h'=>by
  unfold aJ at h h'⊢;by_cases h3:k z<k y
  .rw[if_pos h3]at h';cases h'
  .rw[if_neg h3]at h';by_cases h1:k x<k y
   .rw[if_pos (by omega)]
   .rw[if_neg h1]at h;by_cases h2:k x=k y
    .rw[if_pos h2]at h;by_cases h4:k z=k y
     .rw[if_pos h4]at h';rw[if_neg (by omega),if_pos (by omega)];exact sQ ks x y z h h'
     .rw[if_pos (by omega)]
    .rw[if_neg h2]at h;cases h
theorem qB (ks:List ((Nat->Int)->Int)) (x:Nat->Int):aJ ks x x=false:=by
 cases h:aJ ks x x with
 |false=>rfl
 |true=>rw[nI ks x x h]at h;cases h
theorem DI {ks:List ((Nat->Int)->Int)} {R:(Nat->Int)->(Nat->Int)->Prop} {t0:Nat->Int} {l:List (Nat->Int)} (hR:(t0::l).Pairwise R):∀k:Nat,k<=l.length->
 (∀x∈t0::l.take k,aJ ks x (cG ks t0 l k)=false/\(aJ ks (cG ks t0 l k) x=false->x=cG ks t0 l k\/R (cG ks t0 l k) x))/\cG ks t0 l k∈t0::l.take k
 |0,_=>by
  have e:cG ks t0 l 0=t0:=by simp[cG]
  rw[e];refine⟨fun x hx=>?_,by simp⟩;simp at hx;subst hx;exact⟨qB _ _,fun _=>.inl rfl⟩
 |k+1,hk=>by
  obtain⟨h1,h2⟩:=DI (ks:=ks) hR k (by omega);have hx:l[k]?=some l[k]:=List.getElem?_eq_getElem (by omega);obtain⟨y,hy⟩:=ex1 (l[k]);rw[hy]at hx;have LG:t0::l.take (k+1)=(t0::l.take k)++[y]:=by rw[List.take_add_one,hx];rfl
  have hRy:∀x∈t0::l.take k,R x y:=fun x tA=>by
   have hp:((t0::l.take k)++[y]).Pairwise R:=by
    rw[<-LG];exact List.Pairwise.sublist (List.Sublist.cons_cons _ (List.take_sublist _ _)) hR
   exact(List.pairwise_append.1 hp).2.2 x tA y (by simp)
  cases hl:aJ ks y (cG ks t0 l k)with
  |true=>
   rw[nH hx hl,LG];refine⟨fun x tA=>?_,by simp⟩;rcases List.mem_append.1 tA with tA|tA
   .have h3:=sQ ks y _ x hl (h1 x tA).1;exact⟨nI _ _ _ h3,fun h=>by rw[h3]at h;cases h⟩
   .simp at tA;subst tA;exact⟨qB _ _,fun _=>.inl rfl⟩
  |false=>
   rw[mB hx hl,LG];refine⟨fun x tA=>?_,List.mem_append_left _ h2⟩;rcases List.mem_append.1 tA with tA|tA
   .exact h1 x tA
   .simp at tA;subst tA;exact⟨hl,fun _=>.inr (hRy _ h2)⟩
theorem oS {R:(Nat->Int)->(Nat->Int)->Prop} (hR:S.Pairwise R) (hx:x∈S):
 aJ ks x (bZ ks S)=false/\(aJ ks (bZ ks S) x=false->x=bZ ks S\/R (bZ ks S) x):=by
 cases S with
 |nil=>cases hx
 |cons t0 l=>
  have h:=(DI (ks:=ks) hR l.length (Nat.le_refl _)).1 x (by rw[List.take_length];exact hx);exact h
theorem ve:∀(o o':List Int) (r r':List Int),o.length=o'.length->lexLt o o'=true->lexLt (o++r) (o'++r')=true
 | [],[],_,_,_,h=>by simp[lexLt]at h
 | [],_::_,_,_,hl,_=>by simp at hl
 |_::_,[],_,_,hl,_=>by simp at hl
 |x::a,y::b,r,r',hl,h=>by
  simp only[List.cons_append,lexLt,Bool.or_eq_true,Bool.and_eq_true,decide_eq_true_eq]at h⊢;rcases h with h|⟨h1,h2⟩
  .exact .inl h
  .exact .inr ⟨h1,ve a b r r' (by simpa using hl) h2⟩
theorem sR:∀(o:List Int) (k k':Int),k<k'->lexLt (o++[k]) (o++[k'])=true
 | [],k,k',h=>by simp[lexLt,h]
 |x::a,k,k',h=>by
  simp only[List.cons_append,lexLt,Bool.or_eq_true,Bool.and_eq_true,decide_eq_true_eq];exact .inr ⟨trivial,sR a k k' h⟩
theorem lZ:∀(a b:List Int),lexLt a b=true->lexLt b a=false
 | [],[],h=>by simp[lexLt]at h
 | [],_::_,_=>by simp[lexLt]
 |_::_,[],h=>by simp[lexLt]at h
 |x::a,y::b,h=>by
  simp only[lexLt,Bool.or_eq_true,Bool.and_eq_true,decide_eq_true_eq]at h;simp only[lexLt,Bool.or_eq_false_iff,Bool.and_eq_false_iff,decide_eq_false_iff_not];rcases h with h|⟨h1,h2⟩
  .exact⟨by omega,.inl (by omega)⟩
  .exact⟨by omega,.inr (lZ a b h2)⟩
theorem xy (a:List Int):lexLt a a=false:=by
 cases h:lexLt a a with
 |false=>rfl
 |true=>rw[lZ a a h]at h;cases h
theorem mT (b:av):∀p:Nat,(aU b p).Pairwise fun o o'=>lexLt o o'=true
 |0=>by simp[aU]
 |p+1=>by
  classical
  show((aU b p).flatMap (fM b p)).Pairwise _;rw[List.pairwise_flatMap];refine⟨fun o ho=>?_,?_⟩
  .unfold fM;rw[List.pairwise_map];refine List.Pairwise.imp (fun h=>sR o _ _ h) (List.Pairwise.sublist (List.filter_sublist) (oK _))
  .refine List.Pairwise.imp_of_mem (fun{o o'} ho CD h x hx y hy=>?_) (mT b p);unfold fM at hx hy;obtain⟨k,_,rfl⟩:=List.mem_map.1 hx;obtain⟨k',_,rfl⟩:=List.mem_map.1 hy;exact ve o o' _ _ ((de ho).1.trans (de CD).1.symm) h
theorem jp {N:Nat} (h:o.length=N):aR N (ai o)=o:=by
 apply List.ext_getElem?;intro i;unfold aR;rw[List.getElem?_map];by_cases hi:i<N
 .have e:o[i]?=some (o[i]'(by omega)):=List.getElem?_eq_getElem (by omega);rw[List.getElem?_range hi];simp only[Option.map_some,ai];rw[e];rfl
 .rw[List.getElem?_eq_none (by simp;omega),List.getElem?_eq_none (by omega)];rfl
abbrev Ord (b:av) (m m':Nat->Int):Prop:=lexLt (aR b.places.toNat m) (aR b.places.toNat m')=true
theorem qQ (b:av):(aG b).Pairwise (Ord b):=by
 rw[eF,List.pairwise_map];refine List.Pairwise.imp_of_mem (fun{o o'} ho CD h=>?_) (mT b _);show lexLt (aR _ (ai o)) (aR _ (ai o'))=true;rw[jp (de ho).1,jp (de CD).1];exact h
theorem gO (b:av) (L:List (Nat->Int)):(au b L).Pairwise (Ord b):=List.Pairwise.sublist List.filter_sublist (qQ b)
theorem fP (h:m∈aG b):aR b.places.toNat m∈aU b b.places.toNat/\ai (aR b.places.toNat m)=m:=by
 rw[eF]at h;obtain⟨o,ho,rfl⟩:=List.mem_map.1 h;rw[jp (de ho).1];exact⟨ho,rfl⟩
theorem xz (h:o∈aU b b.places.toNat):ai o∈aG b:=by
 rw[eF];exact List.mem_map.2 ⟨o,h,rfl⟩
theorem nJ (hm:m∈au b L) (h:aJ ks (bZ ks (au b L)) m=false):
 lexLt (aR b.places.toNat m) (aR b.places.toNat (bZ ks (au b L)))=false:=by
 rcases(oS (ks:=ks) (gO b L) hm).2 h with h1|h1
 .rw[<-h1];exact xy _
 .exact lZ _ _ h1
theorem Ja (hv:Valid b) {o:Nat->Int} (ho:o∈aG b) (hm:m∈aG b) (h:hU o m):o=m:=by
 obtain⟨h1,e1⟩:=fP ho;obtain⟨h2,e2⟩:=fP hm;have hp:=hv.places;rw[<-e1,<-e2];congr 1;unfold aR;refine List.map_congr_left fun i hi=>?_;have Ro:i<4:=by have:=List.mem_range.1 hi;omega
 obtain⟨a,b,c,d⟩:=h;match i,Ro with
 |0,_=>exact a
 |1,_=>exact b
 |2,_=>exact c
 |3,_=>exact d
theorem xA (m:Nat->Int) (N:Nat) (t0:Nat->Int):∀L:List (Nat->Int),ej m N t0 L<=bW m t0 N/\bW m t0 N<=ep m N t0 L:=by
 have key:∀(L:List (Nat->Int)) (a c:Int),L.foldl (fun a t=>min a (bW m t N)) a<=a/\c<=L.foldl (fun a t=>max a (bW m t N)) c:=by
  intro L;induction L with
  |nil=>intro a c;exact⟨Int.le_refl _,Int.le_refl _⟩
  |cons t L ih=>
   intro a c;have h:=ih (min a (bW m t N)) (max c (bW m t N));simp only[List.foldl_cons];omega
 intro L;exact⟨(key L _ 0).1,(key L 0 _).2⟩
theorem Jb (N:Nat) (L:List (Nat->Int)) (m:Nat->Int):jY N L m<=gV N L m:=by
 have h:=xA m N (L.headD fun _=>0) L.tail;unfold jY gV;omega
theorem sS (hm:m∈aG b):m∈au b L↔gV b.places.toNat L m<=b.an:=by
 unfold au;rw[List.mem_filter];simp[hm]
theorem vg (hv:Valid b) (hm:m∈aG b):(∃o∈au b L,hU o m)↔gV b.places.toNat L m<=b.an:=by
 rw[<-sS hm];refine⟨fun⟨o,ho,h⟩=>?_,fun h=>⟨m,h,rfl,rfl,rfl,rfl⟩⟩;rw[<-Ja hv (eX ho) hm h];exact ho
theorem ma (N:Nat) (S:List (Nat->Int)):∀k:Nat,(∀y∈cU N S k,0<=y/\y<k)/\(cU N S k).Pairwise (·<·)
 |0=>by simp[cU]
 |k+1=>by
  obtain⟨h1,h2⟩:=ma N S k;by_cases h:∃m∈S,missing N k m
  .rw[pV h];exact⟨fun y hy=>by have:=h1 y hy;omega,h2⟩
  .rw[nC h];refine⟨fun y hy=>?_,List.pairwise_append.2 ⟨h2,by simp,fun x hx y hy=>?_⟩⟩
   .rcases List.mem_append.1 hy with hy|hy
    .have:=h1 y hy;omega
    .simp at hy;omega
   .have:=h1 x hx;simp at hy;omega
end Go.Proofs.Cz
