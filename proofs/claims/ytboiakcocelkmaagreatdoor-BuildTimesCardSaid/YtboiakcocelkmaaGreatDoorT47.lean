/- A part. Conditions: none. -/
import Derived.Test.YtboiakcocelkmaaGreatDoorT20
import Derived.Test.YtboiakcocelkmaaGreatDoorT46
set_option linter.all false
set_option maxHeartbeats 8000000
set_option maxRecDepth 100000
namespace Go.Proofs.Cz
open Go.RowKit
theorem pD (w:World):Calls ZP 6 #[] w (bK w (.bool true)):=by
 go_enter ZF6,Tz.ntmps6
 unfold Tz.stub;go_wp2
 go_ret;exact⟨rfl,Below.refl _ _⟩
def sumTo (f:Int->Nat) (l:List Int) (n:Nat):Nat:=((l.take n).map f).sum
theorem sumTo_le (f:Int->Nat) (l:List Int) (n:Nat):sumTo f l n<=(l.map f).sum:=by
 have h:l.map f=(l.take n).map f++(l.drop n).map f:=by rw[<-List.map_append,List.take_append_drop]
 rw[h,List.sum_append];exact Nat.le_add_right _ _
theorem C8 (b:ao) (m:List Int):∃lo hi:Int,gQ b m=.agg #[.int .i64 lo,.int .i64 hi]:=by
 unfold gQ;split
 .exact⟨_,_,rfl⟩
 .exact⟨_,_,rfl⟩
theorem zbD (w:World) (v vm:Value) (b:ao) (m:List Int) (k:Int) (hb:au w v b) (hm:an w vm m) (hc:jH w):
 Calls ZP 3 #[v,.int .i64 k,vm] w fun e _=>e=.returned (.bool true):=by
 have HB:=hid hb;have HC:Hid (jH w):=hc;have HM:=hid hm;obtain⟨a2,c2,a3,c3,a4,c4,rfl⟩:=hb.cj;obtain⟨ma,mc,Ee,_⟩:=hm;obtain rfl:=Ee.eq;obtain⟨A1,aV⟩:=ex1 (w.alloc (.cells #[.int .i64 b.ak,.int .i64 b.places,.slice a2 b.parts.length c2,.slice a3 b.apart.length c3,.slice a4 b.ab.length c4] 26));have B1:Hid (aF A1 w.heap.size 26 #[.int .i64 b.ak,.int .i64 b.places,.slice a2 b.parts.length c2,.slice a3 b.apart.length c3,.slice a4 b.ab.length c4]):=cz aV;have HW:Hid (Below w.heap.size w A1):=(bh aV).below (by simp) (Nat.le_refl _)
 have HZ:Hid (∀X:World,Below A1.heap.size A1 X->X.cell? ⟨w.heap.size,0,none⟩=some (.int .i64 b.ak)/\X.cell? ⟨w.heap.size,1,none⟩=some (.int .i64 b.places)/\X.cell? ⟨w.heap.size,2,none⟩=some (.slice a2 b.parts.length c2)/\X.cell? ⟨w.heap.size,3,none⟩=some (.slice a3 b.apart.length c3)/\X.cell? ⟨w.heap.size,4,none⟩=some (.slice a4 b.ab.length c4)):=fun X hX=>by
  have BX:=B1.o.below hX B1.o.lt;exact⟨BX.cell 0 rfl,BX.cell 1 rfl,BX.cell 2 rfl,BX.cell 3 rfl,BX.cell 4 rfl⟩
 have CF:Hid (∀X:World,Below A1.heap.size A1 X->au X (.agg #[.int .i64 b.ak,.int .i64 b.places,.slice a2 b.parts.length c2,.slice a3 b.apart.length c3,.slice a4 b.ab.length c4]) b):=fun X hX=>HB.o.later (Kp.of (HW.o.trans (hX.mono HW.o.size)));have XB:Hid (∀X:World,Below A1.heap.size A1 X->an X (.slice ma m.length mc) m):=fun X hX=>HM.o.later (Kp.of (HW.o.trans (hX.mono HW.o.size)));have M2:Hid (∀X:World,Below A1.heap.size A1 X->jH X):=fun X hX=>HC.o.later (HW.o.trans (hX.mono HW.o.size));obtain⟨z0,z1,z2,z3,z4⟩:=HZ.o A1 (Below.refl _ _);have hG:=FE A1 _ b (CF.o A1 (Below.refl _ _));have sw:=Ee.le;have Ys:=Ee.I2;unfold maxLen at Ys;clear hb hc Ee;go_enter ZF3,Tryz.ntmps3
 go_wp2_with fail
 refine hG.mono ?_;rintro e w1 ⟨⟨r,rfl,hr⟩,bj⟩;have eI:=hid bj;clear bj aV z0 z1 z2 z3 z4 hG;cases r with
 |true=>
  clear hr;go_wp2_with(go_at_call 6;refine(pD _).mono ?_;rintro e w2 ⟨rfl,_⟩)
  go_ret;rfl
 |false=>
  have HS:Hid (de b):=hr rfl;clear hr;by_cases h20:(20:Int)<(m.length:Int)
  .go_wp2_with(go_at_call 6;refine(pD _).mono ?_;rintro e w2 ⟨rfl,_⟩)
   go_ret;rfl
  .obtain⟨z0,z1,z2,z3,z4⟩:=HZ.o w1 eI.o;obtain⟨n,hn⟩:∃n:Int,((lC b:Nat):Int)=n:=⟨_,rfl⟩
   obtain⟨s,hs⟩:=ex1 (aO b);obtain⟨s2,mh⟩:=ex1 (ah b (bD b k));obtain⟨s3,A8⟩:=ex1 (ah b (ar b m));obtain⟨s4,QU⟩:=ex1 (ah b 0);obtain⟨lo,hi,htv⟩:=C8 b m;obtain⟨la,L7⟩:=ex1 (jc b m);obtain⟨sf,Vw⟩:∃n:Int,((kx b:Nat):Int)=n:=⟨_,rfl⟩
   have H7:Hid (∀X:World,Below A1.heap.size A1 X->Calls ZP 7 #[.agg #[.int .i64 b.ak,.int .i64 b.places,.slice a2 b.parts.length c2,.slice a3 b.apart.length c3,.slice a4 b.ab.length c4]] X (bK X (.tuple #[.int .i64 n,.int .i64 s]))):=fun X hX=>by rw[<-hn,<-hs];exact Gh X _ b (CF.o X hX) HS.o (M2.o X hX)
   have H8:Hid (∀X:World,Below A1.heap.size A1 X->Calls ZP 8 #[.agg #[.int .i64 b.ak,.int .i64 b.places,.slice a2 b.parts.length c2,.slice a3 b.apart.length c3,.slice a4 b.ab.length c4]] X (bK X (.tuple #[.int .i64 n,.int .i64 s]))):=fun X hX=>by rw[<-hn,<-hs];exact Am X _ b (CF.o X hX) HS.o
   have H9:Hid (∀X:World,Below A1.heap.size A1 X->Calls ZP 9 #[.agg #[.int .i64 b.ak,.int .i64 b.places,.slice a2 b.parts.length c2,.slice a3 b.apart.length c3,.slice a4 b.ab.length c4],.int .i64 k] X (fun e w'=>(∃u r,e=.returned (.tuple #[u,.int .i64 s2])/\an w' u r/\ka b k r)/\Below X.heap.size X w')):=fun X hX=>by rw[<-mh];exact C6 X _ b k (CF.o X hX) HS.o (M2.o X hX)
   have KF:Hid (∀X:World,Below A1.heap.size A1 X->Calls ZP 10 #[.agg #[.int .i64 b.ak,.int .i64 b.places,.slice a2 b.parts.length c2,.slice a3 b.apart.length c3,.slice a4 b.ab.length c4],.int .i64 k] X (fun e w'=>(∃u r,e=.returned (.tuple #[u,.int .i64 s2])/\an w' u r/\ka b k r)/\Below X.heap.size X w')):=fun X hX=>by rw[<-mh];exact xq X _ b k (CF.o X hX) HS.o
   have H12:Hid (∀X:World,Below A1.heap.size A1 X->Calls ZP 12 #[.agg #[.int .i64 b.ak,.int .i64 b.places,.slice a2 b.parts.length c2,.slice a3 b.apart.length c3,.slice a4 b.ab.length c4],.slice ma m.length mc] X (bK X (.tuple #[.agg #[.int .i64 lo,.int .i64 hi],.int .i64 s3]))):=fun X hX=>by rw[<-A8,<-htv];exact Aw X _ _ b m (CF.o X hX) HS.o (M2.o X hX) (XB.o X hX)
   have H13:Hid (∀X:World,Below A1.heap.size A1 X->Calls ZP 13 #[.agg #[.int .i64 b.ak,.int .i64 b.places,.slice a2 b.parts.length c2,.slice a3 b.apart.length c3,.slice a4 b.ab.length c4],.slice ma m.length mc] X (bK X (.tuple #[.agg #[.int .i64 lo,.int .i64 hi],.int .i64 s3]))):=fun X hX=>by rw[<-A8,<-htv];exact xu X _ _ b m (CF.o X hX) HS.o (XB.o X hX)
   have H14:Hid (∀X:World,Below A1.heap.size A1 X->Calls ZP 14 #[.agg #[.int .i64 b.ak,.int .i64 b.places,.slice a2 b.parts.length c2,.slice a3 b.apart.length c3,.slice a4 b.ab.length c4],.slice ma m.length mc] X (bK X (.tuple #[.int .i64 la,.int .i64 s3]))):=fun X hX=>by rw[<-A8,<-L7];exact Gi X _ _ b m (CF.o X hX) HS.o (M2.o X hX) (XB.o X hX)
   have H15:Hid (∀X:World,Below A1.heap.size A1 X->Calls ZP 15 #[.agg #[.int .i64 b.ak,.int .i64 b.places,.slice a2 b.parts.length c2,.slice a3 b.apart.length c3,.slice a4 b.ab.length c4],.slice ma m.length mc] X (bK X (.tuple #[.int .i64 la,.int .i64 s3]))):=fun X hX=>by rw[<-A8,<-L7];exact Ap X _ _ b m (CF.o X hX) HS.o (XB.o X hX)
   have H16:Hid (∀X:World,Below A1.heap.size A1 X->Calls ZP 16 #[.agg #[.int .i64 b.ak,.int .i64 b.places,.slice a2 b.parts.length c2,.slice a3 b.apart.length c3,.slice a4 b.ab.length c4]] X (bK X (.tuple #[.int .i64 sf,.int .i64 s4]))):=fun X hX=>by rw[<-QU,<-Vw];exact C7 X _ b (CF.o X hX) HS.o (M2.o X hX)
   have H17:Hid (∀X:World,Below A1.heap.size A1 X->Calls ZP 17 #[.agg #[.int .i64 b.ak,.int .i64 b.places,.slice a2 b.parts.length c2,.slice a3 b.apart.length c3,.slice a4 b.ab.length c4]] X (bK X (.tuple #[.int .i64 sf,.int .i64 s4]))):=fun X hX=>by rw[<-QU,<-Vw];exact Ar X _ b (CF.o X hX) HS.o
   clear hn hs mh A8 QU htv L7 Vw;have hC:=H7.o _ eI.o;go_wp2_with fail
   refine hC.mono ?_;rintro e w2 ⟨rfl,fk⟩;have eJ:=eI.t fk;clear fk z0 z1 z2 z3 z4 hC;obtain⟨z0,z1,z2,z3,z4⟩:=HZ.o w2 eJ.o;have hC:=H8.o _ eJ.o;go_wp2_with fail
   refine hC.mono ?_;rintro e w3 ⟨rfl,MV⟩;have gi:=eJ.t MV;clear MV z0 z1 z2 z3 z4 hC;obtain⟨z0,z1,z2,z3,z4⟩:=HZ.o w3 gi.o;have hC:=H9.o _ gi.o;go_wp2_with fail
   refine hC.mono ?_;rintro e w4 ⟨⟨u4,r4,rfl,hu4,ht4⟩,Ce⟩;have oC:=gi.t Ce;have HU4:=hid hu4;have HT4:=hid ht4;clear hu4 ht4;clear Ce z0 z1 z2 z3 z4 hC;obtain⟨z0,z1,z2,z3,z4⟩:=HZ.o w4 oC.o;have hC:=KF.o _ oC.o;go_wp2_with fail
   refine hC.mono ?_;rintro e w5 ⟨⟨u5,r5,rfl,hu5,ht5⟩,pp⟩;have xN:=oC.t pp;have HU5:=hid hu5;have HT5:=hid ht5;have zbF:Hid (an w5 u4 r4):=HU4.o.later (Kp.of pp);clear hu5 ht5;clear pp z0 z1 z2 z3 z4 hC;obtain⟨z0,z1,z2,z3,z4⟩:=HZ.o w5 xN.o;obtain rfl:r4=r5:=HT4.o.eq HT5.o;have hC:=xv w5 u4 u5 r4 zbF.o HU5.o;go_wp2_with fail
   refine hC.mono ?_;rintro e w6 ⟨rfl,tu⟩;have oh:=xN.t tu;clear tu z0 z1 z2 z3 z4 hC;obtain⟨z0,z1,z2,z3,z4⟩:=HZ.o w6 oh.o;have hC:=H12.o _ oh.o;go_wp2_with fail
   refine hC.mono ?_;rintro e w7 ⟨rfl,xk⟩;have mr:=oh.t xk;clear xk z0 z1 z2 z3 z4 hC;obtain⟨z0,z1,z2,z3,z4⟩:=HZ.o w7 mr.o;obtain⟨w8,hA8⟩:=ex1 (w7.alloc (.cells #[.int .i64 lo,.int .i64 hi] 37));have HB8:Hid (Below A1.heap.size A1 w8):=mr.o.trans ((bh hA8).below (by simp) mr.o.size);have BX8:Hid (aF w8 w7.heap.size 37 #[.int .i64 lo,.int .i64 hi]):=cz hA8;clear z0 z1 z2 z3 z4;obtain⟨z0,z1,z2,z3,z4⟩:=HZ.o w8 HB8.o;go_upto_region 12 with fail
   clear hA8;have hC:=H13.o _ HB8.o;go_wp2_with fail
   refine hC.mono ?_;rintro e w9 ⟨rfl,hb9⟩;have HB9:=HB8.t hb9;have BY9:=hidb BX8 hb9;clear hb9 z0 z1 z2 z3 z4 hC;obtain⟨z0,z1,z2,z3,z4⟩:=HZ.o w9 HB9.o;obtain⟨UV,Nc⟩:=ex1 (w9.alloc (.cells #[.int .i64 lo,.int .i64 hi] 37));have Rw:Hid (Below A1.heap.size A1 UV):=HB9.o.trans ((bh Nc).below (by simp) HB9.o.size);have VZ:Hid (aF UV w9.heap.size 37 #[.int .i64 lo,.int .i64 hi]):=cz Nc;have V2:Hid (aF UV w7.heap.size 37 #[.int .i64 lo,.int .i64 hi]):=(bh Nc).box BY9.o (by simp);clear z0 z1 z2 z3 z4;obtain⟨z0,z1,z2,z3,z4⟩:=HZ.o UV Rw.o;go_upto_region 13 with fail
   clear Nc;have y0:=V2.o.cell 0 rfl;have y1:=V2.o.cell 1 rfl;have x0:=VZ.o.cell 0 rfl;have x1:=VZ.o.cell 1 rfl;have hG:=Gg;have hC:=H14.o _ Rw.o;go_wp2_with fail
   refine hC.mono ?_;rintro e ZT ⟨rfl,V3⟩;have Ry:=Rw.t V3;clear hG x0 x1 y0 y1 V3 z0 z1 z2 z3 z4 hC;obtain⟨z0,z1,z2,z3,z4⟩:=HZ.o ZT Ry.o;have hC:=H15.o _ Ry.o;go_wp2_with fail
   refine hC.mono ?_;rintro e w12 ⟨rfl,V4⟩;have sU:=Ry.t V4;clear V4 z0 z1 z2 z3 z4 hC;obtain⟨z0,z1,z2,z3,z4⟩:=HZ.o w12 sU.o;have hC:=H16.o _ sU.o;go_wp2_with fail
   refine hC.mono ?_;rintro e w13 ⟨rfl,V5⟩;have RA:=sU.t V5;clear V5 z0 z1 z2 z3 z4 hC;obtain⟨z0,z1,z2,z3,z4⟩:=HZ.o w13 RA.o;have hC:=H17.o _ RA.o;go_wp2_with fail
   refine hC.mono ?_;rintro e w14 ⟨rfl,V6⟩;have zbK:=RA.t V6;clear V6 z0 z1 z2 z3 z4 hC;obtain⟨z0,z1,z2,z3,z4⟩:=HZ.o w14 zbK.o;go_wp2_with(go_at_call 6;refine(pD _).mono ?_;rintro e w15 ⟨rfl,_⟩)
   go_ret;rfl
end Go.Proofs.Cz
namespace Go.Proofs.Cz
open Go.Conc Go.aA
def S1 (n:Nat):Bool:=(Nat.blt n 181&&!([0,1,2,6,35,92,97,152,153,154,155,156,157,158,159,160,161,162,163,164,165,166,167,176,177,178].contains n))||Nat.beq n JK||Nat.beq n (JK+7)
theorem RB:bd ZP:=fun t i v h1 h2=>Cw.gT t i v h1 h2
theorem JZ:aJ ZP:=fun t i u h=>Cw.dC t i u h
noncomputable def nP (lo n:Nat):Bool:=(List.range n).all fun i=>!S1 (lo+i)||Nat.beq (lo+i) 39||(match Tryz.funcs[lo+i]? with
 |some fn=>(match fn.body with|some c=>codeOk ZP S1 c&&!(fn.name== "runtime.NumGoroutine")|none=>false)
 |none=>false)
theorem Zi:nP 0 40=true:=by kernel_rfl
theorem Zj:nP 40 60=true:=by kernel_rfl
theorem Zk:nP 100 80=true:=by kernel_rfl
theorem sg {lo n i:Nat} (h:nP lo n=true) (h1:lo<=i) (h2:i<lo+n) (hs:S1 i=true) (qq:i≠39):∃fn c,Tryz.funcs[i]? =some fn/\fn.body=some c/\codeOk ZP S1 c=true/\fn.name≠ "runtime.NumGoroutine" :=by
 have:=List.all_eq_true.1 h (i-lo) (by simp;omega);rw[show lo+(i-lo)=i by omega,hs,show Nat.beq i 39=false by cases hq:Nat.beq i 39 with|false=>rfl|true=>exact absurd (Nat.eq_of_beq_eq_true hq) qq]at this;simp only[Bool.not_true,Bool.false_or]at this;cases hf:Tryz.funcs[i]? with
 |none=>rw[hf]at this;cases this
 |some fn=>
  rw[hf]at this;simp only at this;cases tK:fn.body with
  |none=>rw[tK]at this;cases this
  |some c=>
   rw[tK]at this;simp only[Bool.and_eq_true,Bool.not_eq_true',beq_eq_false_iff_ne]at this;exact⟨fn,c,rfl,tK,this.1,this.2⟩
theorem Ek {f:Nat} (h:S1 f=true):f<181\/f=JK\/f=JK+7:=by
 simp only[S1,Bool.or_eq_true,Bool.and_eq_true]at h;rcases h with(⟨h,_⟩|h)|h
 .exact .inl (by simpa using h)
 .exact .inr (.inl (Nat.eq_of_beq_eq_true h))
 .exact .inr (.inr (Nat.eq_of_beq_eq_true h))
theorem OG {f:Nat} (h1:181<=f) (h2:f≠JK) (h3:f≠JK+7):S1 f=false:=by
 cases h:S1 f with
 |false=>rfl
 |true=>rcases Ek h with h|h|h<;>omega
theorem vy:ZP.funcs.size=180:=by rw[Tz.nU];unfold Tz.funcs;rw[Array.size_setIfInBounds,Array.size_setIfInBounds,Tz.size]
theorem sZ:ZP.globals.size=1:=by kernel_rfl
def X1:Code->Code|.seq a _=>a|_=>.skip
def X2:Code->Code|.seq _ b=>b|_=>.skip
noncomputable def dV:Code:=(Tryz.f39.body).getD .skip
theorem Gj:dV=.seq (X1 dV) (.seq (X1 (X2 dV)) (.seq (X1 (X2 (X2 dV))) (.seq (X1 (X2 (X2 (X2 dV)))) (X2 (X2 (X2 (X2 dV))))))):=rfl
theorem J0:Tz.cut (.refuse "") dV=.seq (X1 dV) (.seq (X1 (X2 dV)) (.seq (X1 (X2 (X2 dV))) (.seq (X1 (X2 (X2 (X2 dV)))) (.refuse "")))):=rfl
theorem Nf:(codeOk ZP S1 (X1 dV)&&codeOk ZP S1 (X1 (X2 dV))&&codeOk ZP S1 (X1 (X2 (X2 dV)))&&codeOk ZP S1 (X1 (X2 (X2 (X2 dV)))))=true:=by kernel_rfl
theorem zbL {H:Code->Code->Prop} (hn:∀a b,¬H a b):CR ZP S1 H (Tz.cut (.refuse "") dV) dV:=by
 have h:=Nf;simp only[Bool.and_eq_true]at h;obtain⟨⟨⟨h1,h2⟩,h3⟩,h4⟩:=h;rw[J0];refine cast (congrArg (CR ZP S1 H _) Gj.symm) ?_;exact .seq (.same h1 (.inr hn)) (.seq (.same h2 (.inr hn)) (.seq (.same h3 (.inr hn)) (.seq (.same h4 (.inr hn)) (.refuse _ _ hn))))
theorem El:Closed ZP Tryz.funcs S1 Ko where
 gT:=RB
 dC:=JZ
 SP:=fun _=>by kernel_rfl
 size:=by rw[vy,Tz.size]
 ul:=fun f hf=>by
  rw[vy,sZ];refine⟨fun _=>?_,fun _ a b h=>h⟩;have hJ:JK=1000000:=rfl;rcases Ek hf with h|h|h<;>refine OG ?_ ?_ ?_<;>omega
 body:=fun f hf=>by
  have hJ:JK=1000000:=rfl;rcases Ek hf with h|h|h
  .by_cases h9:f=180
   .subst h9;exact .inl ⟨Array.getElem?_eq_none (by rw[vy];omega),Array.getElem?_eq_none (by rw[Tz.size];omega)⟩
   .by_cases qq:f=39
    .subst qq;exact .inr ⟨Tz.f39,Tryz.f39,_,dV,ZF39,Tryz.func39,rfl,rfl,zbL fun _ _ hh=>hh,by decide,by decide,rfl,rfl⟩
    obtain⟨fn,c,h1,h2,h3,h4⟩:∃fn c,Tryz.funcs[f]? =some fn/\fn.body=some c/\codeOk ZP S1 c=true/\fn.name≠ "runtime.NumGoroutine" :=by
     by_cases l1:f<40
     .exact sg Zi (by omega) (by omega) hf qq
     .by_cases l2:f<100
      .exact sg Zj (by omega) (by omega) hf qq
      .exact sg Zk (by omega) (by omega) hf qq
    have qp:6≠f:=fun e=>by subst e;cases hf
    exact .inr ⟨fn,fn,c,c,(Tz.same f ⟨qp,Ne.symm qq⟩).trans h1,h1,h2,h2,.same h3 (.inr fun _ _ hh=>hh),h4,h4,rfl,rfl⟩
  .exact .inl ⟨Array.getElem?_eq_none (by rw[vy];omega),Array.getElem?_eq_none (by rw[Tz.size];omega)⟩
  .exact .inl ⟨Array.getElem?_eq_none (by rw[vy];omega),Array.getElem?_eq_none (by rw[Tz.size];omega)⟩
theorem Ng:S1 (ZP.funcs.size+ZP.globals.size)=false:=by rw[vy,sZ];exact OG (by omega) (by decide) (by decide)
theorem V7:ae ZP Tryz.funcs=Tryz.prog:=rfl
end Go.Proofs.Cz
