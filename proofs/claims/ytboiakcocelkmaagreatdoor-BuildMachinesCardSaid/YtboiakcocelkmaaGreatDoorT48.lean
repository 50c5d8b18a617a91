/- A part. Conditions: none. -/
import Derived.Test.YtboiakcocelkmaaGreatDoorT20
import Derived.Test.YtboiakcocelkmaaGreatDoorT47
set_option linter.all false
set_option maxHeartbeats 8000000
set_option maxRecDepth 100000
namespace Go.Proofs.Cz
open Go.RowKit
theorem oR (w:World):Calls ZP 6 #[] w (dU w (.bool true)):=by
 go_enter ZF6,Tz.ntmps6
 unfold Tz.stub;go_wp2
 go_ret;exact⟨rfl,Below.refl _ _⟩
def sumTo (f:Int->Nat) (l:List Int) (n:Nat):Nat:=((l.take n).map f).sum
theorem sumTo_le (f:Int->Nat) (l:List Int) (n:Nat):sumTo f l n<=(l.map f).sum:=by
 have h:l.map f=(l.take n).map f++(l.drop n).map f:=by rw[<-List.map_append,List.take_append_drop]
 rw[h,List.sum_append];exact Nat.le_add_right _ _
theorem YX (w:World) (v vm:Value) (b:an) (m:List Int) (k:Int) (hb:aB w v b) (hm:ae w vm m) (hc:lq w):
 Calls ZP 4 #[v,.int .i64 k,vm] w fun e _=>e=.returned (.bool true):=by
 have HB:=hid hb;have HC:Hid (lq w):=hc;have HM:=hid hm;obtain⟨a2,c2,a3,c3,a4,c4,rfl⟩:=hb.dV;obtain⟨ma,mc,KL,_⟩:=hm;obtain rfl:=KL.eq;obtain⟨A1,bH⟩:=ex1 (w.alloc (.cells #[.int .i64 b.ap,.int .i64 b.places,.slice a2 b.parts.length c2,.slice a3 b.apart.length c3,.slice a4 b.aa.length c4] 26));have B1:Hid (aX A1 w.heap.size 26 #[.int .i64 b.ap,.int .i64 b.places,.slice a2 b.parts.length c2,.slice a3 b.apart.length c3,.slice a4 b.aa.length c4]):=eW bH;have HW:Hid (Below w.heap.size w A1):=(cZ bH).below (by simp) (Nat.le_refl _)
 have HZ:Hid (∀X:World,Below A1.heap.size A1 X->X.cell? ⟨w.heap.size,0,none⟩=some (.int .i64 b.ap)/\X.cell? ⟨w.heap.size,1,none⟩=some (.int .i64 b.places)/\X.cell? ⟨w.heap.size,2,none⟩=some (.slice a2 b.parts.length c2)/\X.cell? ⟨w.heap.size,3,none⟩=some (.slice a3 b.apart.length c3)/\X.cell? ⟨w.heap.size,4,none⟩=some (.slice a4 b.aa.length c4)):=fun X hX=>by
  have BX:=B1.o.below hX B1.o.lt;exact⟨BX.cell 0 rfl,BX.cell 1 rfl,BX.cell 2 rfl,BX.cell 3 rfl,BX.cell 4 rfl⟩
 have AN:Hid (∀X:World,Below A1.heap.size A1 X->aB X (.agg #[.int .i64 b.ap,.int .i64 b.places,.slice a2 b.parts.length c2,.slice a3 b.apart.length c3,.slice a4 b.aa.length c4]) b):=fun X hX=>HB.o.later (Kp.of (HW.o.trans (hX.mono HW.o.size)));have UN:Hid (∀X:World,Below A1.heap.size A1 X->ae X (.slice ma m.length mc) m):=fun X hX=>HM.o.later (Kp.of (HW.o.trans (hX.mono HW.o.size)));have IA:Hid (∀X:World,Below A1.heap.size A1 X->lq X):=fun X hX=>HC.o.later (HW.o.trans (hX.mono HW.o.size));obtain⟨z0,z1,z2,z3,z4⟩:=HZ.o A1 (Below.refl _ _);have hG:=DK A1 _ b (AN.o A1 (Below.refl _ _));have GA:=KL.le;have VE:=KL.Oh;unfold maxLen at VE;clear hb hc KL;go_enter ZF4,Tryz.ntmps4
 go_wp2_with fail
 refine hG.mono ?_;rintro e w1 ⟨⟨r,rfl,hr⟩,bu⟩;have ew:=hid bu;clear bu bH z0 z1 z2 z3 z4 hG;cases r with
 |true=>
  clear hr;go_wp2_with(go_at_call 6;refine(oR _).mono ?_;rintro e w2 ⟨rfl,_⟩)
  go_ret;rfl
 |false=>
  have HS:Hid (di b):=hr rfl;clear hr;by_cases h20:(20:Int)<(m.length:Int)
  .go_wp2_with(go_at_call 6;refine(oR _).mono ?_;rintro e w2 ⟨rfl,_⟩)
   go_ret;rfl
  .obtain⟨z0,z1,z2,z3,z4⟩:=HZ.o w1 ew.o;obtain⟨n,hn⟩:∃n:Int,((kO b:Nat):Int)=n:=⟨_,rfl⟩
   obtain⟨s,hs⟩:=ex1 (aK b);obtain⟨s2,v8⟩:=ex1 (cG b k);obtain⟨s3,za⟩:=ex1 (cX b m);obtain⟨df,YY⟩:=ex1 (kP b m);obtain⟨co,jw⟩:=ex1 (kQ b m);have H18:Hid (∀X:World,Below A1.heap.size A1 X->Calls ZP 18 #[.agg #[.int .i64 b.ap,.int .i64 b.places,.slice a2 b.parts.length c2,.slice a3 b.apart.length c3,.slice a4 b.aa.length c4],.int .i64 k] X (fun e w'=>(∃u,e=.returned (.tuple #[u,.int .i64 s2])/\ae w' u (sb b k))/\Below X.heap.size X w')):=fun X hX=>by rw[<-v8];exact D6 X _ b k (AN.o X hX) HS.o (IA.o X hX)
   have H19:Hid (∀X:World,Below A1.heap.size A1 X->Calls ZP 19 #[.agg #[.int .i64 b.ap,.int .i64 b.places,.slice a2 b.parts.length c2,.slice a3 b.apart.length c3,.slice a4 b.aa.length c4],.int .i64 k] X (fun e w'=>(∃u,e=.returned (.tuple #[u,.int .i64 s2])/\ae w' u (sb b k))/\Below X.heap.size X w')):=fun X hX=>by rw[<-v8];exact A6 X _ b k (AN.o X hX) HS.o
   have H20:Hid (∀X:World,Below A1.heap.size A1 X->Calls ZP 20 #[.agg #[.int .i64 b.ap,.int .i64 b.places,.slice a2 b.parts.length c2,.slice a3 b.apart.length c3,.slice a4 b.aa.length c4]] X (dU X (.int .i64 s))):=fun X hX=>by rw[<-hs];exact(ff X _ b (AN.o X hX) HS.o (IA.o X hX)).mono fun e w' h=>(by obtain⟨⟨r,rfl,rfl⟩,h2⟩:=h;exact⟨rfl,h2⟩)
   have H21:Hid (∀X:World,Below A1.heap.size A1 X->Calls ZP 21 #[.agg #[.int .i64 b.ap,.int .i64 b.places,.slice a2 b.parts.length c2,.slice a3 b.apart.length c3,.slice a4 b.aa.length c4]] X (dU X (.int .i64 s))):=fun X hX=>by rw[<-hs];exact(eG X _ b (AN.o X hX) HS.o).mono fun e w' h=>(by obtain⟨⟨r,rfl,rfl⟩,h2⟩:=h;exact⟨rfl,h2⟩)
   have H22:Hid (∀X:World,Below A1.heap.size A1 X->Calls ZP 22 #[.agg #[.int .i64 b.ap,.int .i64 b.places,.slice a2 b.parts.length c2,.slice a3 b.apart.length c3,.slice a4 b.aa.length c4]] X (dU X (.tuple #[.int .i64 n,.int .i64 s]))):=fun X hX=>by rw[<-hn,<-hs];exact sf X _ b (AN.o X hX) HS.o (IA.o X hX)
   have PN:Hid (∀X:World,Below A1.heap.size A1 X->Calls ZP 23 #[.agg #[.int .i64 b.ap,.int .i64 b.places,.slice a2 b.parts.length c2,.slice a3 b.apart.length c3,.slice a4 b.aa.length c4]] X (dU X (.tuple #[.int .i64 n,.int .i64 s]))):=fun X hX=>by rw[<-hn,<-hs];exact pY X _ b (AN.o X hX) HS.o
   have H24:Hid (∀X:World,Below A1.heap.size A1 X->Calls ZP 24 #[.agg #[.int .i64 b.ap,.int .i64 b.places,.slice a2 b.parts.length c2,.slice a3 b.apart.length c3,.slice a4 b.aa.length c4]] X (fun e w'=>(∃u r,e=.returned (.tuple #[u,.int .i64 s])/\ae w' u r/\se b r)/\Below X.heap.size X w')):=fun X hX=>by rw[<-hs];exact D7 X _ b (AN.o X hX) HS.o (IA.o X hX)
   have KD:Hid (∀X:World,Below A1.heap.size A1 X->Calls ZP 25 #[.agg #[.int .i64 b.ap,.int .i64 b.places,.slice a2 b.parts.length c2,.slice a3 b.apart.length c3,.slice a4 b.aa.length c4]] X (fun e w'=>(∃u r,e=.returned (.tuple #[u,.int .i64 s])/\ae w' u r/\se b r)/\Below X.heap.size X w')):=fun X hX=>by rw[<-hs];exact Ba X _ b (AN.o X hX) HS.o
   have H26:Hid (∀X:World,Below A1.heap.size A1 X->Calls ZP 26 #[.agg #[.int .i64 b.ap,.int .i64 b.places,.slice a2 b.parts.length c2,.slice a3 b.apart.length c3,.slice a4 b.aa.length c4],.slice ma m.length mc] X (dU X (.tuple #[.int .i64 df,.int .i64 s3]))):=fun X hX=>by rw[<-za,<-YY];exact AY X _ _ b m (AN.o X hX) HS.o (IA.o X hX) (UN.o X hX)
   have H27:Hid (∀X:World,Below A1.heap.size A1 X->Calls ZP 27 #[.agg #[.int .i64 b.ap,.int .i64 b.places,.slice a2 b.parts.length c2,.slice a3 b.apart.length c3,.slice a4 b.aa.length c4],.slice ma m.length mc] X (dU X (.tuple #[.int .i64 df,.int .i64 s3]))):=fun X hX=>by rw[<-za,<-YY];exact yS X _ _ b m (AN.o X hX) HS.o (UN.o X hX)
   have H28:Hid (∀X:World,Below A1.heap.size A1 X->Calls ZP 28 #[.agg #[.int .i64 b.ap,.int .i64 b.places,.slice a2 b.parts.length c2,.slice a3 b.apart.length c3,.slice a4 b.aa.length c4],.slice ma m.length mc] X (dU X (.tuple #[.int .i64 co,.int .i64 s3]))):=fun X hX=>by rw[<-za,<-jw];exact AZ X _ _ b m (AN.o X hX) HS.o (IA.o X hX) (UN.o X hX)
   have H29:Hid (∀X:World,Below A1.heap.size A1 X->Calls ZP 29 #[.agg #[.int .i64 b.ap,.int .i64 b.places,.slice a2 b.parts.length c2,.slice a3 b.apart.length c3,.slice a4 b.aa.length c4],.slice ma m.length mc] X (dU X (.tuple #[.int .i64 co,.int .i64 s3]))):=fun X hX=>by rw[<-za,<-jw];exact yT X _ _ b m (AN.o X hX) HS.o (UN.o X hX)
   clear hn hs v8 za YY jw;have hC:=H18.o _ ew.o;go_wp2_with fail
   refine hC.mono ?_;rintro e w2 ⟨⟨u2,rfl,Tx⟩,fk⟩;have jV:=ew.t fk;have HU2:=hid Tx;clear Tx;clear fk z0 z1 z2 z3 z4 hC;obtain⟨z0,z1,z2,z3,z4⟩:=HZ.o w2 jV.o;have hC:=H19.o _ jV.o;go_wp2_with fail
   refine hC.mono ?_;rintro e w3 ⟨⟨u3,rfl,O0⟩,qv⟩;have iP:=jV.t qv;have HU3:=hid O0;have YZ:Hid (ae w3 u2 (sb b k)):=HU2.o.later (Kp.of qv);clear O0;clear qv z0 z1 z2 z3 z4 hC;obtain⟨z0,z1,z2,z3,z4⟩:=HZ.o w3 iP.o;clear z0 z1 z2 z3 z4;have ti:=HZ.o w3 iP.o;have Z0:∀X:ah w3,X.1.cell? ⟨w.heap.size,0,none⟩=some (.int .i64 b.ap):=fun X=>X.cell ti.1;have Z1:∀X:ah w3,X.1.cell? ⟨w.heap.size,1,none⟩=some (.int .i64 b.places):=fun X=>X.cell ti.2.1;have Z2:∀X:ah w3,X.1.cell? ⟨w.heap.size,2,none⟩=some (.slice a2 b.parts.length c2):=fun X=>X.cell ti.2.2.1;have Z3:∀X:ah w3,X.1.cell? ⟨w.heap.size,3,none⟩=some (.slice a3 b.apart.length c3):=fun X=>X.cell ti.2.2.2.1;have Z4:∀X:ah w3,X.1.cell? ⟨w.heap.size,4,none⟩=some (.slice a4 b.aa.length c4):=fun X=>X.cell ti.2.2.2.2
   have Uk:∀X:ah w3,Calls ZP 11 #[u2,u3] X.1 (fun e gI=>e=.returned (.bool true)/\∃Y:ah w3,gI=Y.1):=fun X=>
    (nG X.1 u2 u3 (sb b k) (YZ.o.later X.kp) (HU3.o.later X.kp)).mono fun e w' h=>⟨h.1,X.on h.2⟩
   have q20:∀X:ah w3,Calls ZP 20 #[.agg #[.int .i64 b.ap,.int .i64 b.places,.slice a2 b.parts.length c2,.slice a3 b.apart.length c3,.slice a4 b.aa.length c4]] X.1 (fun e gI=>e=.returned (.int .i64 s)/\∃Y:ah w3,gI=Y.1):=fun X=>
    (H20.o X.1 (iP.o.trans (X.2.mono iP.o.size))).mono fun e w' h=>⟨h.1,X.on h.2⟩
   have q21:∀X:ah w3,Calls ZP 21 #[.agg #[.int .i64 b.ap,.int .i64 b.places,.slice a2 b.parts.length c2,.slice a3 b.apart.length c3,.slice a4 b.aa.length c4]] X.1 (fun e gI=>e=.returned (.int .i64 s)/\∃Y:ah w3,gI=Y.1):=fun X=>
    (H21.o X.1 (iP.o.trans (X.2.mono iP.o.size))).mono fun e w' h=>⟨h.1,X.on h.2⟩
   clear ti;go_wp2_with fail
   refine aj (by kernel_rfl) (by kernel_rfl) ?_;repeat(go_big_quiet_step (first|(go_at_call 11;exact Uk _)|(go_at_call 20;exact q20 _)|(go_at_call 21;exact q21 _)))
   refine wpQuiet_nil ?_;rintro _ ⟨X,rfl⟩;obtain⟨w4,GB⟩:=ex1 (X.1);have Kq:Hid (Below A1.heap.size A1 w4):=by rw[<-GB];exact iP.o.trans (X.2.mono iP.o.size)
   rw[GB];clear Z0 Z1 Z2 Z3 Z4 Uk q20 q21 GB;obtain⟨z0,z1,z2,z3,z4⟩:=HZ.o w4 Kq.o;have hC:=H22.o _ Kq.o;go_wp2_with fail
   refine hC.mono ?_;rintro e w5 ⟨rfl,sx⟩;have OG:=Kq.t sx;clear sx z0 z1 z2 z3 z4 hC;obtain⟨z0,z1,z2,z3,z4⟩:=HZ.o w5 OG.o;have hC:=PN.o _ OG.o;go_wp2_with fail
   refine hC.mono ?_;rintro e w6 ⟨rfl,S4⟩;have KI:=OG.t S4;clear S4 z0 z1 z2 z3 z4 hC;obtain⟨z0,z1,z2,z3,z4⟩:=HZ.o w6 KI.o;have hC:=H24.o _ KI.o;go_wp2_with fail
   refine hC.mono ?_;rintro e w7 ⟨⟨u7,r7,rfl,hu7,ht7⟩,hb7⟩;have Y3:=KI.t hb7;have HU7:=hid hu7;have HT7:Hid (se b r7):=ht7;clear hu7 ht7;clear hb7 z0 z1 z2 z3 z4 hC;obtain⟨z0,z1,z2,z3,z4⟩:=HZ.o w7 Y3.o;have hC:=KD.o _ Y3.o;go_wp2_with fail
   refine hC.mono ?_;rintro e w8 ⟨⟨u8,r8,rfl,hu8,ht8⟩,Y4⟩;have HB8:=Y3.t Y4;have HU8:=hid hu8;have HT8:Hid (se b r8):=ht8;have Y6:Hid (ae w8 u7 r7):=HU7.o.later (Kp.of Y4);clear hu8 ht8;clear Y4 z0 z1 z2 z3 z4 hC;obtain⟨z0,z1,z2,z3,z4⟩:=HZ.o w8 HB8.o;obtain rfl:r7=r8:=HT7.o.eq HT8.o;have hC:=nG w8 u7 u8 r7 Y6.o HU8.o;go_wp2_with fail
   refine hC.mono ?_;rintro e w9 ⟨rfl,hb9⟩;have Y7:=HB8.t hb9;clear hb9 z0 z1 z2 z3 z4 hC;obtain⟨z0,z1,z2,z3,z4⟩:=HZ.o w9 Y7.o;have hC:=H26.o _ Y7.o;go_wp2_with fail
   refine hC.mono ?_;rintro e w10 ⟨rfl,Tf⟩;have OP:=Y7.t Tf;clear Tf z0 z1 z2 z3 z4 hC;obtain⟨z0,z1,z2,z3,z4⟩:=HZ.o w10 OP.o;have hC:=H27.o _ OP.o;go_wp2_with fail
   refine hC.mono ?_;rintro e Xn ⟨rfl,Tg⟩;have OQ:=OP.t Tg;clear Tg z0 z1 z2 z3 z4 hC;obtain⟨z0,z1,z2,z3,z4⟩:=HZ.o Xn OQ.o;have hC:=H28.o _ OQ.o;go_wp2_with fail
   refine hC.mono ?_;rintro e w12 ⟨rfl,Th⟩;have OS:=OQ.t Th;clear Th z0 z1 z2 z3 z4 hC;obtain⟨z0,z1,z2,z3,z4⟩:=HZ.o w12 OS.o;have hC:=H29.o _ OS.o;go_wp2_with fail
   refine hC.mono ?_;rintro e w13 ⟨rfl,Ti⟩;have Y8:=OS.t Ti;clear Ti z0 z1 z2 z3 z4 hC;obtain⟨z0,z1,z2,z3,z4⟩:=HZ.o w13 Y8.o;go_wp2_with(go_at_call 6;refine(oR _).mono ?_;rintro e w15 ⟨rfl,_⟩)
   go_ret;rfl
end Go.Proofs.Cz
namespace Go.Proofs.Cz
open Go.Conc Go.au
def S1 (n:Nat):Bool:=(Nat.blt n 181&&!([0,1,2,6,35,92,97,152,153,154,155,156,157,158,159,160,161,162,163,164,165,166,167,176,177,178].contains n))||Nat.beq n JK||Nat.beq n (JK+7)
theorem OT:aV ZP:=fun t i v h1 h2=>Cw.gF t i v h1 h2
theorem Hm:aF ZP:=fun t i u h=>Cw.dm t i u h
noncomputable def nh (lo n:Nat):Bool:=(List.range n).all fun i=>!S1 (lo+i)||Nat.beq (lo+i) 39||(match Tryz.funcs[lo+i]? with
 |some fn=>(match fn.body with|some c=>codeOk ZP S1 c&&!(fn.name== "runtime.NumGoroutine")|none=>false)
 |none=>false)
theorem WD:nh 0 40=true:=by kernel_rfl
theorem WE:nh 40 60=true:=by kernel_rfl
theorem WG:nh 100 80=true:=by kernel_rfl
theorem ru {lo n i:Nat} (h:nh lo n=true) (h1:lo<=i) (h2:i<lo+n) (hs:S1 i=true) (qd:i≠39):∃fn c,Tryz.funcs[i]? =some fn/\fn.body=some c/\codeOk ZP S1 c=true/\fn.name≠ "runtime.NumGoroutine" :=by
 have:=List.all_eq_true.1 h (i-lo) (by simp;omega);rw[show lo+(i-lo)=i by omega,hs,show Nat.beq i 39=false by cases hq:Nat.beq i 39 with|false=>rfl|true=>exact absurd (Nat.eq_of_beq_eq_true hq) qd]at this;simp only[Bool.not_true,Bool.false_or]at this;cases hf:Tryz.funcs[i]? with
 |none=>rw[hf]at this;cases this
 |some fn=>
  rw[hf]at this;simp only at this;cases sL:fn.body with
  |none=>rw[sL]at this;cases this
  |some c=>
   rw[sL]at this;simp only[Bool.and_eq_true,Bool.not_eq_true',beq_eq_false_iff_ne]at this;exact⟨fn,c,rfl,sL,this.1,this.2⟩
theorem Cs {f:Nat} (h:S1 f=true):f<181\/f=JK\/f=JK+7:=by
 simp only[S1,Bool.or_eq_true,Bool.and_eq_true]at h;rcases h with(⟨h,_⟩|h)|h
 .exact .inl (by simpa using h)
 .exact .inr (.inl (Nat.eq_of_beq_eq_true h))
 .exact .inr (.inr (Nat.eq_of_beq_eq_true h))
theorem Mo {f:Nat} (h1:181<=f) (h2:f≠JK) (h3:f≠JK+7):S1 f=false:=by
 cases h:S1 f with
 |false=>rfl
 |true=>rcases Cs h with h|h|h<;>omega
theorem ur:ZP.funcs.size=180:=by rw[Tz.nr];unfold Tz.funcs;rw[Array.size_setIfInBounds,Array.size_setIfInBounds,Tz.size]
theorem sq:ZP.globals.size=1:=by kernel_rfl
def X1:Code->Code|.seq a _=>a|_=>.skip
def X2:Code->Code|.seq _ b=>b|_=>.skip
noncomputable def dG:Code:=(Tryz.f39.body).getD .skip
theorem Eh:dG=.seq (X1 dG) (.seq (X1 (X2 dG)) (.seq (X1 (X2 (X2 dG))) (.seq (X1 (X2 (X2 (X2 dG)))) (X2 (X2 (X2 (X2 dG))))))):=rfl
theorem Hn:Tz.cut (.refuse "") dG=.seq (X1 dG) (.seq (X1 (X2 dG)) (.seq (X1 (X2 (X2 dG))) (.seq (X1 (X2 (X2 (X2 dG)))) (.refuse "")))):=rfl
theorem KN:(codeOk ZP S1 (X1 dG)&&codeOk ZP S1 (X1 (X2 dG))&&codeOk ZP S1 (X1 (X2 (X2 dG)))&&codeOk ZP S1 (X1 (X2 (X2 (X2 dG)))))=true:=by kernel_rfl
theorem Y9 {H:Code->Code->Prop} (hn:∀a b,¬H a b):CR ZP S1 H (Tz.cut (.refuse "") dG) dG:=by
 have h:=KN;simp only[Bool.and_eq_true]at h;obtain⟨⟨⟨h1,h2⟩,h3⟩,h4⟩:=h;rw[Hn];refine cast (congrArg (CR ZP S1 H _) Eh.symm) ?_;exact .seq (.same h1 (.inr hn)) (.seq (.same h2 (.inr hn)) (.seq (.same h3 (.inr hn)) (.seq (.same h4 (.inr hn)) (.refuse _ _ hn))))
theorem Ct:Closed ZP Tryz.funcs S1 Ig where
 gF:=OT
 dm:=Hm
 P0:=fun _=>by kernel_rfl
 size:=by rw[ur,Tz.size]
 tx:=fun f hf=>by
  rw[ur,sq];refine⟨fun _=>?_,fun _ a b h=>h⟩;have hJ:JK=1000000:=rfl;rcases Cs hf with h|h|h<;>refine Mo ?_ ?_ ?_<;>omega
 body:=fun f hf=>by
  have hJ:JK=1000000:=rfl;rcases Cs hf with h|h|h
  .by_cases h9:f=180
   .subst h9;exact .inl ⟨Array.getElem?_eq_none (by rw[ur];omega),Array.getElem?_eq_none (by rw[Tz.size];omega)⟩
   .by_cases qd:f=39
    .subst qd;exact .inr ⟨Tz.f39,Tryz.f39,_,dG,ZF39,Tryz.func39,rfl,rfl,Y9 fun _ _ hh=>hh,by decide,by decide,rfl,rfl⟩
    obtain⟨fn,c,h1,h2,h3,h4⟩:∃fn c,Tryz.funcs[f]? =some fn/\fn.body=some c/\codeOk ZP S1 c=true/\fn.name≠ "runtime.NumGoroutine" :=by
     by_cases l1:f<40
     .exact ru WD (by omega) (by omega) hf qd
     .by_cases l2:f<100
      .exact ru WE (by omega) (by omega) hf qd
      .exact ru WG (by omega) (by omega) hf qd
    have sr:6≠f:=fun e=>by subst e;cases hf
    exact .inr ⟨fn,fn,c,c,(Tz.same f ⟨sr,Ne.symm qd⟩).trans h1,h1,h2,h2,.same h3 (.inr fun _ _ hh=>hh),h4,h4,rfl,rfl⟩
  .exact .inl ⟨Array.getElem?_eq_none (by rw[ur];omega),Array.getElem?_eq_none (by rw[Tz.size];omega)⟩
  .exact .inl ⟨Array.getElem?_eq_none (by rw[ur];omega),Array.getElem?_eq_none (by rw[Tz.size];omega)⟩
theorem KO:S1 (ZP.funcs.size+ZP.globals.size)=false:=by rw[ur,sq];exact Mo (by omega) (by decide) (by decide)
theorem Tj:ag ZP Tryz.funcs=Tryz.prog:=rfl
end Go.Proofs.Cz
