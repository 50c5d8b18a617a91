/- A part. Conditions: none. -/
import Derived.Test.YtehbindidbgacaaGreatDoorT34
import Derived.ChangeKeysEq
set_option linter.all false
set_option maxHeartbeats 8000000
set_option maxRecDepth 100000
namespace Go.Proofs.Cz
open Go.RowKit
variable {S:List (Nat->Int)} {m:Nat->Int}
theorem AZ (w:World) (v vl:Value) (b:ap) (l:List Int) (g:Nat) (hb:ar w v b) (hv:Valid b) (it:cr b l) (hl:am w vl l) (hg:w.cell? ⟨g,0,none⟩=some vl):
 Calls ZP 68 #[v,ptr g] w (di w (.int .i64 0))/\
 Calls ZP 65 #[v,ptr g] w (di w (.int .i64 0)):=by
 have HB:=hid hb;obtain⟨a2,c2,a3,c3,a4,c4,rfl⟩:=hb.dA;obtain⟨la,lc,⟨rfl,ll,lm,ln,lr⟩,le⟩:=hl;have HL:Hid (am w (.slice la l.length lc) l):=⟨la,lc,⟨rfl,ll,lm,ln,lr⟩,le⟩
 obtain⟨A1,aV⟩:=ex1 (w.alloc (.cells #[.int .i64 b.ac,.int .i64 b.places,.slice a2 b.parts.length c2,.slice a3 b.apart.length c3,.slice a4 b.aa.length c4] 84));have B1:=(bnew aV).o;have HW:=wnew aV;obtain⟨x0,x1,x2,x3,x4⟩:=B1.c5;have y0:A1.cell? ⟨g,0,none⟩=some (.slice la l.length lc):=aj.cell ⟨A1,HW.o⟩ hg;have hC:=Kt A1 _ _ b l (HB.o.later (Kp.of HW.o)) (HL.o.later (Kp.of HW.o)) hv.parts.many hv.iq it;clear ll lm ln lr le hb hv it hg B1;refine⟨?x,?y⟩;case' x=>go_enter ZF68,Tryz.ntmps68
 case' y=>go_enter ZF65,Tryz.ntmps65
 all_goals
  go_wp2_with(go_at_call 66;refine hC.mono ?_;rintro e w1 ⟨⟨r,rfl,rfl⟩,bi⟩)
  go_ret;exact⟨rfl,HW.o.trans (bi.mono HW.o.size)⟩
theorem GY (w:World) (v vl:Value) (b:ap) (l:List Int) (g:Nat) (hb:ar w v b) (hv:Valid b) (it:cr b l) (hl:am w vl l) (hg:w.cell? ⟨g,0,none⟩=some vl):
 Calls ZP 68 #[v,ptr g] w (di w (.int .i64 0)):=(AZ w v vl b l g hb hv it hl hg).1
theorem DK (w:World) (v vl:Value) (b:ap) (l:List Int) (g:Nat) (hb:ar w v b) (hv:Valid b) (it:cr b l) (hl:am w vl l) (hg:w.cell? ⟨g,0,none⟩=some vl):
 Calls ZP 65 #[v,ptr g] w (di w (.int .i64 0)):=(AZ w v vl b l g hb hv it hl hg).2
theorem pY (w:World) (v:Value) (b:ap) (k:Int) (g:Nat) (hb:ar w v b) (hv:Valid b) (hk:0<=k/\k<b.parts.length) (hg:w.cell? ⟨g,0,none⟩=some (.int .i64 k)):
 Calls ZP 91 #[v,ptr g] w (di w (.int .i64 0)):=by
 obtain⟨a2,c2,a3,c3,a4,c4,rfl⟩:=hb.dA;have hm:=hv.parts.many;obtain⟨A1,aV⟩:=ex1 (w.alloc (.cells #[.int .i64 b.ac,.int .i64 b.places,.slice a2 b.parts.length c2,.slice a3 b.apart.length c3,.slice a4 b.aa.length c4] 84));have B1:=(bnew aV).o;have HW:=wnew aV;obtain⟨-,-,x2⟩:=B1.c3;have y0:A1.cell? ⟨g,0,none⟩=some (.int .i64 k):=aj.cell ⟨A1,HW.o⟩ hg;have jJ:wrap64 ((b.parts.length:Int)-1)=b.parts.length-1:=by unfold wrap64;omega
 have hC:Calls ZP 92 #[.int .i64 k,.int .i64 0,.int .i64 (b.parts.length-1)] A1 (kQ A1 (.bool true)):=(cD _ _ _ _).mono λe w' h=>⟨by rw[h.1];simp;omega,h.2⟩
 clear hb hv hg B1 hk hm;go_enter ZF91,Tryz.ntmps91
 go_wp2_with(go_at_call 92;refine hC.mono ?_;rintro e w1 ⟨rfl,rfl⟩)
 go_ret;exact⟨rfl,HW.o⟩
theorem Ow:ZP.eqGuardType ZP.depth 107=false:=by kernel_rfl
theorem Ox:ZP.underlying 107=some (.array 4 3):=(Tz.under 107).trans Tryz.underlying107
theorem Tq:ZP.cellsOf 3=1:=by kernel_rfl
theorem zdL (w:World) (a0 a1 a2 a3 b0 b1 b2 b3:Int):(Op.equalIn 10000 107 (.agg #[.int .i64 a0,.int .i64 a1,.int .i64 a2,.int .i64 a3]) (.agg #[.int .i64 b0,.int .i64 b1,.int .i64 b2,.int .i64 b3])).run ZP w=
 .ok (a0==b0&&(a1==b1&&(a2==b2&&a3==b3))) w:=by
 obtain⟨i,hi⟩:∃i,ZP.info? 3=some i:=by
  have h:(ZP.info? 3).map (λi=>(i.zero,i.size,i.bytes))=some (some (.int .i64 0),1,8):=m6;cases hi:ZP.info? 3 with
  |none=>rw[hi]at h;cases h
  |some i=>exact⟨i,rfl⟩
 have u3:ZP.underlying 3=some (.int .i64):=(Tz.under 3).trans Tryz.underlying3;have ag:∀W,(Go.isAgg 3).run ZP W=.ok false W:=λW=>by rw[Tz.dw];exact Tryz.isAgg3 W
 have e:∀(d:Nat) (a b:Int) (W:World),(Op.equalIn (d+1) 3 (.int .i64 a) (.int .i64 b)).run ZP W=.ok (a==b) W:=λd a b W=>by
  simp only[Op.equalIn,Sem.run_bind,run_underlying u3,Result.andThen_ok];rfl
 rw[show 10000=9999+1 from rfl,run_equalIn_array w 9999 _ _ Ox hi,Tq];simp[List.range,List.range.loop,Op.eqItems,part,go_sem,ag,e];cases h0:(a0==b0)<;>cases h1:(a1==b1)<;>cases h2:(a2==b2)<;>cases h3:(a3==b3)<;>simp_all [go_sem]
def ir (o m:Nat->Int):Prop:=o 0=m 0/\o 1=m 1/\o 2=m 2/\o 3=m 3
instance (o m : Nat -> Int) : Decidable (ir o m) := by unfold ir; infer_instance
theorem GZ (w:World) (g:Nat) (o m:Nat->Int) (hk:aA w g 107 (bP m)):
 Calls ZP 70 #[.agg (bP o),ptr g] w (cI w λr=>r=decide (ir o m)):=by
 obtain⟨A1,aV⟩:=ex1 (w.alloc (.cells (bP o) 107));have pg:=knew aV;have B1:=(bnew aV).o;have BK:=pg.box hk (by simp);have HW:Hid (Below w.heap.size w A1):=pg.below (by simp) (zAC _);obtain⟨x0,x1,x2,x3⟩:=B1.c4;obtain⟨y0,y1,y2,y3⟩:=BK.c4;simp only[bP]at aV⊢;have hE:=zdL A1 (o 0) (o 1) (o 2) (o 3) (m 0) (m 1) (m 2) (m 3);have hG:=Ow;clear hk B1 BK pg;go_enter ZF70,Tryz.ntmps70
 go_wp2
 go_ret;refine cI.mk ?_ HW.o;rw[zDQ,decide_eq_true_iff];unfold ir;simp
def jG (m:Nat->Int) (S:List (Nat->Int)) (k:Nat):Prop:=∀j o,j<k->S[j]?=some o->¬ir o m
theorem jG.zero (m:Nat->Int) (S:List (Nat->Int)):jG m S 0:=λj o h=>by omega
theorem jG.succ {k:Nat} {o:Nat->Int} (h:jG m S k) (hm:S[k]?=some o) (hn:¬ir o m):jG m S (k+1):=λj y hj hy=>by
 by_cases e:j=k
 .subst e;rw[hm]at hy;cases hy;exact hn
 .exact h j y (by omega) hy
theorem jG.all (h:jG m S S.length):¬∃o∈S,ir o m:=λ⟨o,hm,h2⟩=>by
 obtain⟨j,hj,rfl⟩:=zCI hm;exact h j _ hj (zAJ hj) h2
theorem A6 (w:World) (v:Value) (S:List (Nat->Int)) (h:bB 4 w v S) (g:Nat) (q:Nat->Int) (hk:aA w g 107 (bP q)):
 Calls ZP 101 #[v,.func (.func 70) #[] #[ptr g]] w (aY w λr=>0<=r↔∃o∈S,ir o q):=by
 obtain⟨a,c,h1,h2⟩:=h;have H:Hid (bA w v S.length a c/\_):=⟨h1,h2⟩
 have HK:=hid hk;obtain⟨rfl,l1,m1,n1,r1⟩:=h1;unfold maxLen at m1;clear h2 n1 r1 hk;go_enter ZF101,Tryz.ntmps101
 go_wp2
 go_loopw [8,5] (λi j w1=>∃k:Nat,k<=S.length/\i=.int .i64 k/\Hid (jG q S k)/\Hid (Below w.heap.size w w1)) (λi _ _=>S.length-(intOf i).toNat)
 case atStart=>exact⟨0,zAR _,rfl,jG.zero _ _,Below.refl _ _⟩
 case round=>
  obtain⟨k,hk,rfl,hNM,hB⟩:=hrel;by_cases az:k<S.length
  .obtain⟨⟨blk,off,sp⟩,m,rfl,hm,x0⟩:=H.o.1.elem H.o.2 az;obtain rfl:sp=none:=(x0 0 (by omega)).1;have bd:=GU x0 (Kp.of hB.o);have y0:=bd 0 (by omega);have y1:=bd 1 (by omega);have y2:=bd 2 (by omega);have y3:=bd 3 (by omega);simp only[zDH]at y0;have HM:=hid hm;have j0:(k:Int)<(S.length:Int):=by omega
   have hC:=GZ wr g m q (HK.o.below hB.o HK.o.lt);simp only[bP]at hC;clear bd x0 hm;by_cases hq:ir m q
   .have HQ:Hid (ir m q):=hq;rw[zDD hq]at hC;clear hq
    go_wp2_with
     (go_at_call 70
      refine hC.mono ?_;rintro e w1 ⟨⟨r,rfl,rfl⟩,bi⟩;have dh:=hB.t bi;clear bi hC)
    go_ret;exact aY.mk (r:=k) ⟨λ_=>⟨m,zAX HM.o,HQ.o⟩,λ_=>by omega⟩ dh.o
   .have HN:Hid (jG q S (k+1)):=hNM.o.succ HM.o hq;rw[zDR hq]at hC;clear hq
    go_wp2_with
     (go_at_call 70
      refine hC.mono ?_;rintro e w1 ⟨⟨r,rfl,rfl⟩,bi⟩;have dh:=hB.t bi;clear bi hC)
    go_round
    case rel=>exact⟨k+1,by omega,by go_num,HN,dh⟩
    case measure=>simp[intOf];omega
  .have e:k=S.length:=by omega
   subst e;go_wp2
   go_ret;exact aY.mk (r:=-1) ⟨λh=>absurd h (by decide),λh=>absurd h hNM.o.all⟩ hB.o
theorem A8 (w:World) (v:Value) (S:List (Nat->Int)) (h:bB 4 w v S) (g:Nat) (q:Nat->Int) (hk:aA w g 107 (bP q)):
 Calls ZP 69 #[v,.func (.func 70) #[] #[ptr g]] w (cI w λr=>Tr r (∃o∈S,ir o q)):=by
 have hC:=A6 w v S h g q hk;clear h hk;go_enter ZF69,Tryz.ntmps69
 go_wp2_with
  (go_at_call 101
   refine hC.mono ?_;rintro e w1 ⟨⟨r,rfl,hr⟩,bi⟩;have HE:=hid hr;have HB:=hid bi;clear hr bi hC)
 go_ret;exact cI.mk (show decide (0<=r)=true↔_ from decide_eq_true_iff.trans HE.o) HB.o
open Classical in
noncomputable def eA (b:ap) (L:List (Nat->Int)) (m:Nat->Int):Int:=
 if b.ac<ia b.places.toNat L m then 1 else if∃o∈aS b L,ir o m then 2 else 0
def yr (w:World) (b:ap) (L:List (Nat->Int)) (m:Nat->Int) (e:Ending) (w':World):Prop:=
 ((L=[]/\e=.returned (.tuple #[.int .i64 0,.int .i64 9]))\/(L≠ []/\e=.returned (.tuple #[.int .i64 (eA b L m),.int .i64 0])))/\Below w.heap.size w w'
theorem Ba (w:World) (v vl:Value) (b:ap) (l:List Int) (hb:ar w v b) (hv:Valid b) (hc:iv w) (it:cr b l) (hl:am w vl l):
 Calls ZP 23 #[v,vl] w (yr w b (aq b (ai b)) (ak l)):=by
 have HB:=hid hb;have HV:Hid (Valid b):=hv;have HC:Hid (iv w):=hc;have P9:Hid (cr b l):=it;obtain⟨a2,c2,a3,c3,a4,c4,rfl⟩:=hb.dA;have AO:Hid (kE w (.agg #[.int .i64 b.ac,.int .i64 b.places,.slice a2 b.parts.length c2,.slice a3 b.apart.length c3,.slice a4 b.aa.length c4]) (ai b)):=eP hb hv;obtain⟨la,lc,⟨rfl,ll,lm,ln,lr⟩,le⟩:=hl;have HL:Hid (am w (.slice la l.length lc) l):=⟨la,lc,⟨rfl,ll,lm,ln,lr⟩,le⟩
 clear ll lm ln lr le;have Te:l.length<=4:=by have:=it.len;have:=hv.places;omega
 obtain⟨N,hN⟩:∃N:Nat,b.places=N:=⟨b.places.toNat,by have:=hv.places;omega⟩
 have vV:N<=4:=by have:=hv.places;omega
 have XZ:b.places.toNat=N:=by omega
 have HN:=hid hN;have qH:=hid XZ
 have HMI:Hid (∀i,0<=ak l i/\ak l i<5):=λi=>by
  by_cases hi:i<l.length
  .exact pX hv.parts.many.2 it i (by have:=it.len;omega)
  .have e:l[i]?=none:=zDA (by omega);unfold ak;simp only[e];exact⟨by decide,by decide⟩
 obtain⟨A1,aV⟩:=ex1 (w.alloc (.cells #[.int .i64 b.ac,.int .i64 b.places,.slice a2 b.parts.length c2,.slice a3 b.apart.length c3,.slice a4 b.aa.length c4] 26));obtain⟨A2,bc⟩:=ex1 (A1.alloc (.cells #[.slice la l.length lc] 31));have cS:=snew aV;have B1:=bnewk aV bc;have B2:=bnew2 bc cS;have HW:=wnew2 aV bc;obtain⟨z0,z1,z2,z3,z4⟩:=B1.o.c5
 have hO:=yq A2 b _ a2 c2 _ _ (ai b) rfl (HB.o.later (Kp.of HW.o)) hv (HC.o.later HW.o) (w.heap.size+1) (λX t hX=>AO.o X t (HW.o.trans (hX.mono HW.o.size)))
  (λX hX=>GY X _ _ b l (w.heap.size+1) (HB.o.later (Kp.of (HW.o.trans (hX.mono HW.o.size)))) HV.o P9.o (HL.o.later (Kp.of (HW.o.trans (hX.mono HW.o.size)))) (aj.cell ⟨X,hX⟩ (B2.o.cell 0 rfl)))
 clear hb hv hc it hN XZ;go_enter ZF23,Tryz.ntmps23
 go_wp2_with fail
 refine hO.mono ?_;rintro e w1 ⟨pl,bi⟩;have dh:=HW.t bi;have oT:=hid bi;have BH:=dX HV.o;clear bi z0 z1 z2 z3 z4 hO aV bc cS;rcases pl with⟨hL,rfl⟩|⟨hL,a,c,rfl,oR,_⟩
 .have HL:=hid hL;clear hL;go_wp2
  go_ret2;exact⟨.inl ⟨HL.o,rfl⟩,dh.o.alloc dh.o.size _⟩
 .obtain⟨L,yt⟩:=ex1 (aq b (ai b));have Tt:=mC HV.o (ai b);have Fh:=hid yt;rw[yt]at hL oR Tt⊢;clear yt;obtain⟨A3,eE⟩:=ex1 (w1.alloc (.cells #[.int .i64 b.ac,.int .i64 b.places,.slice a2 b.parts.length c2,.slice a3 b.apart.length c3,.slice a4 b.aa.length c4,.slice a L.length c] 93));have B3:=bnew eE;have DO:=wnew eE;have fL:=dh.t DO.o;have pZ:=oT.t DO.o;have Ov:Hid (bB 5 A3 (.slice a L.length c) L):=oR.later (Kp.of DO.o);have KO:Hid (L≠ []):=hL;have HTI:=hid Tt;have y0:=(hidb B2 pZ.o).o.c1;have hM:=jF A3 _ l Te (HL.o.later (Kp.of fL.o));simp only[bP]at hM;clear hL oR Tt;go_wp2_with fail
  refine hM.mono ?_;rintro e w2 ⟨rfl,fJ⟩;clear eE;obtain⟨A4,uM⟩:=ex1 (w2.alloc (.cells (bP (ak l)) 107));have Oy:Hid (Below A3.heap.size A3 A4):=by rw[<-uM];exact fJ.alloc fJ.size _
  have B4:=bnew uM;have mz:=fL.t Oy.o;have zdN:=pZ.t Oy.o;have BX:aA A4 w1.heap.size 93 #[.int .i64 b.ac,.int .i64 b.places,.slice a2 b.parts.length c2,.slice a3 b.apart.length c3,.slice a4 b.aa.length c4,.slice a L.length c]:=B3.o.below Oy.o B3.o.lt;have BY:aA A4 w.heap.size 26 #[.int .i64 b.ac,.int .i64 b.places,.slice a2 b.parts.length c2,.slice a3 b.apart.length c3,.slice a4 b.aa.length c4]:=B1.o.below zdN.o B1.o.lt;obtain⟨X0,X1,X2,X3,X4,X5⟩:=BX.a6;have Y0:=BY.a1;obtain⟨Z0,Z1,Z2,Z3⟩:=B4.o.a4
  have cT:∀X:aj A4,Calls ZP 62 #[.agg #[.int .i64 b.ac,.int .i64 b.places,.slice a2 b.parts.length c2,.slice a3 b.apart.length c3,.slice a4 b.aa.length c4,.slice a L.length c],
   .agg #[.int .i64 (ak l 0),.int .i64 (ak l 1),.int .i64 (ak l 2),.int .i64 (ak l 3)]] X.1 (λe iu=>e=.returned (.agg #[.int .i64 (ia N L (ak l)),.int .i64 (fp N L (ak l))])/\∃Y:aj A4,iu=Y.1):=λX=>
   (pV X.1 _ _ _ _ b N HN.o vV L (Ov.o.later ((Kp.of Oy.o).trans X.kp Oy.o.size)) KO.o _ HMI.o HTI.o).mono λe w' h=>⟨h.1,X.on h.2⟩
  have HS0:=λW (hW:Below A4.heap.size A4 W)=>tC W b _ _ _ _ L (HB.o.later (Kp.of (mz.o.trans (hW.mono mz.o.size)))) HV.o (Ov.o.later ((Kp.of Oy.o).trans (Kp.of hW) Oy.o.size)) KO.o HTI.o;have HS:=hid HS0;have hF0:=GS;obtain⟨lo,DA⟩:=ex1 (ia N L (ak l));have Ql:=hid DA;rw[DA]at cT;clear DA HS0 fJ hM BX BY y0;simp only[bP]at uM;by_cases az:b.ac<lo
  .have ue:=hid az;go_wp2_with fail
   refine ao (by kernel_rfl) (by kernel_rfl) ?_;repeat(go_big_quiet_step (first|(go_at_call 62;exact cT _)))
   refine wpQuiet_nil ?_;rintro _ ⟨X,rfl⟩;have HX:=mz.t X.2;clear X0 X1 X2 X3 X4 X5 Y0 Z0 Z1 Z2 Z3 cT uM;go_wp2
   go_ret2;rw[Fh.o];refine⟨.inr ⟨KO.o,?_⟩,HX.o⟩;have e1:eA b L (ak l)=1:=by unfold eA;rw[qH.o,Ql.o,zAI ue.o]
   rw[e1];rfl
  .have HE:Hid ((∃o∈aS b L,ir o (ak l))->eA b L (ak l)=2):=λh=>by unfold eA;rw[qH.o,Ql.o,zAH az,zAI h]
   have Qe:Hid ((¬∃o∈aS b L,ir o (ak l))->eA b L (ak l)=0):=λh=>by unfold eA;rw[qH.o,Ql.o,zAH az,zAH h]
   go_wp2_with fail
   refine ao (by kernel_rfl) (by kernel_rfl) ?_;repeat(go_big_quiet_step (first|(go_at_call 62;exact cT _)))
   refine wpQuiet_nil ?_;rintro _ ⟨X,rfl⟩;have HX:=mz.t X.2;have Ff:Hid (Below A4.heap.size A4 X.1):=X.2;have s0:=X0 X;have s1:=X1 X;have s2:=X2 X;have s3:=X3 X;have s4:=X4 X;have s5:=X5 X;clear X0 X1 X2 X3 X4 X5 Y0 Z0 Z1 Z2 Z3 cT uM;go_wp2_with fail
   refine(HS.o X.1 X.2).mono ?_;rintro e w3 ⟨⟨vs,rfl,zy,_⟩,DF⟩;obtain⟨sa,sc,rfl,_,_⟩:=zy.slice;have rR:=HX.t DF;have zdO:=Ff.t DF;have hE:=A8 w3 _ _ zy w2.heap.size (ak l) (B4.o.below zdO.o B4.o.lt);clear DF s0 s1 s2 s3 s4 s5 zy;go_wp2_with fail
   refine hE.mono ?_;rintro e w4 ⟨⟨r,rfl,hr⟩,qB⟩;have mO:=rR.t qB;have HR:=hid hr;clear hr qB hE;cases r with
   |true=>
    go_wp2
    go_ret2;rw[Fh.o];refine⟨.inr ⟨KO.o,?_⟩,mO.o⟩;rw[HE.o HR.o.t];rfl
   |false=>
    go_wp2
    go_ret2;rw[Fh.o];refine⟨.inr ⟨KO.o,?_⟩,mO.o⟩;rw[Qe.o HR.o.f];rfl
end Go.Proofs.Cz
