/- A part. Conditions: none. -/
import Derived.Test.YtehbindidbgacaaGreatDoorT34
import Derived.ChangeKeysEq
set_option linter.all false
set_option maxHeartbeats 8000000
set_option maxRecDepth 100000
namespace Go.Proofs.Cz
open Go.RowKit
variable {S:List (Nat->Int)} {m:Nat->Int}
theorem zQ (w:World) (v vl:Value) (b:an) (l:List Int) (g:Nat) (hb:ap w v b) (hv:Valid b) (jA:cN b l) (hl:ao w vl l) (hg:w.cell? ⟨g,0,none⟩=some vl):
 Calls ZP 68 #[v,ptr g] w (cD w (.int .i64 0))/\
 Calls ZP 65 #[v,ptr g] w (cD w (.int .i64 0)):=by
 have HB:=hid hb;obtain⟨a2,c2,a3,c3,a4,c4,rfl⟩:=hb.et;obtain⟨la,lc,⟨rfl,ll,lm,ln,lr⟩,le⟩:=hl;have HL:Hid (ao w (.slice la l.length lc) l):=⟨la,lc,⟨rfl,ll,lm,ln,lr⟩,le⟩
 obtain⟨A1,ba⟩:=ex1 (w.alloc (.cells #[.int .i64 b.ah,.int .i64 b.places,.slice a2 b.parts.length c2,.slice a3 b.apart.length c3,.slice a4 b.aa.length c4] 84));have B1:=(bnew ba).o;have HW:=wnew ba;obtain⟨x0,x1,x2,x3,x4⟩:=B1.c5;have y0:A1.cell? ⟨g,0,none⟩=some (.slice la l.length lc):=aj.cell ⟨A1,HW.o⟩ hg;have hC:=IG A1 _ _ b l (HB.o.later (Kp.of HW.o)) (HL.o.later (Kp.of HW.o)) hv.parts.many hv.iE jA;clear ll lm ln lr le hb hv jA hg B1;refine⟨?x,?y⟩;case' x=>go_enter ZF68,Tryz.ntmps68
 case' y=>go_enter ZF65,Tryz.ntmps65
 all_goals
  go_wp2_with(go_at_call 66;refine hC.mono ?_;rintro e w1 ⟨⟨r,rfl,rfl⟩,bi⟩)
  go_ret;exact⟨rfl,HW.o.trans (bi.mono HW.o.size)⟩
theorem Fr (w:World) (v vl:Value) (b:an) (l:List Int) (g:Nat) (hb:ap w v b) (hv:Valid b) (jA:cN b l) (hl:ao w vl l) (hg:w.cell? ⟨g,0,none⟩=some vl):
 Calls ZP 68 #[v,ptr g] w (cD w (.int .i64 0)):=(zQ w v vl b l g hb hv jA hl hg).1
theorem Ce (w:World) (v vl:Value) (b:an) (l:List Int) (g:Nat) (hb:ap w v b) (hv:Valid b) (jA:cN b l) (hl:ao w vl l) (hg:w.cell? ⟨g,0,none⟩=some vl):
 Calls ZP 65 #[v,ptr g] w (cD w (.int .i64 0)):=(zQ w v vl b l g hb hv jA hl hg).2
theorem Fs (w:World) (v:Value) (b:an) (k:Int) (g:Nat) (hb:ap w v b) (hv:Valid b) (hk:0<=k/\k<b.parts.length) (hg:w.cell? ⟨g,0,none⟩=some (.int .i64 k)):
 Calls ZP 91 #[v,ptr g] w (cD w (.int .i64 0)):=by
 obtain⟨a2,c2,a3,c3,a4,c4,rfl⟩:=hb.et;have hm:=hv.parts.many;obtain⟨A1,ba⟩:=ex1 (w.alloc (.cells #[.int .i64 b.ah,.int .i64 b.places,.slice a2 b.parts.length c2,.slice a3 b.apart.length c3,.slice a4 b.aa.length c4] 84));have B1:=(bnew ba).o;have HW:=wnew ba;obtain⟨-,-,x2⟩:=B1.c3;have y0:A1.cell? ⟨g,0,none⟩=some (.int .i64 k):=aj.cell ⟨A1,HW.o⟩ hg;have kK:wrap64 ((b.parts.length:Int)-1)=b.parts.length-1:=by unfold wrap64;omega
 have hC:Calls ZP 92 #[.int .i64 k,.int .i64 0,.int .i64 (b.parts.length-1)] A1 (fS A1 (.bool true)):=(ci _ _ _ _).mono fun e w' h=>⟨by rw[h.1];simp;omega,h.2⟩
 clear hb hv hg B1 hk hm;go_enter ZF91,Tryz.ntmps91
 go_wp2_with(go_at_call 92;refine hC.mono ?_;rintro e w1 ⟨rfl,rfl⟩)
 go_ret;exact⟨rfl,HW.o⟩
theorem Me:ZP.eqGuardType ZP.depth 107=false:=by kernel_rfl
theorem Mf:ZP.underlying 107=some (.array 4 3):=(Tz.under 107).trans Tryz.underlying107
theorem QH:ZP.cellsOf 3=1:=by kernel_rfl
theorem zbt (w:World) (a0 a1 a2 a3 b0 b1 b2 b3:Int):(Op.equalIn 10000 107 (.agg #[.int .i64 a0,.int .i64 a1,.int .i64 a2,.int .i64 a3]) (.agg #[.int .i64 b0,.int .i64 b1,.int .i64 b2,.int .i64 b3])).run ZP w=
 .ok (a0==b0&&(a1==b1&&(a2==b2&&a3==b3))) w:=by
 obtain⟨i,hi⟩:∃i,ZP.info? 3=some i:=by
  have h:(ZP.info? 3).map (fun i=>(i.zero,i.size,i.bytes))=some (some (.int .i64 0),1,8):=lD;cases hi:ZP.info? 3 with
  |none=>rw[hi]at h;cases h
  |some i=>exact⟨i,rfl⟩
 have u3:ZP.underlying 3=some (.int .i64):=(Tz.under 3).trans Tryz.underlying3;have ag:∀W,(Go.isAgg 3).run ZP W=.ok false W:=fun W=>by rw[Tz.cW];exact Tryz.isAgg3 W
 have e:∀(d:Nat) (a b:Int) (W:World),(Op.equalIn (d+1) 3 (.int .i64 a) (.int .i64 b)).run ZP W=.ok (a==b) W:=fun d a b W=>by
  simp only[Op.equalIn,Sem.run_bind,run_underlying u3,Result.andThen_ok];rfl
 rw[show 10000=9999+1 from rfl,run_equalIn_array w 9999 _ _ Mf hi,QH];simp[List.range,List.range.loop,Op.eqItems,part,go_sem,ag,e];cases h0:(a0==b0)<;>cases h1:(a1==b1)<;>cases h2:(a2==b2)<;>cases h3:(a3==b3)<;>simp_all [go_sem]
def ib (o m:Nat->Int):Prop:=o 0=m 0/\o 1=m 1/\o 2=m 2/\o 3=m 3
instance (o m : Nat -> Int) : Decidable (ib o m) := by unfold ib; infer_instance
theorem Fu (w:World) (g:Nat) (o m:Nat->Int) (hk:aC w g 107 (bD m)):
 Calls ZP 70 #[.agg (bD o),ptr g] w (cn w fun r=>r=decide (ib o m)):=by
 obtain⟨A1,ba⟩:=ex1 (w.alloc (.cells (bD o) 107));have kF:=knew ba;have B1:=(bnew ba).o;have BK:=kF.box hk (by simp);have HW:Hid (Below w.heap.size w A1):=kF.below (by simp) (Nat.le_refl _);obtain⟨x0,x1,x2,x3⟩:=B1.c4;obtain⟨y0,y1,y2,y3⟩:=BK.c4;simp only[bD]at ba⊢;have hE:=zbt A1 (o 0) (o 1) (o 2) (o 3) (m 0) (m 1) (m 2) (m 3);have hG:=Me;clear hk B1 BK kF;go_enter ZF70,Tryz.ntmps70
 go_wp2
 go_ret;refine cn.mk ?_ HW.o;rw[Bool.eq_iff_iff,decide_eq_true_iff];unfold ib;simp
def jp (m:Nat->Int) (S:List (Nat->Int)) (k:Nat):Prop:=∀j o,j<k->S[j]?=some o->¬ib o m
theorem jp.zero (m:Nat->Int) (S:List (Nat->Int)):jp m S 0:=fun j o h=>by omega
theorem jp.succ {k:Nat} {o:Nat->Int} (h:jp m S k) (hm:S[k]?=some o) (hn:¬ib o m):jp m S (k+1):=fun j y hj hy=>by
 by_cases e:j=k
 .subst e;rw[hm]at hy;cases hy;exact hn
 .exact h j y (by omega) hy
theorem jp.all (h:jp m S S.length):¬∃o∈S,ib o m:=fun⟨o,hm,h2⟩=>by
 obtain⟨j,hj,rfl⟩:=List.getElem_of_mem hm;exact h j _ hj (List.getElem?_eq_getElem hj) h2
theorem zR (w:World) (v:Value) (S:List (Nat->Int)) (h:bh 4 w v S) (g:Nat) (q:Nat->Int) (hk:aC w g 107 (bD q)):
 Calls ZP 101 #[v,.func (.func 70) #[] #[ptr g]] w (aV w fun r=>0<=r↔∃o∈S,ib o q):=by
 obtain⟨a,c,h1,h2⟩:=h;have H:Hid (bA w v S.length a c/\_):=⟨h1,h2⟩
 have HK:=hid hk;obtain⟨rfl,l1,m1,n1,r1⟩:=h1;unfold maxLen at m1;clear h2 n1 r1 hk;go_enter ZF101,Tryz.ntmps101
 go_wp2
 go_loopw [8,5] (fun i j w1=>∃k:Nat,k<=S.length/\i=.int .i64 k/\Hid (jp q S k)/\Hid (Below w.heap.size w w1)) (fun i _ _=>S.length-(intOf i).toNat)
 case atStart=>exact⟨0,Nat.zero_le _,rfl,jp.zero _ _,Below.refl _ _⟩
 case round=>
  obtain⟨k,hk,rfl,hNM,hB⟩:=hrel;by_cases au:k<S.length
  .obtain⟨⟨blk,off,sp⟩,m,rfl,hm,x0⟩:=H.o.1.elem H.o.2 au;obtain rfl:sp=none:=(x0 0 (by omega)).1;have aX:=Fj x0 (Kp.of hB.o);have y0:=aX 0 (by omega);have y1:=aX 1 (by omega);have y2:=aX 2 (by omega);have y3:=aX 3 (by omega);simp only[Nat.add_zero]at y0;have HM:=hid hm;have iO:(k:Int)<(S.length:Int):=by omega
   have hC:=Fu wr g m q (HK.o.below hB.o HK.o.lt);simp only[bD]at hC;clear aX x0 hm;by_cases hq:ib m q
   .have HQ:Hid (ib m q):=hq;rw[decide_eq_true hq]at hC;clear hq
    go_wp2_with
     (go_at_call 70
      refine hC.mono ?_;rintro e w1 ⟨⟨r,rfl,rfl⟩,bi⟩;have db:=hB.t bi;clear bi hC)
    go_ret;exact aV.mk (r:=k) ⟨fun _=>⟨m,List.mem_of_getElem? HM.o,HQ.o⟩,fun _=>by omega⟩ db.o
   .have HN:Hid (jp q S (k+1)):=hNM.o.succ HM.o hq;rw[decide_eq_false hq]at hC;clear hq
    go_wp2_with
     (go_at_call 70
      refine hC.mono ?_;rintro e w1 ⟨⟨r,rfl,rfl⟩,bi⟩;have db:=hB.t bi;clear bi hC)
    go_round
    case rel=>exact⟨k+1,by omega,by go_num,HN,db⟩
    case measure=>simp[intOf];omega
  .have e:k=S.length:=by omega
   subst e;go_wp2
   go_ret;exact aV.mk (r:=-1) ⟨fun h=>absurd h (by decide),fun h=>absurd h hNM.o.all⟩ hB.o
theorem zS (w:World) (v:Value) (S:List (Nat->Int)) (h:bh 4 w v S) (g:Nat) (q:Nat->Int) (hk:aC w g 107 (bD q)):
 Calls ZP 69 #[v,.func (.func 70) #[] #[ptr g]] w (cn w fun r=>Tr r (∃o∈S,ib o q)):=by
 have hC:=zR w v S h g q hk;clear h hk;go_enter ZF69,Tryz.ntmps69
 go_wp2_with
  (go_at_call 101
   refine hC.mono ?_;rintro e w1 ⟨⟨r,rfl,hr⟩,bi⟩;have HE:=hid hr;have HB:=hid bi;clear hr bi hC)
 go_ret;exact cn.mk (show decide (0<=r)=true↔_ from decide_eq_true_iff.trans HE.o) HB.o
open Classical in
noncomputable def gX (b:an) (L:List (Nat->Int)) (m:Nat->Int):Int:=
 if b.ah<jO b.places.toNat L m then 1 else if∃o∈aB b L,ib o m then 2 else 0
def wY (w:World) (b:an) (L:List (Nat->Int)) (m:Nat->Int) (e:Ending) (w':World):Prop:=
 ((L=[]/\e=.returned (.tuple #[.int .i64 0,.int .i64 9]))\/(L≠ []/\e=.returned (.tuple #[.int .i64 (gX b L m),.int .i64 0])))/\Below w.heap.size w w'
theorem I2 (w:World) (v vl:Value) (b:an) (l:List Int) (hb:ap w v b) (hv:Valid b) (hc:Chk w) (jA:cN b l) (hl:ao w vl l):
 Calls ZP 23 #[v,vl] w (wY w b (aD b (aF b)) (ac l)):=by
 have HB:=hid hb;have HV:Hid (Valid b):=hv;have HC:Hid (Chk w):=hc;have NO:Hid (cN b l):=jA;obtain⟨a2,c2,a3,c3,a4,c4,rfl⟩:=hb.et;have tV:Hid (gW w (.agg #[.int .i64 b.ah,.int .i64 b.places,.slice a2 b.parts.length c2,.slice a3 b.apart.length c3,.slice a4 b.aa.length c4]) (aF b)):=fk hb hv;obtain⟨la,lc,⟨rfl,ll,lm,ln,lr⟩,le⟩:=hl;have HL:Hid (ao w (.slice la l.length lc) l):=⟨la,lc,⟨rfl,ll,lm,ln,lr⟩,le⟩
 clear ll lm ln lr le;have IM:l.length<=4:=by have:=jA.len;have:=hv.places;omega
 obtain⟨N,hN⟩:∃N:Nat,b.places=N:=⟨b.places.toNat,by have:=hv.places;omega⟩
 have qe:N<=4:=by have:=hv.places;omega
 have Vs:b.places.toNat=N:=by omega
 have HN:=hid hN;have oG:=hid Vs
 have HMI:Hid (∀i,0<=ac l i/\ac l i<5):=fun i=>by
  by_cases hi:i<l.length
  .exact pz hv.parts.many.2 jA i (by have:=jA.len;omega)
  .have e:l[i]?=none:=List.getElem?_eq_none (by omega);unfold ac;simp only[e];exact⟨by decide,by decide⟩
 obtain⟨A1,ba⟩:=ex1 (w.alloc (.cells #[.int .i64 b.ah,.int .i64 b.places,.slice a2 b.parts.length c2,.slice a3 b.apart.length c3,.slice a4 b.aa.length c4] 26));obtain⟨A2,bN⟩:=ex1 (A1.alloc (.cells #[.slice la l.length lc] 31));have eR:=snew ba;have B1:=bnewk ba bN;have B2:=bnew2 bN eR;have HW:=wnew2 ba bN;obtain⟨z0,z1,z2,z3,z4⟩:=B1.o.c5
 have hO:=wX A2 b _ a2 c2 _ _ (aF b) rfl (HB.o.later (Kp.of HW.o)) hv (HC.o.later HW.o) (w.heap.size+1) (fun X t hX=>tV.o X t (HW.o.trans (hX.mono HW.o.size)))
  (fun X hX=>Fr X _ _ b l (w.heap.size+1) (HB.o.later (Kp.of (HW.o.trans (hX.mono HW.o.size)))) HV.o NO.o (HL.o.later (Kp.of (HW.o.trans (hX.mono HW.o.size)))) (aj.cell ⟨X,hX⟩ (B2.o.cell 0 rfl)))
 clear hb hv hc jA hN Vs;go_enter ZF23,Tryz.ntmps23
 go_wp2_with fail
 refine hO.mono ?_;rintro e w1 ⟨xp,bi⟩;have db:=HW.t bi;have I3:=hid bi;have F6:=dy HV.o;clear bi z0 z1 z2 z3 z4 hO ba bN eR;rcases xp with⟨hL,rfl⟩|⟨hL,a,c,rfl,ox,_⟩
 .have HL:=hid hL;clear hL;go_wp2
  go_ret2;exact⟨.inl ⟨HL.o,rfl⟩,db.o.alloc db.o.size _⟩
 .obtain⟨L,me⟩:=ex1 (aD b (aF b));have QI:=jN HV.o (aF b);have mi:=hid me;rw[me]at hL ox QI⊢;clear me;obtain⟨A3,ii⟩:=ex1 (w1.alloc (.cells #[.int .i64 b.ah,.int .i64 b.places,.slice a2 b.parts.length c2,.slice a3 b.apart.length c3,.slice a4 b.aa.length c4,.slice a L.length c] 93));have B3:=bnew ii;have QJ:=wnew ii;have eM:=db.t QJ.o;have lJ:=I3.t QJ.o;have Md:Hid (bh 5 A3 (.slice a L.length c) L):=ox.later (Kp.of QJ.o);have ve:Hid (L≠ []):=hL;have R7:=hid QI;have y0:=(hidb B2 lJ.o).o.c1;have hM:=jo A3 _ l IM (HL.o.later (Kp.of eM.o));simp only[bD]at hM;clear hL ox QI;go_wp2_with fail
  refine hM.mono ?_;rintro e w2 ⟨rfl,fP⟩;clear ii;obtain⟨A4,tS⟩:=ex1 (w2.alloc (.cells (bD (ac l)) 107));have QK:Hid (Below A3.heap.size A3 A4):=by rw[<-tS];exact fP.alloc fP.size _
  have B4:=bnew tS;have nr:=eM.t QK.o;have ng:=lJ.t QK.o;have BX:aC A4 w1.heap.size 93 #[.int .i64 b.ah,.int .i64 b.places,.slice a2 b.parts.length c2,.slice a3 b.apart.length c3,.slice a4 b.aa.length c4,.slice a L.length c]:=B3.o.below QK.o B3.o.lt;have BY:aC A4 w.heap.size 26 #[.int .i64 b.ah,.int .i64 b.places,.slice a2 b.parts.length c2,.slice a3 b.apart.length c3,.slice a4 b.aa.length c4]:=B1.o.below ng.o B1.o.lt;obtain⟨X0,X1,X2,X3,X4,X5⟩:=BX.a6;have Y0:=BY.a1;obtain⟨Z0,Z1,Z2,Z3⟩:=B4.o.a4
  have cT:∀X:aj A4,Calls ZP 62 #[.agg #[.int .i64 b.ah,.int .i64 b.places,.slice a2 b.parts.length c2,.slice a3 b.apart.length c3,.slice a4 b.aa.length c4,.slice a L.length c],
   .agg #[.int .i64 (ac l 0),.int .i64 (ac l 1),.int .i64 (ac l 2),.int .i64 (ac l 3)]] X.1 (fun e fT=>e=.returned (.agg #[.int .i64 (jO N L (ac l)),.int .i64 (gV N L (ac l))])/\∃Y:aj A4,fT=Y.1):=fun X=>
   (jP X.1 _ _ _ _ b N HN.o qe L (Md.o.later ((Kp.of QK.o).trans X.kp QK.o.size)) ve.o _ HMI.o R7.o).mono fun e w' h=>⟨h.1,X.on h.2⟩
  have Sa:=fun W (hW:Below A4.heap.size A4 W)=>sy W b _ _ _ _ L (HB.o.later (Kp.of (nr.o.trans (hW.mono nr.o.size)))) HV.o (Md.o.later ((Kp.of QK.o).trans (Kp.of hW) QK.o.size)) ve.o R7.o;have HS:=hid Sa;have hF0:=Fg;obtain⟨lo,mD⟩:=ex1 (jO N L (ac l));have Cf:=hid mD;rw[mD]at cT;clear mD Sa fP hM BX BY y0;simp only[bD]at tS;by_cases au:b.ah<lo
  .have sY:=hid au;go_wp2_with fail
   refine am (by kernel_rfl) (by kernel_rfl) ?_;repeat(go_big_quiet_step (first|(go_at_call 62;exact cT _)))
   refine wpQuiet_nil ?_;rintro _ ⟨X,rfl⟩;have HX:=nr.t X.2;clear X0 X1 X2 X3 X4 X5 Y0 Z0 Z1 Z2 Z3 cT tS;go_wp2
   go_ret2;rw[mi.o];refine⟨.inr ⟨ve.o,?_⟩,HX.o⟩;have e1:gX b L (ac l)=1:=by unfold gX;rw[oG.o,Cf.o,if_pos sY.o]
   rw[e1];rfl
  .have HE:Hid ((∃o∈aB b L,ib o (ac l))->gX b L (ac l)=2):=fun h=>by unfold gX;rw[oG.o,Cf.o,if_neg au,if_pos h]
   have RW:Hid ((¬∃o∈aB b L,ib o (ac l))->gX b L (ac l)=0):=fun h=>by unfold gX;rw[oG.o,Cf.o,if_neg au,if_neg h]
   go_wp2_with fail
   refine am (by kernel_rfl) (by kernel_rfl) ?_;repeat(go_big_quiet_step (first|(go_at_call 62;exact cT _)))
   refine wpQuiet_nil ?_;rintro _ ⟨X,rfl⟩;have HX:=nr.t X.2;have DE:Hid (Below A4.heap.size A4 X.1):=X.2;have s0:=X0 X;have s1:=X1 X;have s2:=X2 X;have s3:=X3 X;have s4:=X4 X;have s5:=X5 X;clear X0 X1 X2 X3 X4 X5 Y0 Z0 Z1 Z2 Z3 cT tS;go_wp2_with fail
   refine(HS.o X.1 X.2).mono ?_;rintro e w3 ⟨⟨vs,rfl,oV,_⟩,Fe⟩;obtain⟨sa,sc,rfl,_,_⟩:=oV.slice;have te:=HX.t Fe;have zbv:=DE.t Fe;have hE:=zS w3 _ _ oV w2.heap.size (ac l) (B4.o.below zbv.o B4.o.lt);clear Fe s0 s1 s2 s3 s4 s5 oV;go_wp2_with fail
   refine hE.mono ?_;rintro e w4 ⟨⟨r,rfl,hr⟩,np⟩;have mj:=te.t np;have HR:=hid hr;clear hr np hE;cases r with
   |true=>
    go_wp2
    go_ret2;rw[mi.o];refine⟨.inr ⟨ve.o,?_⟩,mj.o⟩;rw[HE.o HR.o.t];rfl
   |false=>
    go_wp2
    go_ret2;rw[mi.o];refine⟨.inr ⟨ve.o,?_⟩,mj.o⟩;rw[RW.o HR.o.f];rfl
end Go.Proofs.Cz
