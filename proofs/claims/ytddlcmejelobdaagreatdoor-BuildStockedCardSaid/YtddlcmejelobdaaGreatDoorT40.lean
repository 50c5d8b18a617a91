/- A part. Conditions: none. -/
import Derived.Test.YtddlcmejelobdaaGreatDoorT39
import Derived.ChangeKeysEq
set_option linter.all false
set_option maxHeartbeats 8000000
set_option maxRecDepth 100000
namespace Go.Proofs.Cz
open Go.RowKit
variable {S:List (Nat->Int)} {m:Nat->Int}
theorem JX (w:World) (v vl:Value) (b:ai) (l:List Int) (g:Nat) (hb:au w v b) (hv:Valid b) (nk:eF b l) (hl:aC w vl l) (hg:w.cell? ⟨g,0,none⟩=some vl):
 Calls ZP 59 #[v,ptr g] w (dQ w (.int .i64 0))/\
 Calls ZP 85 #[v,ptr g] w (dQ w (.int .i64 0)):=by
 have HB:=hid hb;obtain⟨a2,c2,a3,c3,a4,c4,rfl⟩:=hb.gi;obtain⟨la,lc,⟨rfl,ll,lm,ln,lr⟩,le⟩:=hl;have HL:Hid (aC w (.slice la l.length lc) l):=⟨la,lc,⟨rfl,ll,lm,ln,lr⟩,le⟩
 obtain⟨A1,bI⟩:=ex1 (w.alloc (.cells #[.int .i64 b.ao,.int .i64 b.places,.slice a2 b.parts.length c2,.slice a3 b.apart.length c3,.slice a4 b.ab.length c4] 78));have B1:=(bnew bI).o;have HW:=wnew bI;obtain⟨x0,x1,x2,x3,x4⟩:=B1.c5;have y0:A1.cell? ⟨g,0,none⟩=some (.slice la l.length lc):=ah.cell ⟨A1,HW.o⟩ hg;have hC:=Jv A1 _ _ b l (HB.o.later (Kp.of HW.o)) (HL.o.later (Kp.of HW.o)) hv.parts.many hv.ic nk;clear ll lm ln lr le hb hv nk hg B1;refine⟨?x,?y⟩;case' x=>go_enter ZF59,Tryz.ntmps59
 case' y=>go_enter ZF85,Tryz.ntmps85
 all_goals
  go_wp2_with(go_at_call 60;refine hC.mono ?_;rintro e w1 ⟨⟨r,rfl,rfl⟩,bE⟩)
  go_ret;exact⟨rfl,HW.o.trans (bE.mono HW.o.size)⟩
theorem Gm (w:World) (v vl:Value) (b:ai) (l:List Int) (g:Nat) (hb:au w v b) (hv:Valid b) (nk:eF b l) (hl:aC w vl l) (hg:w.cell? ⟨g,0,none⟩=some vl):
 Calls ZP 59 #[v,ptr g] w (dQ w (.int .i64 0)):=(JX w v vl b l g hb hv nk hl hg).1
theorem Nh:ZP.eqGuardType ZP.depth 94=false:=by kernel_rfl
theorem Ni:ZP.underlying 94=some (.array 4 3):=(Tz.under 94).trans Tryz.underlying94
theorem R7:ZP.cellsOf 3=1:=by kernel_rfl
theorem zcj (w:World) (a0 a1 a2 a3 b0 b1 b2 b3:Int):(Op.equalIn 10000 94 (.agg #[.int .i64 a0,.int .i64 a1,.int .i64 a2,.int .i64 a3]) (.agg #[.int .i64 b0,.int .i64 b1,.int .i64 b2,.int .i64 b3])).run ZP w=
 .ok (a0==b0&&(a1==b1&&(a2==b2&&a3==b3))) w:=by
 obtain⟨i,hi⟩:∃i,ZP.info? 3=some i:=by
  have h:(ZP.info? 3).map (fun i=>(i.zero,i.size,i.bytes))=some (some (.int .i64 0),1,8):=pU;cases hi:ZP.info? 3 with
  |none=>rw[hi]at h;cases h
  |some i=>exact⟨i,rfl⟩
 have u3:ZP.underlying 3=some (.int .i64):=(Tz.under 3).trans Tryz.underlying3;have ag:∀W,(Go.isAgg 3).run ZP W=.ok false W:=fun W=>by rw[Tz.Re];exact Tryz.isAgg3 W
 have e:∀(d:Nat) (a b:Int) (W:World),(Op.equalIn (d+1) 3 (.int .i64 a) (.int .i64 b)).run ZP W=.ok (a==b) W:=fun d a b W=>by
  simp only[Op.equalIn,Sem.run_bind,run_underlying u3,Result.andThen_ok];rfl
 rw[show 10000=9999+1 from rfl,run_equalIn_array w 9999 _ _ Ni hi,R7];simp[List.range,List.range.loop,Op.eqItems,part,go_sem,ag,e];cases h0:(a0==b0)<;>cases h1:(a1==b1)<;>cases h2:(a2==b2)<;>cases h3:(a3==b3)<;>simp_all [go_sem]
def gR (o m:Nat->Int):Prop:=o 0=m 0/\o 1=m 1/\o 2=m 2/\o 3=m 3
instance (o m : Nat -> Int) : Decidable (gR o m) := by unfold gR; infer_instance
theorem Gn (w:World) (g:Nat) (o m:Nat->Int) (hk:aD w g 94 (cA m)):
 Calls ZP 64 #[.agg (cA o),ptr g] w (cy w fun r=>r=decide (gR o m)):=by
 obtain⟨A1,bI⟩:=ex1 (w.alloc (.cells (cA o) 94));have oL:=knew bI;have B1:=(bnew bI).o;have BK:=oL.box hk (by simp);have HW:Hid (Below w.heap.size w A1):=oL.below (by simp) (Nat.le_refl _);obtain⟨x0,x1,x2,x3⟩:=B1.c4;obtain⟨y0,y1,y2,y3⟩:=BK.c4;simp only[cA]at bI⊢;have hE:=zcj A1 (o 0) (o 1) (o 2) (o 3) (m 0) (m 1) (m 2) (m 3);have hG:=Nh;clear hk B1 BK oL;go_enter ZF64,Tryz.ntmps64
 go_wp2
 go_ret;refine cy.mk ?_ HW.o;rw[Bool.eq_iff_iff,decide_eq_true_iff];unfold gR;simp
def jm (m:Nat->Int) (S:List (Nat->Int)) (k:Nat):Prop:=∀j o,j<k->S[j]?=some o->¬gR o m
theorem jm.zero (m:Nat->Int) (S:List (Nat->Int)):jm m S 0:=fun j o h=>by omega
theorem jm.succ {k:Nat} {o:Nat->Int} (h:jm m S k) (hm:S[k]?=some o) (hn:¬gR o m):jm m S (k+1):=fun j y hj hy=>by
 by_cases e:j=k
 .subst e;rw[hm]at hy;cases hy;exact hn
 .exact h j y (by omega) hy
theorem jm.all (h:jm m S S.length):¬∃o∈S,gR o m:=fun⟨o,hm,h2⟩=>by
 obtain⟨j,hj,rfl⟩:=List.getElem_of_mem hm;exact h j _ hj (List.getElem?_eq_getElem hj) h2
theorem Ae (w:World) (v:Value) (S:List (Nat->Int)) (h:bX 4 w v S) (g:Nat) (q:Nat->Int) (hk:aD w g 94 (cA q)):
 Calls ZP 118 #[v,.func (.func 64) #[] #[ptr g]] w (aT w fun r=>0<=r↔∃o∈S,gR o q):=by
 obtain⟨a,c,h1,h2⟩:=h;have H:Hid (bS w v S.length a c/\_):=⟨h1,h2⟩
 have HK:=hid hk;obtain⟨rfl,l1,m1,n1,r1⟩:=h1;unfold maxLen at m1;clear h2 n1 r1 hk;go_enter ZF118,Tryz.ntmps118
 go_wp2
 go_loopw [8,5] (fun i j w1=>∃k:Nat,k<=S.length/\i=.int .i64 k/\Hid (jm q S k)/\Hid (Below w.heap.size w w1)) (fun i _ _=>S.length-(intOf i).toNat)
 case atStart=>exact⟨0,Nat.zero_le _,rfl,jm.zero _ _,Below.refl _ _⟩
 case round=>
  obtain⟨k,hk,rfl,hNM,hB⟩:=hrel;by_cases ar:k<S.length
  .obtain⟨⟨blk,off,sp⟩,m,rfl,hm,x0⟩:=H.o.1.elem H.o.2 ar;obtain rfl:sp=none:=(x0 0 (by omega)).1;have aZ:=Gc x0 (Kp.of hB.o);have y0:=aZ 0 (by omega);have y1:=aZ 1 (by omega);have y2:=aZ 2 (by omega);have y3:=aZ 3 (by omega);simp only[Nat.add_zero]at y0;have HM:=hid hm;have mO:(k:Int)<(S.length:Int):=by omega
   have hC:=Gn wr g m q (HK.o.below hB.o HK.o.lt);simp only[cA]at hC;clear aZ x0 hm;by_cases hq:gR m q
   .have HQ:Hid (gR m q):=hq;rw[decide_eq_true hq]at hC;clear hq
    go_wp2_with
     (go_at_call 64
      refine hC.mono ?_;rintro e w1 ⟨⟨r,rfl,rfl⟩,bE⟩;have fB:=hB.t bE;clear bE hC)
    go_ret;exact aT.mk (r:=k) ⟨fun _=>⟨m,List.mem_of_getElem? HM.o,HQ.o⟩,fun _=>by omega⟩ fB.o
   .have HN:Hid (jm q S (k+1)):=hNM.o.succ HM.o hq;rw[decide_eq_false hq]at hC;clear hq
    go_wp2_with
     (go_at_call 64
      refine hC.mono ?_;rintro e w1 ⟨⟨r,rfl,rfl⟩,bE⟩;have fB:=hB.t bE;clear bE hC)
    go_round
    case rel=>exact⟨k+1,by omega,by go_num,HN,fB⟩
    case measure=>simp[intOf];omega
  .have e:k=S.length:=by omega
   subst e;go_wp2
   go_ret;exact aT.mk (r:=-1) ⟨fun h=>absurd h (by decide),fun h=>absurd h hNM.o.all⟩ hB.o
theorem Af (w:World) (v:Value) (S:List (Nat->Int)) (h:bX 4 w v S) (g:Nat) (q:Nat->Int) (hk:aD w g 94 (cA q)):
 Calls ZP 63 #[v,.func (.func 64) #[] #[ptr g]] w (cy w fun r=>Tr r (∃o∈S,gR o q)):=by
 have hC:=Ae w v S h g q hk;clear h hk;go_enter ZF63,Tryz.ntmps63
 go_wp2_with
  (go_at_call 118
   refine hC.mono ?_;rintro e w1 ⟨⟨r,rfl,hr⟩,bE⟩;have HE:=hid hr;have HB:=hid bE;clear hr bE hC)
 go_ret;exact cy.mk (show decide (0<=r)=true↔_ from decide_eq_true_iff.trans HE.o) HB.o
open Classical in
noncomputable def iM (b:ai) (L:List (Nat->Int)) (m:Nat->Int):Int:=
 if b.ao<zR b.places.toNat L m then 1 else if∃o∈cr b L,gR o m then 2 else 0
def Nj (w:World) (b:ai) (L:List (Nat->Int)) (m:Nat->Int) (e:Ending) (w':World):Prop:=
 ((L=[]/\e=.returned (.tuple #[.int .i64 0,.int .i64 9]))\/(L≠ []/\e=.returned (.tuple #[.int .i64 (iM b L m),.int .i64 0])))/\Below w.heap.size w w'
theorem JY (w:World) (v vl:Value) (b:ai) (l:List Int) (hb:au w v b) (hv:Valid b) (hc:me w) (nk:eF b l) (hl:aC w vl l):
 Calls ZP 14 #[v,vl] w (Nj w b (aP b (aB b)) (aj l)):=by
 have HB:=hid hb;have HV:Hid (Valid b):=hv;have HC:Hid (me w):=hc;have SW:Hid (eF b l):=nk;obtain⟨a2,c2,a3,c3,a4,c4,rfl⟩:=hb.gi;have RF:Hid (xp w (.agg #[.int .i64 b.ao,.int .i64 b.places,.slice a2 b.parts.length c2,.slice a3 b.apart.length c3,.slice a4 b.ab.length c4]) (aB b)):=lF hb hv;obtain⟨la,lc,⟨rfl,ll,lm,ln,lr⟩,le⟩:=hl;have HL:Hid (aC w (.slice la l.length lc) l):=⟨la,lc,⟨rfl,ll,lm,ln,lr⟩,le⟩
 clear ll lm ln lr le;have VH:l.length<=4:=by have:=nk.len;have:=hv.places;omega
 obtain⟨N,hN⟩:∃N:Nat,b.places=N:=⟨b.places.toNat,by have:=hv.places;omega⟩
 have tV:N<=4:=by have:=hv.places;omega
 have hNn:b.places.toNat=N:=by omega
 have HN:=hid hN;have FX:=hid hNn
 have HMI:Hid (∀i,0<=aj l i/\aj l i<5):=fun i=>by
  by_cases hi:i<l.length
  .exact vr hv.parts.many.2 nk i (by have:=nk.len;omega)
  .have e:l[i]?=none:=List.getElem?_eq_none (by omega);unfold aj;simp only[e];exact⟨by decide,by decide⟩
 obtain⟨A1,bI⟩:=ex1 (w.alloc (.cells #[.int .i64 b.ao,.int .i64 b.places,.slice a2 b.parts.length c2,.slice a3 b.apart.length c3,.slice a4 b.ab.length c4] 26));obtain⟨A2,cF⟩:=ex1 (A1.alloc (.cells #[.slice la l.length lc] 35));have fW:=snew bI;have B1:=bnewk bI cF;have B2:=bnew2 cF fW;have HW:=wnew2 bI cF;obtain⟨z0,z1,z2,z3,z4⟩:=B1.o.c5
 have hO:=xv A2 b _ a2 c2 _ _ (aB b) rfl (HB.o.later (Kp.of HW.o)) hv (HC.o.later HW.o) (w.heap.size+1) (fun X t hX=>RF.o X t (HW.o.trans (hX.mono HW.o.size)))
  (fun X hX=>Gm X _ _ b l (w.heap.size+1) (HB.o.later (Kp.of (HW.o.trans (hX.mono HW.o.size)))) HV.o SW.o (HL.o.later (Kp.of (HW.o.trans (hX.mono HW.o.size)))) (ah.cell ⟨X,hX⟩ (B2.o.cell 0 rfl)))
 clear hb hv hc nk hN hNn;go_enter ZF14,Tryz.ntmps14
 go_wp2_with fail
 refine hO.mono ?_;rintro e w1 ⟨NT,bE⟩;have fB:=HW.t bE;have zck:=hid bE;have OI:=j8 HV.o;clear bE z0 z1 z2 z3 z4 hO bI cF fW;rcases NT with⟨hL,rfl⟩|⟨hL,a,c,rfl,Gi,_⟩
 .have HL:=hid hL;clear hL;go_wp2
  go_ret2;exact⟨.inl ⟨HL.o,rfl⟩,fB.o.alloc fB.o.size _⟩
 .obtain⟨L,hLL⟩:=ex1 (aP b (aB b));have hTI:=vd HV.o (aB b);have HLL:=hid hLL;rw[hLL]at hL Gi hTI⊢;clear hLL;obtain⟨A3,gh⟩:=ex1 (w1.alloc (.cells #[.int .i64 b.ao,.int .i64 b.places,.slice a2 b.parts.length c2,.slice a3 b.apart.length c3,.slice a4 b.ab.length c4,.slice a L.length c] 81));have B3:=bnew gh;have HW3:=wnew gh;have jp:=fB.t HW3.o;have Wt:=zck.t HW3.o;have Wo:Hid (bX 5 A3 (.slice a L.length c) L):=Gi.later (Kp.of HW3.o);have Wu:Hid (L≠ []):=hL;have HTI:=hid hTI;have y0:=(hidb B2 Wt.o).o.c1;have hM:=mB A3 _ l VH (HL.o.later (Kp.of jp.o));simp only[cA]at hM;clear hL Gi hTI;go_wp2_with fail
  refine hM.mono ?_;rintro e w2 ⟨rfl,gz⟩;clear gh;obtain⟨A4,kF⟩:=ex1 (w2.alloc (.cells (cA (aj l)) 94));have Sa:Hid (Below A3.heap.size A3 A4):=by rw[<-kF];exact gz.alloc gz.size _
  have B4:=bnew kF;have qb:=jp.t Sa.o;have zcp:=Wt.t Sa.o;have BX:aD A4 w1.heap.size 81 #[.int .i64 b.ao,.int .i64 b.places,.slice a2 b.parts.length c2,.slice a3 b.apart.length c3,.slice a4 b.ab.length c4,.slice a L.length c]:=B3.o.below Sa.o B3.o.lt;have BY:aD A4 w.heap.size 26 #[.int .i64 b.ao,.int .i64 b.places,.slice a2 b.parts.length c2,.slice a3 b.apart.length c3,.slice a4 b.ab.length c4]:=B1.o.below zcp.o B1.o.lt;obtain⟨X0,X1,X2,X3,X4,X5⟩:=BX.a6;have Y0:=BY.a1;obtain⟨Z0,Z1,Z2,Z3⟩:=B4.o.a4
  have cT:∀X:ah A4,Calls ZP 62 #[.agg #[.int .i64 b.ao,.int .i64 b.places,.slice a2 b.parts.length c2,.slice a3 b.apart.length c3,.slice a4 b.ab.length c4,.slice a L.length c],
   .agg #[.int .i64 (aj l 0),.int .i64 (aj l 1),.int .i64 (aj l 2),.int .i64 (aj l 3)]] X.1 (fun e jk=>e=.returned (.agg #[.int .i64 (zR N L (aj l)),.int .i64 (qF N L (aj l))])/\∃Y:ah A4,jk=Y.1):=fun X=>
   (vg X.1 _ _ _ _ b N HN.o tV L (Wo.o.later ((Kp.of Sa.o).trans X.kp Sa.o.size)) Wu.o _ HMI.o HTI.o).mono fun e w' h=>⟨h.1,X.on h.2⟩
  have HS0:=fun W (hW:Below A4.heap.size A4 W)=>zW W b _ _ _ _ L (HB.o.later (Kp.of (qb.o.trans (hW.mono qb.o.size)))) HV.o (Wo.o.later ((Kp.of Sa.o).trans (Kp.of hW) Sa.o.size)) Wu.o HTI.o;have HS:=hid HS0;have hF0:=F9;obtain⟨lo,RE⟩:=ex1 (zR N L (aj l));have Wf:=hid RE;rw[RE]at cT;clear RE HS0 gz hM BX BY y0;simp only[cA]at kF;by_cases ar:b.ao<lo
  .have tp:=hid ar;go_wp2_with fail
   refine am (by kernel_rfl) (by kernel_rfl) ?_;repeat(go_big_quiet_step (first|(go_at_call 62;exact cT _)))
   refine wpQuiet_nil ?_;rintro _ ⟨X,rfl⟩;have HX:=qb.t X.2;clear X0 X1 X2 X3 X4 X5 Y0 Z0 Z1 Z2 Z3 cT kF;go_wp2
   go_ret2;rw[HLL.o];refine⟨.inr ⟨Wu.o,?_⟩,HX.o⟩;have e1:iM b L (aj l)=1:=by unfold iM;rw[FX.o,Wf.o,if_pos tp.o]
   rw[e1];rfl
  .have HE:Hid ((∃o∈cr b L,gR o (aj l))->iM b L (aj l)=2):=fun h=>by unfold iM;rw[FX.o,Wf.o,if_neg ar,if_pos h]
   have SZ:Hid ((¬∃o∈cr b L,gR o (aj l))->iM b L (aj l)=0):=fun h=>by unfold iM;rw[FX.o,Wf.o,if_neg ar,if_neg h]
   go_wp2_with fail
   refine am (by kernel_rfl) (by kernel_rfl) ?_;repeat(go_big_quiet_step (first|(go_at_call 62;exact cT _)))
   refine wpQuiet_nil ?_;rintro _ ⟨X,rfl⟩;have HX:=qb.t X.2;have AH:Hid (Below A4.heap.size A4 X.1):=X.2;have s0:=X0 X;have s1:=X1 X;have s2:=X2 X;have s3:=X3 X;have s4:=X4 X;have s5:=X5 X;clear X0 X1 X2 X3 X4 X5 Y0 Z0 Z1 Z2 Z3 cT kF;go_wp2_with fail
   refine(HS.o X.1 X.2).mono ?_;rintro e w3 ⟨⟨vs,rfl,AA,_⟩,GY⟩;obtain⟨sa,sc,rfl,_,_⟩:=AA.slice;have xR:=HX.t GY;have zcq:=AH.t GY;have hE:=Af w3 _ _ AA w2.heap.size (aj l) (B4.o.below zcq.o B4.o.lt);clear GY s0 s1 s2 s3 s4 s5 AA;go_wp2_with fail
   refine hE.mono ?_;rintro e w4 ⟨⟨r,rfl,hr⟩,tS⟩;have G5:=xR.t tS;have HR:=hid hr;clear hr tS hE;cases r with
   |true=>
    go_wp2
    go_ret2;rw[HLL.o];refine⟨.inr ⟨Wu.o,?_⟩,G5.o⟩;rw[HE.o HR.o.t];rfl
   |false=>
    go_wp2
    go_ret2;rw[HLL.o];refine⟨.inr ⟨Wu.o,?_⟩,G5.o⟩;rw[SZ.o HR.o.f];rfl
end Go.Proofs.Cz
