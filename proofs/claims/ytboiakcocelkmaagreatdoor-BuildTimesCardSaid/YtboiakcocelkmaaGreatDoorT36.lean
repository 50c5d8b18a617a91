/- A part. Conditions: none. -/
import Derived.Test.YtboiakcocelkmaaGreatDoorT35
import Derived.ChangeKeysEq
set_option linter.all false
set_option maxHeartbeats 8000000
set_option maxRecDepth 100000
namespace Go.Proofs.Cz
open Go.RowKit
variable {S:List (Nat->Int)} {m:Nat->Int}
theorem zV (w:World) (v vl:Value) (b:ao) (l:List Int) (g:Nat) (hb:au w v b) (hv:Valid b) (jq:dp b l) (hl:an w vl l) (hg:w.cell? ⟨g,0,none⟩=some vl):
 Calls ZP 58 #[v,ptr g] w (bK w (.int .i64 0))/\
 Calls ZP 52 #[v,ptr g] w (bK w (.int .i64 0)):=by
 have HB:=hid hb;obtain⟨a2,c2,a3,c3,a4,c4,rfl⟩:=hb.cj;obtain⟨la,lc,⟨rfl,ll,lm,ln,lr⟩,le⟩:=hl;have HL:Hid (an w (.slice la l.length lc) l):=⟨la,lc,⟨rfl,ll,lm,ln,lr⟩,le⟩
 obtain⟨A1,aV⟩:=ex1 (w.alloc (.cells #[.int .i64 b.ak,.int .i64 b.places,.slice a2 b.parts.length c2,.slice a3 b.apart.length c3,.slice a4 b.ab.length c4] 66));have B1:=(bnew aV).o;have HW:=wnew aV;obtain⟨x0,x1,x2,x3,x4⟩:=B1.c5;have y0:A1.cell? ⟨g,0,none⟩=some (.slice la l.length lc):=ai.cell ⟨A1,HW.o⟩ hg;have hC:=Je A1 _ _ b l (HB.o.later (Kp.of HW.o)) (HL.o.later (Kp.of HW.o)) hv.parts.many hv.jG jq;clear ll lm ln lr le hb hv jq hg B1;refine⟨?x,?y⟩;case' x=>go_enter ZF58,Tryz.ntmps58
 case' y=>go_enter ZF52,Tryz.ntmps52
 all_goals
  go_wp2_with(go_at_call 53;refine hC.mono ?_;rintro e w1 ⟨⟨r,rfl,rfl⟩,bj⟩)
  go_ret;exact⟨rfl,HW.o.trans (bj.mono HW.o.size)⟩
theorem FY (w:World) (v vl:Value) (b:ao) (l:List Int) (g:Nat) (hb:au w v b) (hv:Valid b) (jq:dp b l) (hl:an w vl l) (hg:w.cell? ⟨g,0,none⟩=some vl):
 Calls ZP 58 #[v,ptr g] w (bK w (.int .i64 0)):=(zV w v vl b l g hb hv jq hl hg).1
theorem CH (w:World) (v vl:Value) (b:ao) (l:List Int) (g:Nat) (hb:au w v b) (hv:Valid b) (jq:dp b l) (hl:an w vl l) (hg:w.cell? ⟨g,0,none⟩=some vl):
 Calls ZP 52 #[v,ptr g] w (bK w (.int .i64 0)):=(zV w v vl b l g hb hv jq hl hg).2
theorem FZ (w:World) (v:Value) (b:ao) (k:Int) (g:Nat) (hb:au w v b) (hv:Valid b) (hk:0<=k/\k<b.parts.length) (hg:w.cell? ⟨g,0,none⟩=some (.int .i64 k)):
 Calls ZP 101 #[v,ptr g] w (bK w (.int .i64 0)):=by
 obtain⟨a2,c2,a3,c3,a4,c4,rfl⟩:=hb.cj;have hm:=hv.parts.many;obtain⟨A1,aV⟩:=ex1 (w.alloc (.cells #[.int .i64 b.ak,.int .i64 b.places,.slice a2 b.parts.length c2,.slice a3 b.apart.length c3,.slice a4 b.ab.length c4] 66));have B1:=(bnew aV).o;have HW:=wnew aV;obtain⟨-,-,x2⟩:=B1.c3;have y0:A1.cell? ⟨g,0,none⟩=some (.int .i64 k):=ai.cell ⟨A1,HW.o⟩ hg;have kd:wrap64 ((b.parts.length:Int)-1)=b.parts.length-1:=by unfold wrap64;omega
 have hC:Calls ZP 66 #[.int .i64 k,.int .i64 0,.int .i64 (b.parts.length-1)] A1 (gD A1 (.bool true)):=(bZ _ _ _ _).mono fun e w' h=>⟨by rw[h.1];simp;omega,h.2⟩
 clear hb hv hg B1 hk hm;go_enter ZF101,Tryz.ntmps101
 go_wp2_with(go_at_call 66;refine hC.mono ?_;rintro e w1 ⟨rfl,rfl⟩)
 go_ret;exact⟨rfl,HW.o⟩
theorem MZ:ZP.eqGuardType ZP.depth 86=false:=by kernel_rfl
theorem M0:ZP.underlying 86=some (.array 4 3):=(Tz.under 86).trans Tryz.underlying86
theorem Q6:ZP.cellsOf 3=1:=by kernel_rfl
theorem za6 (w:World) (a0 a1 a2 a3 b0 b1 b2 b3:Int):(Op.equalIn 10000 86 (.agg #[.int .i64 a0,.int .i64 a1,.int .i64 a2,.int .i64 a3]) (.agg #[.int .i64 b0,.int .i64 b1,.int .i64 b2,.int .i64 b3])).run ZP w=
 .ok (a0==b0&&(a1==b1&&(a2==b2&&a3==b3))) w:=by
 obtain⟨i,hi⟩:∃i,ZP.info? 3=some i:=by
  have h:(ZP.info? 3).map (fun i=>(i.zero,i.size,i.bytes))=some (some (.int .i64 0),1,8):=kq;cases hi:ZP.info? 3 with
  |none=>rw[hi]at h;cases h
  |some i=>exact⟨i,rfl⟩
 have u3:ZP.underlying 3=some (.int .i64):=(Tz.under 3).trans Tryz.underlying3;have ag:∀W,(Go.isAgg 3).run ZP W=.ok false W:=fun W=>by rw[Tz.dk];exact Tryz.isAgg3 W
 have e:∀(d:Nat) (a b:Int) (W:World),(Op.equalIn (d+1) 3 (.int .i64 a) (.int .i64 b)).run ZP W=.ok (a==b) W:=fun d a b W=>by
  simp only[Op.equalIn,Sem.run_bind,run_underlying u3,Result.andThen_ok];rfl
 rw[show 10000=9999+1 from rfl,run_equalIn_array w 9999 _ _ M0 hi,Q6];simp[List.range,List.range.loop,Op.eqItems,part,go_sem,ag,e];cases h0:(a0==b0)<;>cases h1:(a1==b1)<;>cases h2:(a2==b2)<;>cases h3:(a3==b3)<;>simp_all [go_sem]
def gH (o m:Nat->Int):Prop:=o 0=m 0/\o 1=m 1/\o 2=m 2/\o 3=m 3
instance (o m : Nat -> Int) : Decidable (gH o m) := by unfold gH; infer_instance
theorem F3 (w:World) (g:Nat) (o m:Nat->Int) (hk:aF w g 86 (cW m)):
 Calls ZP 61 #[.agg (cW o),ptr g] w (cZ w fun r=>r=decide (gH o m)):=by
 obtain⟨A1,aV⟩:=ex1 (w.alloc (.cells (cW o) 86));have oA:=knew aV;have B1:=(bnew aV).o;have BK:=oA.box hk (by simp);have HW:Hid (Below w.heap.size w A1):=oA.below (by simp) (Nat.le_refl _);obtain⟨x0,x1,x2,x3⟩:=B1.c4;obtain⟨y0,y1,y2,y3⟩:=BK.c4;simp only[cW]at aV⊢;have hE:=za6 A1 (o 0) (o 1) (o 2) (o 3) (m 0) (m 1) (m 2) (m 3);have hG:=MZ;clear hk B1 BK oA;go_enter ZF61,Tryz.ntmps61
 go_wp2
 go_ret;refine cZ.mk ?_ HW.o;rw[Bool.eq_iff_iff,decide_eq_true_iff];unfold gH;simp
def jn (m:Nat->Int) (S:List (Nat->Int)) (k:Nat):Prop:=∀j o,j<k->S[j]?=some o->¬gH o m
theorem jn.zero (m:Nat->Int) (S:List (Nat->Int)):jn m S 0:=fun j o h=>by omega
theorem jn.succ {k:Nat} {o:Nat->Int} (h:jn m S k) (hm:S[k]?=some o) (hn:¬gH o m):jn m S (k+1):=fun j y hj hy=>by
 by_cases e:j=k
 .subst e;rw[hm]at hy;cases hy;exact hn
 .exact h j y (by omega) hy
theorem jn.all (h:jn m S S.length):¬∃o∈S,gH o m:=fun⟨o,hm,h2⟩=>by
 obtain⟨j,hj,rfl⟩:=List.getElem_of_mem hm;exact h j _ hj (List.getElem?_eq_getElem hj) h2
theorem zW (w:World) (v:Value) (S:List (Nat->Int)) (h:bV 4 w v S) (g:Nat) (q:Nat->Int) (hk:aF w g 86 (cW q)):
 Calls ZP 110 #[v,.func (.func 61) #[] #[ptr g]] w (aW w fun r=>0<=r↔∃o∈S,gH o q):=by
 obtain⟨a,c,h1,h2⟩:=h;have H:Hid (bH w v S.length a c/\_):=⟨h1,h2⟩
 have HK:=hid hk;obtain⟨rfl,l1,m1,n1,r1⟩:=h1;unfold maxLen at m1;clear h2 n1 r1 hk;go_enter ZF110,Tryz.ntmps110
 go_wp2
 go_loopw [8,5] (fun i j w1=>∃k:Nat,k<=S.length/\i=.int .i64 k/\Hid (jn q S k)/\Hid (Below w.heap.size w w1)) (fun i _ _=>S.length-(intOf i).toNat)
 case atStart=>exact⟨0,Nat.zero_le _,rfl,jn.zero _ _,Below.refl _ _⟩
 case round=>
  obtain⟨k,hk,rfl,hNM,hB⟩:=hrel;by_cases az:k<S.length
  .obtain⟨⟨blk,off,sp⟩,m,rfl,hm,x0⟩:=H.o.1.elem H.o.2 az;obtain rfl:sp=none:=(x0 0 (by omega)).1;have bt:=FS x0 (Kp.of hB.o);have y0:=bt 0 (by omega);have y1:=bt 1 (by omega);have y2:=bt 2 (by omega);have y3:=bt 3 (by omega);simp only[Nat.add_zero]at y0;have HM:=hid hm;have nL:(k:Int)<(S.length:Int):=by omega
   have hC:=F3 wr g m q (HK.o.below hB.o HK.o.lt);simp only[cW]at hC;clear bt x0 hm;by_cases hq:gH m q
   .have HQ:Hid (gH m q):=hq;rw[decide_eq_true hq]at hC;clear hq
    go_wp2_with
     (go_at_call 61
      refine hC.mono ?_;rintro e w1 ⟨⟨r,rfl,rfl⟩,bj⟩;have eI:=hB.t bj;clear bj hC)
    go_ret;exact aW.mk (r:=k) ⟨fun _=>⟨m,List.mem_of_getElem? HM.o,HQ.o⟩,fun _=>by omega⟩ eI.o
   .have HN:Hid (jn q S (k+1)):=hNM.o.succ HM.o hq;rw[decide_eq_false hq]at hC;clear hq
    go_wp2_with
     (go_at_call 61
      refine hC.mono ?_;rintro e w1 ⟨⟨r,rfl,rfl⟩,bj⟩;have eI:=hB.t bj;clear bj hC)
    go_round
    case rel=>exact⟨k+1,by omega,by go_num,HN,eI⟩
    case measure=>simp[intOf];omega
  .have e:k=S.length:=by omega
   subst e;go_wp2
   go_ret;exact aW.mk (r:=-1) ⟨fun h=>absurd h (by decide),fun h=>absurd h hNM.o.all⟩ hB.o
theorem zX (w:World) (v:Value) (S:List (Nat->Int)) (h:bV 4 w v S) (g:Nat) (q:Nat->Int) (hk:aF w g 86 (cW q)):
 Calls ZP 59 #[v,.func (.func 61) #[] #[ptr g]] w (cZ w fun r=>Tr r (∃o∈S,gH o q)):=by
 have hC:=zW w v S h g q hk;clear h hk;go_enter ZF59,Tryz.ntmps59
 go_wp2_with
  (go_at_call 110
   refine hC.mono ?_;rintro e w1 ⟨⟨r,rfl,hr⟩,bj⟩;have HE:=hid hr;have HB:=hid bj;clear hr bj hC)
 go_ret;exact cZ.mk (show decide (0<=r)=true↔_ from decide_eq_true_iff.trans HE.o) HB.o
open Classical in
noncomputable def iE (b:ao) (L:List (Nat->Int)) (m:Nat->Int):Int:=
 if b.ak<gW b.places.toNat L m then 1 else if∃o∈du b L,gH o m then 2 else 0
def M1 (w:World) (b:ao) (L:List (Nat->Int)) (m:Nat->Int) (e:Ending) (w':World):Prop:=
 ((L=[]/\e=.returned (.tuple #[.int .i64 0,.int .i64 9]))\/(L≠ []/\e=.returned (.tuple #[.int .i64 (iE b L m),.int .i64 0])))/\Below w.heap.size w w'
theorem JA (w:World) (v vl:Value) (b:ao) (l:List Int) (hb:au w v b) (hv:Valid b) (hc:jH w) (jq:dp b l) (hl:an w vl l):
 Calls ZP 14 #[v,vl] w (M1 w b (aM b (aq b)) (aa l)):=by
 have HB:=hid hb;have HV:Hid (Valid b):=hv;have HC:Hid (jH w):=hc;have KH:Hid (dp b l):=jq;obtain⟨a2,c2,a3,c3,a4,c4,rfl⟩:=hb.cj;have Jv:Hid (pw w (.agg #[.int .i64 b.ak,.int .i64 b.places,.slice a2 b.parts.length c2,.slice a3 b.apart.length c3,.slice a4 b.ab.length c4]) (aq b)):=gG hb hv;obtain⟨la,lc,⟨rfl,ll,lm,ln,lr⟩,le⟩:=hl;have HL:Hid (an w (.slice la l.length lc) l):=⟨la,lc,⟨rfl,ll,lm,ln,lr⟩,le⟩
 clear ll lm ln lr le;have QP:l.length<=4:=by have:=jq.len;have:=hv.places;omega
 obtain⟨N,hN⟩:∃N:Nat,b.places=N:=⟨b.places.toNat,by have:=hv.places;omega⟩
 have zJ:N<=4:=by have:=hv.places;omega
 have VB:b.places.toNat=N:=by omega
 have HN:=hid hN;have wS:=hid VB
 have HMI:Hid (∀i,0<=aa l i/\aa l i<5):=fun i=>by
  by_cases hi:i<l.length
  .exact py hv.parts.many.2 jq i (by have:=jq.len;omega)
  .have e:l[i]?=none:=List.getElem?_eq_none (by omega);unfold aa;simp only[e];exact⟨by decide,by decide⟩
 obtain⟨A1,aV⟩:=ex1 (w.alloc (.cells #[.int .i64 b.ak,.int .i64 b.places,.slice a2 b.parts.length c2,.slice a3 b.apart.length c3,.slice a4 b.ab.length c4] 26));obtain⟨A2,bY⟩:=ex1 (A1.alloc (.cells #[.slice la l.length lc] 27));have eE:=snew aV;have B1:=bnewk aV bY;have B2:=bnew2 bY eE;have HW:=wnew2 aV bY;obtain⟨z0,z1,z2,z3,z4⟩:=B1.o.c5
 have hO:=xj A2 b _ a2 c2 _ _ (aq b) rfl (HB.o.later (Kp.of HW.o)) hv (HC.o.later HW.o) (w.heap.size+1) (fun X t hX=>Jv.o X t (HW.o.trans (hX.mono HW.o.size)))
  (fun X hX=>FY X _ _ b l (w.heap.size+1) (HB.o.later (Kp.of (HW.o.trans (hX.mono HW.o.size)))) HV.o KH.o (HL.o.later (Kp.of (HW.o.trans (hX.mono HW.o.size)))) (ai.cell ⟨X,hX⟩ (B2.o.cell 0 rfl)))
 clear hb hv hc jq hN VB;go_enter ZF14,Tryz.ntmps14
 go_wp2_with fail
 refine hO.mono ?_;rintro e w1 ⟨Kn,bj⟩;have eI:=HW.t bj;have sU:=hid bj;have sw:=fI HV.o;clear bj z0 z1 z2 z3 z4 hO aV bY eE;rcases Kn with⟨hL,rfl⟩|⟨hL,a,c,rfl,t6,_⟩
 .have HL:=hid hL;clear hL;go_wp2
  go_ret2;exact⟨.inl ⟨HL.o,rfl⟩,eI.o.alloc eI.o.size _⟩
 .obtain⟨L,CI⟩:=ex1 (aM b (aq b));have Q7:=pr HV.o (aq b);have GC:=hid CI;rw[CI]at hL t6 Q7⊢;clear CI;obtain⟨A3,iI⟩:=ex1 (w1.alloc (.cells #[.int .i64 b.ak,.int .i64 b.places,.slice a2 b.parts.length c2,.slice a3 b.apart.length c3,.slice a4 b.ab.length c4,.slice a L.length c] 71));have B3:=bnew iI;have Q8:=wnew iI;have gi:=eI.t Q8.o;have pz:=sU.t Q8.o;have Q9:Hid (bV 5 A3 (.slice a L.length c) L):=t6.later (Kp.of Q8.o);have OC:Hid (L≠ []):=hL;have Xt:=hid Q7;have y0:=(hidb B2 pz.o).o.c1;have hM:=jm A3 _ l QP (HL.o.later (Kp.of gi.o));simp only[cW]at hM;clear hL t6 Q7;go_wp2_with fail
  refine hM.mono ?_;rintro e w2 ⟨rfl,fk⟩;clear iI;obtain⟨A4,sF⟩:=ex1 (w2.alloc (.cells (cW (aa l)) 86));have Re:Hid (Below A3.heap.size A3 A4):=by rw[<-sF];exact fk.alloc fk.size _
  have B4:=bnew sF;have oC:=gi.t Re.o;have za8:=pz.t Re.o;have BX:aF A4 w1.heap.size 71 #[.int .i64 b.ak,.int .i64 b.places,.slice a2 b.parts.length c2,.slice a3 b.apart.length c3,.slice a4 b.ab.length c4,.slice a L.length c]:=B3.o.below Re.o B3.o.lt;have BY:aF A4 w.heap.size 26 #[.int .i64 b.ak,.int .i64 b.places,.slice a2 b.parts.length c2,.slice a3 b.apart.length c3,.slice a4 b.ab.length c4]:=B1.o.below za8.o B1.o.lt;obtain⟨X0,X1,X2,X3,X4,X5⟩:=BX.a6;have Y0:=BY.a1;obtain⟨Z0,Z1,Z2,Z3⟩:=B4.o.a4
  have cT:∀X:ai A4,Calls ZP 54 #[.agg #[.int .i64 b.ak,.int .i64 b.places,.slice a2 b.parts.length c2,.slice a3 b.apart.length c3,.slice a4 b.ab.length c4,.slice a L.length c],
   .agg #[.int .i64 (aa l 0),.int .i64 (aa l 1),.int .i64 (aa l 2),.int .i64 (aa l 3)]] X.1 (fun e gI=>e=.returned (.agg #[.int .i64 (gW N L (aa l)),.int .i64 (fq N L (aa l))])/\∃Y:ai A4,gI=Y.1):=fun X=>
   (pu X.1 _ _ _ _ b N HN.o zJ L (Q9.o.later ((Kp.of Re.o).trans X.kp Re.o.size)) OC.o _ HMI.o Xt.o).mono fun e w' h=>⟨h.1,X.on h.2⟩
  have HS0:=fun W (hW:Below A4.heap.size A4 W)=>zR W b _ _ _ _ L (HB.o.later (Kp.of (oC.o.trans (hW.mono oC.o.size)))) HV.o (Q9.o.later ((Kp.of Re.o).trans (Kp.of hW) Re.o.size)) OC.o Xt.o;have HS:=hid HS0;have hF0:=FO;obtain⟨lo,qe⟩:=ex1 (gW N L (aa l));have SB:=hid qe;rw[qe]at cT;clear qe HS0 fk hM BX BY y0;simp only[cW]at sF;by_cases az:b.ak<lo
  .have qZ:=hid az;go_wp2_with fail
   refine am (by kernel_rfl) (by kernel_rfl) ?_;repeat(go_big_quiet_step (first|(go_at_call 54;exact cT _)))
   refine wpQuiet_nil ?_;rintro _ ⟨X,rfl⟩;have HX:=oC.t X.2;clear X0 X1 X2 X3 X4 X5 Y0 Z0 Z1 Z2 Z3 cT sF;go_wp2
   go_ret2;rw[GC.o];refine⟨.inr ⟨OC.o,?_⟩,HX.o⟩;have e1:iE b L (aa l)=1:=by unfold iE;rw[wS.o,SB.o,if_pos qZ.o]
   rw[e1];rfl
  .have HE:Hid ((∃o∈du b L,gH o (aa l))->iE b L (aa l)=2):=fun h=>by unfold iE;rw[wS.o,SB.o,if_neg az,if_pos h]
   have Sp:Hid ((¬∃o∈du b L,gH o (aa l))->iE b L (aa l)=0):=fun h=>by unfold iE;rw[wS.o,SB.o,if_neg az,if_neg h]
   go_wp2_with fail
   refine am (by kernel_rfl) (by kernel_rfl) ?_;repeat(go_big_quiet_step (first|(go_at_call 54;exact cT _)))
   refine wpQuiet_nil ?_;rintro _ ⟨X,rfl⟩;have HX:=oC.t X.2;have AO:Hid (Below A4.heap.size A4 X.1):=X.2;have s0:=X0 X;have s1:=X1 X;have s2:=X2 X;have s3:=X3 X;have s4:=X4 X;have s5:=X5 X;clear X0 X1 X2 X3 X4 X5 Y0 Z0 Z1 Z2 Z3 cT sF;go_wp2_with fail
   refine(HS.o X.1 X.2).mono ?_;rintro e w3 ⟨⟨vs,rfl,NM,_⟩,MV⟩;obtain⟨sa,sc,rfl,_,_⟩:=NM.slice;have xN:=HX.t MV;have za9:=AO.t MV;have hE:=zX w3 _ _ NM w2.heap.size (aa l) (B4.o.below za9.o B4.o.lt);clear MV s0 s1 s2 s3 s4 s5 NM;go_wp2_with fail
   refine hE.mono ?_;rintro e w4 ⟨⟨r,rfl,hr⟩,Ce⟩;have oh:=xN.t Ce;have HR:=hid hr;clear hr Ce hE;cases r with
   |true=>
    go_wp2
    go_ret2;rw[GC.o];refine⟨.inr ⟨OC.o,?_⟩,oh.o⟩;rw[HE.o HR.o.t];rfl
   |false=>
    go_wp2
    go_ret2;rw[GC.o];refine⟨.inr ⟨OC.o,?_⟩,oh.o⟩;rw[Sp.o HR.o.f];rfl
end Go.Proofs.Cz
