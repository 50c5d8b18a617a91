/- A part. Conditions: none. -/
import Derived.Test.YthmokljbbkcjdaaGreatDoorT38
import Derived.ChangeKeysEq
set_option linter.all false
set_option maxHeartbeats 8000000
set_option maxRecDepth 100000
namespace Go.Proofs.Cz
open Go.RowKit
variable {S:List (Nat->Int)} {m:Nat->Int}
theorem one1_any (w:World) (v vl:Value) (b:av) (l:List Int) (g:Nat) (hb:aD w v b) (hv:Valid b) (fS:bY b l) (hl:az w vl l) (hg:w.cell? ⟨g,0,none⟩=some vl):
 Calls ZP 62 #[v,ptr g] w (dd w (.int .i64 0))/\
 Calls ZP 83 #[v,ptr g] w (dd w (.int .i64 0)):=by
 have HB:=hid hb;obtain⟨a2,c2,a3,c3,a4,c4,rfl⟩:=hb.gm;obtain⟨la,lc,⟨rfl,ll,lm,ln,lr⟩,le⟩:=hl;have HL:Hid (az w (.slice la l.length lc) l):=⟨la,lc,⟨rfl,ll,lm,ln,lr⟩,le⟩
 obtain⟨A1,bB⟩:=ex1 (w.alloc (.cells #[.int .i64 b.an,.int .i64 b.places,.slice a2 b.parts.length c2,.slice a3 b.apart.length c3,.slice a4 b.ac.length c4] 79));have B1:=(bnew bB).o;have HW:=wnew bB;obtain⟨x0,x1,x2,x3,x4⟩:=B1.c5;have y0:A1.cell? ⟨g,0,none⟩=some (.slice la l.length lc):=am.cell ⟨A1,HW.o⟩ hg;have hC:=sw A1 _ _ b l (HB.o.later (Kp.of HW.o)) (HL.o.later (Kp.of HW.o)) hv.parts.many hv.hQ fS;clear ll lm ln lr le hb hv fS hg B1;refine⟨?x,?y⟩;case' x=>go_enter ZF62,Tryz.ntmps62
 case' y=>go_enter ZF83,Tryz.ntmps83
 all_goals
  go_wp2_with(go_at_call 63;refine hC.mono ?_;rintro e w1 ⟨⟨r,rfl,rfl⟩,bN⟩)
  go_ret;exact⟨rfl,HW.o.trans (bN.mono HW.o.size)⟩
theorem Fz (w:World) (v vl:Value) (b:av) (l:List Int) (g:Nat) (hb:aD w v b) (hv:Valid b) (fS:bY b l) (hl:az w vl l) (hg:w.cell? ⟨g,0,none⟩=some vl):
 Calls ZP 62 #[v,ptr g] w (dd w (.int .i64 0)):=(one1_any w v vl b l g hb hv fS hl hg).1
theorem Ci (w:World) (v vl:Value) (b:av) (l:List Int) (g:Nat) (hb:aD w v b) (hv:Valid b) (fS:bY b l) (hl:az w vl l) (hg:w.cell? ⟨g,0,none⟩=some vl):
 Calls ZP 83 #[v,ptr g] w (dd w (.int .i64 0)):=(one1_any w v vl b l g hb hv fS hl hg).2
theorem L7:ZP.eqGuardType ZP.depth 91=false:=by kernel_rfl
theorem L9:ZP.underlying 91=some (.array 4 3):=(Tz.under 91).trans Tryz.underlying91
theorem Qo:ZP.cellsOf 3=1:=by kernel_rfl
theorem zbF (w:World) (a0 a1 a2 a3 b0 b1 b2 b3:Int):(Op.equalIn 10000 91 (.agg #[.int .i64 a0,.int .i64 a1,.int .i64 a2,.int .i64 a3]) (.agg #[.int .i64 b0,.int .i64 b1,.int .i64 b2,.int .i64 b3])).run ZP w=
 .ok (a0==b0&&(a1==b1&&(a2==b2&&a3==b3))) w:=by
 obtain⟨i,hi⟩:∃i,ZP.info? 3=some i:=by
  have h:(ZP.info? 3).map (fun i=>(i.zero,i.size,i.bytes))=some (some (.int .i64 0),1,8):=mM;cases hi:ZP.info? 3 with
  |none=>rw[hi]at h;cases h
  |some i=>exact⟨i,rfl⟩
 have u3:ZP.underlying 3=some (.int .i64):=(Tz.under 3).trans Tryz.underlying3;have ag:∀W,(Go.isAgg 3).run ZP W=.ok false W:=fun W=>by rw[Tz.dA];exact Tryz.isAgg3 W
 have e:∀(d:Nat) (a b:Int) (W:World),(Op.equalIn (d+1) 3 (.int .i64 a) (.int .i64 b)).run ZP W=.ok (a==b) W:=fun d a b W=>by
  simp only[Op.equalIn,Sem.run_bind,run_underlying u3,Result.andThen_ok];rfl
 rw[show 10000=9999+1 from rfl,run_equalIn_array w 9999 _ _ L9 hi,Qo];simp[List.range,List.range.loop,Op.eqItems,part,go_sem,ag,e];cases h0:(a0==b0)<;>cases h1:(a1==b1)<;>cases h2:(a2==b2)<;>cases h3:(a3==b3)<;>simp_all [go_sem]
def hU (o m:Nat->Int):Prop:=o 0=m 0/\o 1=m 1/\o 2=m 2/\o 3=m 3
instance (o m : Nat -> Int) : Decidable (hU o m) := by unfold hU; infer_instance
theorem FA (w:World) (g:Nat) (o m:Nat->Int) (hk:aF w g 91 (bD m)):
 Calls ZP 66 #[.agg (bD o),ptr g] w (cW w fun r=>r=decide (hU o m)):=by
 obtain⟨A1,bB⟩:=ex1 (w.alloc (.cells (bD o) 91));have j8:=knew bB;have B1:=(bnew bB).o;have BK:=j8.box hk (by simp);have HW:Hid (Below w.heap.size w A1):=j8.below (by simp) (Nat.le_refl _);obtain⟨x0,x1,x2,x3⟩:=B1.c4;obtain⟨y0,y1,y2,y3⟩:=BK.c4;simp only[bD]at bB⊢;have hE:=zbF A1 (o 0) (o 1) (o 2) (o 3) (m 0) (m 1) (m 2) (m 3);have hG:=L7;clear hk B1 BK j8;go_enter ZF66,Tryz.ntmps66
 go_wp2
 go_ret;refine cW.mk ?_ HW.o;rw[Bool.eq_iff_iff,decide_eq_true_iff];unfold hU;simp
def jA (m:Nat->Int) (S:List (Nat->Int)) (k:Nat):Prop:=∀j o,j<k->S[j]?=some o->¬hU o m
theorem jA.zero (m:Nat->Int) (S:List (Nat->Int)):jA m S 0:=fun j o h=>by omega
theorem jA.succ {k:Nat} {o:Nat->Int} (h:jA m S k) (hm:S[k]?=some o) (hn:¬hU o m):jA m S (k+1):=fun j y hj hy=>by
 by_cases e:j=k
 .subst e;rw[hm]at hy;cases hy;exact hn
 .exact h j y (by omega) hy
theorem jA.all (h:jA m S S.length):¬∃o∈S,hU o m:=fun⟨o,hm,h2⟩=>by
 obtain⟨j,hj,rfl⟩:=List.getElem_of_mem hm;exact h j _ hj (List.getElem?_eq_getElem hj) h2
theorem Ab (w:World) (v:Value) (S:List (Nat->Int)) (h:bC 4 w v S) (g:Nat) (q:Nat->Int) (hk:aF w g 91 (bD q)):
 Calls ZP 94 #[v,.func (.func 66) #[] #[ptr g]] w (ci w fun r=>0<=r↔∃o∈S,hU o q):=by
 obtain⟨a,c,h1,h2⟩:=h;have H:Hid (cn w v S.length a c/\_):=⟨h1,h2⟩
 have HK:=hid hk;obtain⟨rfl,l1,m1,n1,r1⟩:=h1;unfold maxLen at m1;clear h2 n1 r1 hk;go_enter ZF94,Tryz.ntmps94
 go_wp2
 go_loopw [8,5] (fun i j w1=>∃k:Nat,k<=S.length/\i=.int .i64 k/\Hid (jA q S k)/\Hid (Below w.heap.size w w1)) (fun i _ _=>S.length-(intOf i).toNat)
 case atStart=>exact⟨0,Nat.zero_le _,rfl,jA.zero _ _,Below.refl _ _⟩
 case round=>
  obtain⟨k,hk,rfl,U1,hB⟩:=hrel;by_cases aA:k<S.length
  .obtain⟨⟨blk,off,sp⟩,m,rfl,hm,x0⟩:=H.o.1.elem H.o.2 aA;obtain rfl:sp=none:=(x0 0 (by omega)).1;have be:=uX x0 (Kp.of hB.o);have y0:=be 0 (by omega);have y1:=be 1 (by omega);have y2:=be 2 (by omega);have y3:=be 3 (by omega);simp only[Nat.add_zero]at y0;have HM:=hid hm;have ka:(k:Int)<(S.length:Int):=by omega
   have hC:=FA wr g m q (HK.o.below hB.o HK.o.lt);simp only[bD]at hC;clear be x0 hm;by_cases hq:hU m q
   .have HQ:Hid (hU m q):=hq;rw[decide_eq_true hq]at hC;clear hq
    go_wp2_with
     (go_at_call 66
      refine hC.mono ?_;rintro e w1 ⟨⟨r,rfl,rfl⟩,bN⟩;have dF:=hB.t bN;clear bN hC)
    go_ret;exact ci.mk (r:=k) ⟨fun _=>⟨m,List.mem_of_getElem? HM.o,HQ.o⟩,fun _=>by omega⟩ dF.o
   .have HN:Hid (jA q S (k+1)):=U1.o.succ HM.o hq;rw[decide_eq_false hq]at hC;clear hq
    go_wp2_with
     (go_at_call 66
      refine hC.mono ?_;rintro e w1 ⟨⟨r,rfl,rfl⟩,bN⟩;have dF:=hB.t bN;clear bN hC)
    go_round
    case rel=>exact⟨k+1,by omega,by go_num,HN,dF⟩
    case measure=>simp[intOf];omega
  .have e:k=S.length:=by omega
   subst e;go_wp2
   go_ret;exact ci.mk (r:=-1) ⟨fun h=>absurd h (by decide),fun h=>absurd h U1.o.all⟩ hB.o
theorem Ac (w:World) (v:Value) (S:List (Nat->Int)) (h:bC 4 w v S) (g:Nat) (q:Nat->Int) (hk:aF w g 91 (bD q)):
 Calls ZP 52 #[v,.func (.func 66) #[] #[ptr g]] w (cW w fun r=>Tr r (∃o∈S,hU o q)):=by
 have hC:=Ab w v S h g q hk;clear h hk;go_enter ZF52,Tryz.ntmps52
 go_wp2_with
  (go_at_call 94
   refine hC.mono ?_;rintro e w1 ⟨⟨r,rfl,hr⟩,bN⟩;have HE:=hid hr;have HB:=hid bN;clear hr bN hC)
 go_ret;exact cW.mk (show decide (0<=r)=true↔_ from decide_eq_true_iff.trans HE.o) HB.o
open Classical in
noncomputable def gW (b:av) (L:List (Nat->Int)) (m:Nat->Int):Int:=
 if b.an<jY b.places.toNat L m then 1 else if∃o∈au b L,hU o m then 2 else 0
def Ma (w:World) (b:av) (L:List (Nat->Int)) (m:Nat->Int) (e:Ending) (w':World):Prop:=
 ((L=[]/\e=.returned (.tuple #[.int .i64 0,.int .i64 9]))\/(L≠ []/\e=.returned (.tuple #[.int .i64 (gW b L m),.int .i64 0])))/\Below w.heap.size w w'
theorem Ad (w:World) (v vl:Value) (b:av) (l:List Int) (hb:aD w v b) (hv:Valid b) (hc:kD w) (fS:bY b l) (hl:az w vl l):
 Calls ZP 24 #[v,vl] w (Ma w b (aC b (bX b)) (ai l)):=by
 have HB:=hid hb;have HV:Hid (Valid b):=hv;have HC:Hid (kD w):=hc;have Iw:Hid (bY b l):=fS;obtain⟨a2,c2,a3,c3,a4,c4,rfl⟩:=hb.gm;have uU:Hid (kF w (.agg #[.int .i64 b.an,.int .i64 b.places,.slice a2 b.parts.length c2,.slice a3 b.apart.length c3,.slice a4 b.ac.length c4]) (bX b)):=lW hb hv;obtain⟨la,lc,⟨rfl,ll,lm,ln,lr⟩,le⟩:=hl;have HL:Hid (az w (.slice la l.length lc) l):=⟨la,lc,⟨rfl,ll,lm,ln,lr⟩,le⟩
 clear ll lm ln lr le;have LM:l.length<=4:=by have:=fS.len;have:=hv.places;omega
 obtain⟨N,hN⟩:∃N:Nat,b.places=N:=⟨b.places.toNat,by have:=hv.places;omega⟩
 have lT:N<=4:=by have:=hv.places;omega
 have NG:b.places.toNat=N:=by omega
 have HN:=hid hN;have sG:=hid NG
 have HMI:Hid (∀i,0<=ai l i/\ai l i<5):=fun i=>by
  by_cases hi:i<l.length
  .exact pY hv.parts.many.2 fS i (by have:=fS.len;omega)
  .have e:l[i]?=none:=List.getElem?_eq_none (by omega);unfold ai;simp only[e];exact⟨by decide,by decide⟩
 obtain⟨A1,bB⟩:=ex1 (w.alloc (.cells #[.int .i64 b.an,.int .i64 b.places,.slice a2 b.parts.length c2,.slice a3 b.apart.length c3,.slice a4 b.ac.length c4] 26));obtain⟨A2,cu⟩:=ex1 (A1.alloc (.cells #[.slice la l.length lc] 32));have eS:=snew bB;have B1:=bnewk bB cu;have B2:=bnew2 cu eS;have HW:=wnew2 bB cu;obtain⟨z0,z1,z2,z3,z4⟩:=B1.o.c5
 have hO:=xv A2 b _ a2 c2 _ _ (bX b) rfl (HB.o.later (Kp.of HW.o)) hv (HC.o.later HW.o) (w.heap.size+1) (fun X t hX=>uU.o X t (HW.o.trans (hX.mono HW.o.size)))
  (fun X hX=>Fz X _ _ b l (w.heap.size+1) (HB.o.later (Kp.of (HW.o.trans (hX.mono HW.o.size)))) HV.o Iw.o (HL.o.later (Kp.of (HW.o.trans (hX.mono HW.o.size)))) (am.cell ⟨X,hX⟩ (B2.o.cell 0 rfl)))
 clear hb hv hc fS hN NG;go_enter ZF24,Tryz.ntmps24
 go_wp2_with fail
 refine hO.mono ?_;rintro e w1 ⟨xK,bN⟩;have dF:=HW.t bN;have I1:=hid bN;have JT:=eN HV.o;clear bN z0 z1 z2 z3 z4 hO bB cu eS;rcases xK with⟨hL,rfl⟩|⟨hL,a,c,rfl,sH,_⟩
 .have HL:=hid hL;clear hL;go_wp2
  go_ret2;exact⟨.inl ⟨HL.o,rfl⟩,dF.o.alloc dF.o.size _⟩
 .obtain⟨L,qP⟩:=ex1 (aC b (bX b));have Qp:=mz HV.o (bX b);have tU:=hid qP;rw[qP]at hL sH Qp⊢;clear qP;obtain⟨A3,gM⟩:=ex1 (w1.alloc (.cells #[.int .i64 b.an,.int .i64 b.places,.slice a2 b.parts.length c2,.slice a3 b.apart.length c3,.slice a4 b.ac.length c4,.slice a L.length c] 86));have B3:=bnew gM;have DF:=wnew gM;have jm:=dF.t DF.o;have pZ:=I1.t DF.o;have RJ:Hid (bC 5 A3 (.slice a L.length c) L):=sH.later (Kp.of DF.o);have kZ:Hid (L≠ []):=hL;have RN:=hid Qp;have y0:=(hidb B2 pZ.o).o.c1;have hM:=gC A3 _ l LM (HL.o.later (Kp.of jm.o));simp only[bD]at hM;clear hL sH Qp;go_wp2_with fail
  refine hM.mono ?_;rintro e w2 ⟨rfl,iA⟩;clear gM;obtain⟨A4,zE⟩:=ex1 (w2.alloc (.cells (bD (ai l)) 91));have Qq:Hid (Below A3.heap.size A3 A4):=by rw[<-zE];exact iA.alloc iA.size _
  have B4:=bnew zE;have pf:=jm.t Qq.o;have zbH:=pZ.t Qq.o;have BX:aF A4 w1.heap.size 86 #[.int .i64 b.an,.int .i64 b.places,.slice a2 b.parts.length c2,.slice a3 b.apart.length c3,.slice a4 b.ac.length c4,.slice a L.length c]:=B3.o.below Qq.o B3.o.lt;have BY:aF A4 w.heap.size 26 #[.int .i64 b.an,.int .i64 b.places,.slice a2 b.parts.length c2,.slice a3 b.apart.length c3,.slice a4 b.ac.length c4]:=B1.o.below zbH.o B1.o.lt;obtain⟨X0,X1,X2,X3,X4,X5⟩:=BX.a6;have Y0:=BY.a1;obtain⟨Z0,Z1,Z2,Z3⟩:=B4.o.a4
  have cT:∀X:am A4,Calls ZP 65 #[.agg #[.int .i64 b.an,.int .i64 b.places,.slice a2 b.parts.length c2,.slice a3 b.apart.length c3,.slice a4 b.ac.length c4,.slice a L.length c],
   .agg #[.int .i64 (ai l 0),.int .i64 (ai l 1),.int .i64 (ai l 2),.int .i64 (ai l 3)]] X.1 (fun e iU=>e=.returned (.agg #[.int .i64 (jY N L (ai l)),.int .i64 (gV N L (ai l))])/\∃Y:am A4,iU=Y.1):=fun X=>
   (jZ X.1 _ _ _ _ b N HN.o lT L (RJ.o.later ((Kp.of Qq.o).trans X.kp Qq.o.size)) kZ.o _ HMI.o RN.o).mono fun e w' h=>⟨h.1,X.on h.2⟩
  have Gb:=fun W (hW:Below A4.heap.size A4 W)=>zT W b _ _ _ _ L (HB.o.later (Kp.of (pf.o.trans (hW.mono pf.o.size)))) HV.o (RJ.o.later ((Kp.of Qq.o).trans (Kp.of hW) Qq.o.size)) kZ.o RN.o;have HS:=hid Gb;have hF0:=Fi;obtain⟨lo,nL⟩:=ex1 (jY N L (ai l));have IU:=hid nL;rw[nL]at cT;clear nL Gb iA hM BX BY y0;simp only[bD]at zE;by_cases aA:b.an<lo
  .have HLT:=hid aA;go_wp2_with fail
   refine aq (by kernel_rfl) (by kernel_rfl) ?_;repeat(go_big_quiet_step (first|(go_at_call 65;exact cT _)))
   refine wpQuiet_nil ?_;rintro _ ⟨X,rfl⟩;have HX:=pf.t X.2;clear X0 X1 X2 X3 X4 X5 Y0 Z0 Z1 Z2 Z3 cT zE;go_wp2
   go_ret2;rw[tU.o];refine⟨.inr ⟨kZ.o,?_⟩,HX.o⟩;have e1:gW b L (ai l)=1:=by unfold gW;rw[sG.o,IU.o,if_pos HLT.o]
   rw[e1];rfl
  .have HE:Hid ((∃o∈au b L,hU o (ai l))->gW b L (ai l)=2):=fun h=>by unfold gW;rw[sG.o,IU.o,if_neg aA,if_pos h]
   have RF:Hid ((¬∃o∈au b L,hU o (ai l))->gW b L (ai l)=0):=fun h=>by unfold gW;rw[sG.o,IU.o,if_neg aA,if_neg h]
   go_wp2_with fail
   refine aq (by kernel_rfl) (by kernel_rfl) ?_;repeat(go_big_quiet_step (first|(go_at_call 65;exact cT _)))
   refine wpQuiet_nil ?_;rintro _ ⟨X,rfl⟩;have HX:=pf.t X.2;have DB:Hid (Below A4.heap.size A4 X.1):=X.2;have s0:=X0 X;have s1:=X1 X;have s2:=X2 X;have s3:=X3 X;have s4:=X4 X;have s5:=X5 X;clear X0 X1 X2 X3 X4 X5 Y0 Z0 Z1 Z2 Z3 cT zE;go_wp2_with fail
   refine(HS.o X.1 X.2).mono ?_;rintro e w3 ⟨⟨vs,rfl,oZ,_⟩,pg⟩;obtain⟨sa,sc,rfl,_,_⟩:=oZ.slice;have DE:=HX.t pg;have zbI:=DB.t pg;have hE:=Ac w3 _ _ oZ w2.heap.size (ai l) (B4.o.below zbI.o B4.o.lt);clear pg s0 s1 s2 s3 s4 s5 oZ;go_wp2_with fail
   refine hE.mono ?_;rintro e w4 ⟨⟨r,rfl,hr⟩,ig⟩;have re:=DE.t ig;have HR:=hid hr;clear hr ig hE;cases r with
   |true=>
    go_wp2
    go_ret2;rw[tU.o];refine⟨.inr ⟨kZ.o,?_⟩,re.o⟩;rw[HE.o HR.o.t];rfl
   |false=>
    go_wp2
    go_ret2;rw[tU.o];refine⟨.inr ⟨kZ.o,?_⟩,re.o⟩;rw[RF.o HR.o.f];rfl
end Go.Proofs.Cz
