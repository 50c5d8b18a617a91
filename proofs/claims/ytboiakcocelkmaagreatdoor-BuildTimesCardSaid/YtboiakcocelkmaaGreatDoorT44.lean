/- A part. Conditions: none. -/
import Derived.Test.YtboiakcocelkmaaGreatDoorT43
set_option linter.all false
set_option maxHeartbeats 8000000
set_option maxRecDepth 100000
namespace Go.Proofs.Cz
open Go.RowKit
variable {L:List (Nat->Int)} {M P:List (List Int)} {j:Nat} {m o:List Int}
theorem qh (w:World) (vl vm:Value) (L:List (List Int)) (m:List Int) (hl:bq w vl L) (hm:an w vm m) (hL:L≠ []) (hn:L.length<=2000) (R6:m.length<=20)
 (h20:∀o∈L,∀i,0<=aa o i/\aa o i<=20) (pU:∀o∈L,∀(j:Nat) (x:Int),m[j]?=some x->0<=x/\x<o.length):
 Calls ZP 57 #[vl,vm] w (bK w (.agg #[.int .i64 (gW m.length (L.map aa) (aa m)),.int .i64 (fq m.length (L.map aa) (aa m))])):=by
 obtain⟨o0,Lt,rfl⟩:=List.exists_cons_of_ne_nil hL;have HM:=hid hm;have H20:=hid h20;have D2:=hid pU;obtain⟨la,lc,KO,hle⟩:=hl;obtain rfl:=KO.eq;have HL:Hid (bH w (.slice la (o0::Lt).length lc) (o0::Lt).length la lc/\∀d,la=some d->∀(j:Nat) (l:List Int),(o0::Lt)[j]?=some l->∃vf,At w d j vf/\an w vf l):=⟨KO,hle⟩
 have hlc:=KO.le;obtain⟨⟨lb,lf,sp⟩,x,rfl,hx,vf0,e0,ef0⟩:=KO.elem hle (show 0<(o0::Lt).length by simp);obtain rfl:sp=none:=e0.1;obtain rfl:o0=x:=by simpa using hx
 obtain⟨n0,K9⟩:=ex1 (aB (aa m) (aa o0) m.length);have HN0:=hid K9;obtain⟨A1,aV⟩:=ex1 (w.alloc (.cells #[.int .i64 0,.int .i64 0] 37));obtain⟨A2,bY⟩:=ex1 (A1.alloc (.cells #[.int .i64 n0,.int .i64 n0] 37));have eE:=rh aV;have B1:Hid (aF A2 w.heap.size 37 #[.int .i64 0,.int .i64 0]):=(bh bY).box (cz aV) (by simp);have B2:Hid (aF A2 (w.heap.size+1) 37 #[.int .i64 n0,.int .i64 n0]):=by have:=cz bY;rw[eE]at this;exact this
 have kE:Hid (Below w.heap.size w A1):=(bh aV).below (by simp) (Nat.le_refl _);have HW:Hid (Below w.heap.size w A2):=((bh aV).trans' (bh bY)).below (by simp) (Nat.le_refl _);have VV:=(e0.later (Kp.of kE.o)).2;have hT0:=ja A1 vf0 vm o0 m (H20.o o0 (by simp)) (ef0.later (Kp.of kE.o)) (HM.o.later (Kp.of kE.o)) R6 (D2.o o0 (by simp));rw[K9]at hT0;have hlen:((o0::Lt).length:Int)=(Lt.length:Int)+1:=by simp
 obtain⟨LL,CI⟩:=ex1 ((o0::Lt).length);have GC:Hid (LL=Lt.length+1):=by unfold Hid;rw[<-CI];simp
 have hlp:(0:Int)<(LL:Int):=by have:=GC.o;omega
 simp only[Nat.add_zero]at VV;rw[CI]at hlc hn⊢;clear hm h20 pU KO hle e0 ef0 hx hL K9 hlen CI;obtain⟨T,hT⟩:=ex1 (Lt.map aa);have HT:=hid hT;have HTG:Hid (∀k o,Lt[k]?=some o->T[k]?=some (aa o)):=fun k o h=>by rw[<-hT,List.getElem?_map,h];rfl
 have Al:Hid (T.length=Lt.length):=by unfold Hid;rw[<-hT,List.length_map]
 have mE:gW m.length ((o0::Lt).map aa) (aa m)=cg (aa m) m.length (aa o0) T/\fq m.length ((o0::Lt).map aa) (aa m)=ci (aa m) m.length (aa o0) T:=by rw[<-hT];exact⟨rfl,rfl⟩
 rw[mE.1,mE.2];have VW:Hid (cg (aa m) m.length (aa o0) []=n0/\ci (aa m) m.length (aa o0) []=n0):=⟨HN0.o,HN0.o⟩
 clear hT mE;go_enter ZF57,Tryz.ntmps57
 go_wp2_with(go_at_call 62;refine hT0.mono ?_;rintro e w' ⟨rfl,M8⟩;obtain rfl:A1=w':=M8.symm)
 clear aV bY VV hT0 eE;go_loopw [7] (fun i wr=>∃k q:Nat,k<=Lt.length/\Hid (q=k+1)/\i=.int .i64 (q:Int)/\Hid (aF wr (w.heap.size+1) 37 #[.int .i64 (cg (aa m) m.length (aa o0) (T.take k)),.int .i64 (ci (aa m) m.length (aa o0) (T.take k))])/\Hid (ac [w.heap.size+1] A2 wr)) (fun i _=>(Lt.length+1)-(intOf i).toNat)
 case atStart=>exact⟨0,1,Nat.zero_le _,rfl,rfl,by rw[List.take_zero,VW.o.1,VW.o.2];exact B2,ac.refl _ _⟩
 case round=>
  obtain⟨k,q,hk,hQ,rfl,JX,hK⟩:=hrel;have qJ:Hid (Below w.heap.size w wr):=HW.o.trans (hK.o.below (by simp) HW.o.size);have hll:=GC.o;by_cases az:k<Lt.length
  .obtain⟨_,o,L7,ho,vf,e0,ef⟩:=bH.elem (l:=o0::Lt) HL.o.1 HL.o.2 (show q<(o0::Lt).length by have:=hQ.o;simp;omega);cases L7;have oN:Lt[k]?=some o:=by rw[hQ.o]at ho;simpa using ho
   have hTk:=HTG.o k o oN;have dF:o∈o0::Lt:=List.mem_of_getElem? ho;have sA:=(e0.later (Kp.of qJ.o)).2;have hTO:=ja wr vf vm o m (H20.o o dF) (ef.later (Kp.of qJ.o)) (HM.o.later (Kp.of qJ.o)) R6 (D2.o o dF);have Su:=qg (m:=aa m) (N:=m.length) (t0:=aa o0) hTk;have Sv:=qf (m:=aa m) (N:=m.length) (t0:=aa o0) hTk;obtain⟨tk,sC⟩:=ex1 (aB (aa m) (aa o) m.length);rw[sC]at hTO Su Sv;have Sx:Hid (cg (aa m) m.length (aa o0) (T.take (k+1))=min (cg (aa m) m.length (aa o0) (T.take k)) tk/\ci (aa m) m.length (aa o0) (T.take (k+1))=max (ci (aa m) m.length (aa o0) (T.take k)) tk):=⟨Su,Sv⟩
   obtain⟨lo,qe⟩:=ex1 (cg (aa m) m.length (aa o0) (T.take k));obtain⟨hi,sO⟩:=ex1 (ci (aa m) m.length (aa o0) (T.take k));rw[qe,sO]at JX Sx;have y0:=JX.o.cell 0 rfl;have y1:=JX.o.cell 1 rfl;have f0:=JX.o.bM 0;have f1:=JX.o.bM 1;have Xy:(q:Int)<(LL:Int):=by have:=hQ.o;omega
   have td:q<=2000:=by have:=hQ.o;omega
   have CF:Hid (aF wr (w.heap.size+1) 37 #[.int .i64 lo,.int .i64 hi]):=JX.o;clear e0 ef ho oN hTk dF sC Su Sv qe sO JX hll;go_wp2_with(go_at_call 62;refine hTO.mono ?_;rintro e w' ⟨rfl,M8⟩;obtain rfl:wr=w':=M8.symm)
   go_round
   case rel=>exact⟨k+1,q+1,by omega,by have:=hQ.o;unfold Hid;omega,by go_num,by rw[Sx.o.1,Sx.o.2];exact(CF.o.set 0 _).set 1 _,hK.o.trans' ((ac.set _ (by simp) _).trans' (ac.set _ (by simp) _))⟩
   case measure=>have:=hQ.o;simp[intOf];omega
  .have e:k=Lt.length:=by omega
   subst e;rw[show T.take Lt.length=T by rw[<-Al.o,List.take_length]]at JX;have zbl:¬(q:Int)<(LL:Int):=by have:=hQ.o;omega
   have xP:Hid (aF wr w.heap.size 37 #[.int .i64 0,.int .i64 0]):=hK.o.box B1.o (by simp);obtain⟨lo,qe⟩:=ex1 (cg (aa m) m.length (aa o0) T);obtain⟨hi,sO⟩:=ex1 (ci (aa m) m.length (aa o0) T);rw[qe,sO]at JX;have HLF:Hid (cg (aa m) m.length (aa o0) T=lo/\ci (aa m) m.length (aa o0) T=hi):=⟨qe,sO⟩
   have y0:=JX.o.cell 0 rfl;have y1:=JX.o.cell 1 rfl;have s0:=xP.o.cell 0 rfl;have s1:=xP.o.cell 1 rfl;have f0:=xP.o.bM 0;have f1:=xP.o.bM 1;clear qe sO;go_wp2_with fail
   have VX:=(xP.o.set 0 (.int .i64 lo)).set 1 (.int .i64 hi);have kF:Hid (Below w.heap.size w ((wr.setCell ⟨w.heap.size,0,none⟩ (.int .i64 lo)).setCell ⟨w.heap.size,1,none⟩ (.int .i64 hi))):=qJ.o.trans (((ac.set (O:=[w.heap.size]) _ (by simp) _).trans' (ac.set _ (by simp) _)).below (by simp) qJ.o.size);have q0:=aF.cell VX 0 rfl;have q1:=aF.cell VX 1 rfl;refine bodyPost_ret (v:=.agg #[.int .i64 lo,.int .i64 hi]) ?_ rfl ⟨by rw[HLF.o.1,HLF.o.2],kF.o⟩;rw[gV rfl];go_simp
theorem JY (w:World) (s n:Int):Calls ZP 63 #[.int .i64 s,.int .i64 n] w (gD w (.int .i64 (if s=n then 1 else if s=0 then 2 else 0))):=by
 go_enter ZF63,Tryz.ntmps63
 by_cases e1:s=n
 .rw[if_pos e1];subst e1;go_wp2
  go_ret;exact gD.of _ rfl
 .rw[if_neg e1];by_cases e2:s=0
  .rw[if_pos e2];subst e2;go_wp2
   go_ret;exact gD.of _ rfl
  .rw[if_neg e2];go_wp2
   go_ret;exact gD.of _ rfl
theorem CW (L:List (Nat->Int)) (k:Nat):cB (L.map fun t=>t k) (lU L k):=by
 refine⟨Ah L k,fun y=>?_⟩;rw[Ae,List.mem_map];constructor
 .intro h;obtain⟨t,ht⟩:=List.exists_mem_of_ne_nil _ h;have h2:=List.mem_filter.1 ht;exact⟨t,h2.1,by simpa using h2.2⟩
 .rintro⟨t,ht,rfl⟩ e;have h1:t∈JQ L k (t k):=List.mem_filter.2 ⟨ht,by simp⟩;rw[e]at h1;cases h1
def qj (N:Nat) (ak:Int) (L:List (Nat->Int)) (m:Nat->Int):Nat:=(L.filter fun t=>decide (ak<aB m t N)).length
theorem Gd {b:ao} (hv:Valid b) (hL:L≠ []) {m:Nat->Int} (hm:m∈aR b):
 iE b L m=if qj b.places.toNat b.ak L m=L.length then 1 else if qj b.places.toNat b.ak L m=0 then 2 else 0:=by
 obtain⟨h1,⟨t1,Wn,e1⟩,t2,XZ,e2⟩:=F7 (N:=b.places.toNat) hL m
 have ha:qj b.places.toNat b.ak L m=L.length↔b.ak<gW b.places.toNat L m:=by
  unfold qj;rw[List.length_filter_eq_length_iff];constructor
  .intro h;have:=h t1 Wn;rw[e1];simpa using this
  .intro h t ht;have:=(h1 t ht).1;simp;omega
 have hb:qj b.places.toNat b.ak L m=0↔fq b.places.toNat L m<=b.ak:=by
  unfold qj;rw[List.length_eq_zero_iff,List.filter_eq_nil_iff];constructor
  .intro h;have:=h t2 XZ;rw[e2];simpa using this
  .intro h t ht;have:=(h1 t ht).2;simp;omega
 have hlh:=h1 t1 Wn;unfold iE;by_cases c1:b.ak<gW b.places.toNat L m
 .rw[if_pos c1,if_pos (ha.2 c1)]
 .rw[if_neg c1,if_neg (fun h=>c1 (ha.1 h))];by_cases c2:∃o∈du b L,gH o m
  .rw[if_pos c2,if_pos (hb.2 ((vu hv hm).1 c2))]
  .rw[if_neg c2,if_neg (fun h=>c2 ((vu hv hm).2 (hb.1 h)))]
def An (b:ao) (L:List (Nat->Int)):List (List Int)->List (List Int):=List.filter fun o=>decide (fq b.places.toNat L (aa o)<=b.ak)
theorem CX (b:ao) (L:List (Nat->Int)):(du b L).length=(An b L (aS b b.places.toNat)).length:=by
 unfold du An;rw[iB,List.filter_map,List.length_map];rfl
theorem Ao {b:ao} (h:dp b o):∀p:Nat,p<=o.length->o.take p∈aS b p
 |0,_=>by simp[aS]
 |p+1,hp=>by
  classical
  have hx:o[p]?=some (o[p]'(by omega)):=List.getElem?_eq_getElem (by omega);obtain⟨x,Kt⟩:=ex1 ((o[p]'(by omega)));rw[Kt]at hx;have ih:=Ao h p (by omega);have hr:=h.range p x (by omega) hx;have hf:=h.fit p x (by omega) hx;rw[List.take_add_one,hx];show o.take p++[x]∈(aS b p).flatMap (gF b p);refine List.mem_flatMap.2 ⟨o.take p,ih,?_⟩;unfold gF;refine List.mem_map.2 ⟨x,List.mem_filter.2 ⟨?_,?_⟩,rfl⟩
  .obtain⟨P,hP,hm⟩:=hf.fits;exact sQ.2 ⟨x.toNat,(List.getElem?_eq_some_iff.1 hP).1,by omega,P,hP,hm⟩
  .rw[decide_eq_true_eq];rintro⟨h0,ha⟩;have hz:o[p-1]?=some (o[p-1]'(by omega)):=List.getElem?_eq_getElem (by omega)
   have e:aa (o.take p) (p-1)=o[p-1]'(by omega):=by
    unfold aa;rw[List.getElem?_take,if_pos (by omega),hz];rfl
   rw[e]at ha;exact hf.RG h0 _ hz ha
theorem xt {b:ao} (hv:Valid b) (h:dp b o):o∈aS b b.places.toNat:=by
 have hp:=hv.places;have hl:=h.len;have:=Ao h o.length (Nat.le_refl _);rw[List.take_length]at this;rw[show b.places.toNat=o.length by omega];exact this
noncomputable def gQ (b:ao) (m:List Int):Value:=if ah b (ar b m)=0 then .agg #[.int .i64 (gW b.places.toNat (aM b (aq b)) (aa m)),.int .i64 (fq b.places.toNat (aM b (aq b)) (aa m))]else .agg #[.int .i64 0,.int .i64 0]
noncomputable def jc (b:ao) (m:List Int):Int:=if ah b (ar b m)=0 then iE b (aM b (aq b)) (aa m)else 0
def dv (b:ao) (m:List Int) (P:List (List Int)) (j:Nat):Nat:=((P.take j).filter fun o=>decide (b.ak<aB (aa m) (aa o) m.length)).length
theorem Ge (b:ao) (m:List Int) (P:List (List Int)) (j:Nat):dv b m P j<=j:=Nat.le_trans (List.length_filter_le _ _) (List.length_take_le _ _)
theorem CY {b:ao} (ho:P[j]?=some o) (h:b.ak<aB (aa m) (aa o) m.length):dv b m P (j+1)=dv b m P j+1:=by
 unfold dv;rw[List.take_add_one,ho,List.filter_append];simp[h]
theorem Gf {b:ao} (ho:P[j]?=some o) (h:¬b.ak<aB (aa m) (aa o) m.length):dv b m P (j+1)=dv b m P j:=by
 unfold dv;rw[List.take_add_one,ho,List.filter_append];simp[h]
theorem xu (w:World) (v vm:Value) (b:ao) (m:List Int) (hb:au w v b) (hs:de b) (hm:an w vm m):
 Calls ZP 13 #[v,vm] w (bK w (.tuple #[gQ b m,.int .i64 (ah b (ar b m))])):=by
 have HB:=hid hb;have HS:Hid (de b):=hs;have HM:=hid hm;obtain⟨a2,c2,a3,c3,a4,c4,rfl⟩:=hb.cj;obtain⟨A0,tp⟩:=ex1 (w.alloc (.cells #[.int .i64 b.ak,.int .i64 b.places,.slice a2 b.parts.length c2,.slice a3 b.apart.length c3,.slice a4 b.ab.length c4] 26));obtain⟨A1,aV⟩:=ex1 (A0.alloc (.cells #[.int .i64 0,.int .i64 0] 37));have eE:=rh tp;have B1:Hid (aF A1 w.heap.size 26 #[.int .i64 b.ak,.int .i64 b.places,.slice a2 b.parts.length c2,.slice a3 b.apart.length c3,.slice a4 b.ab.length c4]):=(bh aV).box (cz tp) (by simp);have B2:Hid (aF A1 (w.heap.size+1) 37 #[.int .i64 0,.int .i64 0]):=by have:=cz aV;rw[eE]at this;exact this
 have HW:Hid (Below w.heap.size w A1):=((bh tp).trans' (bh aV)).below (by simp) (Nat.le_refl _)
 have HZ:Hid (∀X:World,Below A1.heap.size A1 X->(X.cell? ⟨w.heap.size,0,none⟩=some (.int .i64 b.ak)/\X.cell? ⟨w.heap.size,1,none⟩=some (.int .i64 b.places)/\X.cell? ⟨w.heap.size,2,none⟩=some (.slice a2 b.parts.length c2)/\X.cell? ⟨w.heap.size,3,none⟩=some (.slice a3 b.apart.length c3)/\X.cell? ⟨w.heap.size,4,none⟩=some (.slice a4 b.ab.length c4))/\Below A1.heap.size A1 X):=fun X hX=>by
  have BX:=B1.o.below hX B1.o.lt;exact⟨⟨BX.cell 0 rfl,BX.cell 1 rfl,BX.cell 2 rfl,BX.cell 3 rfl,BX.cell 4 rfl⟩,hX⟩
 have JI:Hid (∀X:World,((X.cell? ⟨w.heap.size,0,none⟩=some (.int .i64 b.ak)/\X.cell? ⟨w.heap.size,1,none⟩=some (.int .i64 b.places)/\X.cell? ⟨w.heap.size,2,none⟩=some (.slice a2 b.parts.length c2)/\X.cell? ⟨w.heap.size,3,none⟩=some (.slice a3 b.apart.length c3)/\X.cell? ⟨w.heap.size,4,none⟩=some (.slice a4 b.ab.length c4))/\Below A1.heap.size A1 X)->Below A1.heap.size A1 X):=fun _ h=>h.2;clear hb hs hm;go_enter ZF13,Tryz.ntmps13
 go_upto_region 1 with fail
 clear aV tp eE;go_cut [6,7]from 8 to 15 (fun lv s wx=>Hid (Below A1.heap.size A1 wx)/\s=.int .i64 (ah b (ar b m))/\Hid ((ah b (ar b m)≠0->lv=.slice none 0 0)/\(ah b (ar b m)=0->bq wx lv (cw b))))
 case first=>
  go_region_held3 (fun X:World=>(X.cell? ⟨w.heap.size,0,none⟩=some (.int .i64 b.ak)/\X.cell? ⟨w.heap.size,1,none⟩=some (.int .i64 b.places)/\X.cell? ⟨w.heap.size,2,none⟩=some (.slice a2 b.parts.length c2)/\X.cell? ⟨w.heap.size,3,none⟩=some (.slice a3 b.apart.length c3)/\X.cell? ⟨w.heap.size,4,none⟩=some (.slice a4 b.ab.length c4))/\Below A1.heap.size A1 X)
   (first
     |with_reducible exact HZ.o _ oh.o
     |with_reducible exact HZ.o _ xN.o
     |exact HZ.o _ (Below.drewN (Below.refl A1.heap.size A1) 1)
     |fail)
   (first
     |(go_at_call 56
       have hh:=JI.o _ (by assumption);refine(fG _ _ vm b m (HB.o.later (Kp.of (HW.o.trans (hh.mono HW.o.size)))) (HM.o.later (Kp.of (HW.o.trans (hh.mono HW.o.size))))).mono ?_;rintro e w5 ⟨⟨s5,rfl,rfl⟩,pp⟩;have xN:Hid (Below A1.heap.size A1 w5):=hh.trans (pp.mono hh.size);clear pp hh)
     |(go_at_call 49
       have hh:=JI.o _ (by assumption);refine(jb _ _ b _ (HB.o.later (Kp.of (HW.o.trans (hh.mono HW.o.size)))) HS.o).mono ?_;rintro e w6 ⟨⟨vp,rfl,KP,GE⟩,tu⟩;have oh:Hid (Below A1.heap.size A1 w6):=hh.trans (tu.mono hh.size);have VS:Hid ((ah b (ar b m)≠0->vp=.slice none 0 0)/\(ah b (ar b m)=0->bq w6 vp (cw b))):=⟨KP,GE⟩
       clear tu hh KP GE))
  all_goals go_wp2_with fail
  all_goals go_meet
  all_goals exact⟨oh,rfl,VS⟩
 case rest=>
  obtain⟨rf,rfl,KQ⟩:=hcut;have qJ:=HW.t rf.o;by_cases e:ah b (ar b m)=0
  .obtain⟨e1,e2,e3⟩:=gm e;have hv:=cF.1 e1;have jS:=bI.1 e2;have sw:m.length=b.places.toNat:=by have:=jS.len;omega
   have oz:=hv.places
   have hT:=fun X (hX:Below wc.heap.size wc X)=>qh X u6 vm (cw b) m ((KQ.o.2 e).later (Kp.of hX)) (HM.o.later (Kp.of (qJ.o.trans (hX.mono qJ.o.size)))) e3 (Nat.le_trans (lV hv) (by decide)) (by omega) (fun o ho=>(jL hv ho).2) (fun o ho j x hx=>by
    have h1:=jS.range j x (List.getElem?_eq_some_iff.1 hx).1 hx;have h2:=(jL hv ho).1;omega)
   rw[<-ff,sw]at hT;have Na:Hid (gQ b m=.agg #[.int .i64 (gW b.places.toNat (aM b (aq b)) (aa m)),.int .i64 (fq b.places.toNat (aM b (aq b)) (aa m))]):=by unfold Hid gQ;rw[if_pos e]
   have HE:=hid e;obtain⟨lo,qe⟩:=ex1 (gW b.places.toNat (aM b (aq b)) (aa m));obtain⟨hi,sO⟩:=ex1 (fq b.places.toNat (aM b (aq b)) (aa m));rw[qe,sO]at Na;rw[qe,sO]at hT;rw[e];clear e e1 e2 e3 hv jS sw oz qe sO
   go_wp2_with(go_at_call 57
               refine(hT _ (Below.refl _ _)).mono ?_;rintro e w7 ⟨rfl,xk⟩;have mr:=hid xk;have xP:Hid (aF w7 (w.heap.size+1) 37 #[.int .i64 0,.int .i64 0]):=B2.o.below (rf.o.trans (xk.mono rf.o.size)) B2.o.lt;have s0:=xP.o.cell 0 rfl;have s1:=xP.o.cell 1 rfl;have f0:=xP.o.bM 0;have f1:=xP.o.bM 1;clear xk hT)
   have VX:=(xP.o.set 0 (.int .i64 lo)).set 1 (.int .i64 hi);have kF:Hid (Below w.heap.size w ((w7.setCell ⟨w.heap.size+1,0,none⟩ (.int .i64 lo)).setCell ⟨w.heap.size+1,1,none⟩ (.int .i64 hi))):=(qJ.o.trans (mr.o.mono qJ.o.size)).trans (((ac.set (O:=[w.heap.size+1]) _ (by simp) _).trans' (ac.set _ (by simp) _)).below (by simp) (Nat.le_trans qJ.o.size mr.o.size));have q0:=aF.cell VX 0 rfl;have q1:=aF.cell VX 1 rfl;refine bodyPost_ret (v:=.tuple #[.agg #[.int .i64 lo,.int .i64 hi],.int .i64 0]) ?_ rfl ⟨by rw[Na.o,HE.o],kF.o⟩;rw[results_cell_tmp rfl];go_simp
  .have Na:Hid (gQ b m=.agg #[.int .i64 0,.int .i64 0]):=by unfold Hid gQ;rw[if_neg e]
   obtain⟨ob,Ak⟩:=ex1 (ah b (ar b m));have GD:=hid Ak;rw[Ak]at e⊢;have xP:=hidb B2 rf.o;have s0:=xP.o.cell 0 rfl;have s1:=xP.o.cell 1 rfl;have f0:=xP.o.bM 0;have f1:=xP.o.bM 1;have g0:=xP.o.same (i:=0) (v:=.int .i64 0) rfl;have g1:=xP.o.same (i:=1) (v:=.int .i64 0) rfl;clear Ak KQ;go_wp2_with fail
   refine bodyPost_ret (v:=.tuple #[.agg #[.int .i64 0,.int .i64 0],.int .i64 ob]) ?_ rfl ⟨by rw[Na.o,GD.o],qJ.o⟩;rw[results_cell_tmp rfl];go_simp
theorem Ap (w:World) (v vm:Value) (b:ao) (m:List Int) (hb:au w v b) (hs:de b) (hm:an w vm m):
 Calls ZP 15 #[v,vm] w (bK w (.tuple #[.int .i64 (jc b m),.int .i64 (ah b (ar b m))])):=by
 have HB:=hid hb;have HS:Hid (de b):=hs;have HM:=hid hm;obtain⟨a2,c2,a3,c3,a4,c4,rfl⟩:=hb.cj;obtain⟨A1,aV⟩:=ex1 (w.alloc (.cells #[.int .i64 b.ak,.int .i64 b.places,.slice a2 b.parts.length c2,.slice a3 b.apart.length c3,.slice a4 b.ab.length c4] 26));have B1:Hid (aF A1 w.heap.size 26 #[.int .i64 b.ak,.int .i64 b.places,.slice a2 b.parts.length c2,.slice a3 b.apart.length c3,.slice a4 b.ab.length c4]):=cz aV;have HW:Hid (Below w.heap.size w A1):=(bh aV).below (by simp) (Nat.le_refl _)
 have HZ:Hid (∀X:World,Below A1.heap.size A1 X->(X.cell? ⟨w.heap.size,0,none⟩=some (.int .i64 b.ak)/\X.cell? ⟨w.heap.size,1,none⟩=some (.int .i64 b.places)/\X.cell? ⟨w.heap.size,2,none⟩=some (.slice a2 b.parts.length c2)/\X.cell? ⟨w.heap.size,3,none⟩=some (.slice a3 b.apart.length c3)/\X.cell? ⟨w.heap.size,4,none⟩=some (.slice a4 b.ab.length c4))/\Below A1.heap.size A1 X):=fun X hX=>by
  have BX:=B1.o.below hX B1.o.lt;exact⟨⟨BX.cell 0 rfl,BX.cell 1 rfl,BX.cell 2 rfl,BX.cell 3 rfl,BX.cell 4 rfl⟩,hX⟩
 have JI:Hid (∀X:World,((X.cell? ⟨w.heap.size,0,none⟩=some (.int .i64 b.ak)/\X.cell? ⟨w.heap.size,1,none⟩=some (.int .i64 b.places)/\X.cell? ⟨w.heap.size,2,none⟩=some (.slice a2 b.parts.length c2)/\X.cell? ⟨w.heap.size,3,none⟩=some (.slice a3 b.apart.length c3)/\X.cell? ⟨w.heap.size,4,none⟩=some (.slice a4 b.ab.length c4))/\Below A1.heap.size A1 X)->Below A1.heap.size A1 X):=fun _ h=>h.2;clear hb hs hm;go_enter ZF15,Tryz.ntmps15
 go_upto_region 1 with fail
 clear aV;go_cut [6,7]from 10 to 17 (fun lv s wx=>Hid (Below A1.heap.size A1 wx)/\s=.int .i64 (ah b (ar b m))/\Hid ((ah b (ar b m)≠0->lv=.slice none 0 0)/\(ah b (ar b m)=0->bq wx lv (cw b))))
 case first=>
  go_region_held3 (fun X:World=>(X.cell? ⟨w.heap.size,0,none⟩=some (.int .i64 b.ak)/\X.cell? ⟨w.heap.size,1,none⟩=some (.int .i64 b.places)/\X.cell? ⟨w.heap.size,2,none⟩=some (.slice a2 b.parts.length c2)/\X.cell? ⟨w.heap.size,3,none⟩=some (.slice a3 b.apart.length c3)/\X.cell? ⟨w.heap.size,4,none⟩=some (.slice a4 b.ab.length c4))/\Below A1.heap.size A1 X)
   (first
     |with_reducible exact HZ.o _ oh.o
     |with_reducible exact HZ.o _ xN.o
     |exact HZ.o _ (Below.drewN (Below.refl A1.heap.size A1) 1)
     |fail)
   (first
     |(go_at_call 56
       have hh:=JI.o _ (by assumption);refine(fG _ _ vm b m (HB.o.later (Kp.of (HW.o.trans (hh.mono HW.o.size)))) (HM.o.later (Kp.of (HW.o.trans (hh.mono HW.o.size))))).mono ?_;rintro e w5 ⟨⟨s5,rfl,rfl⟩,pp⟩;have xN:Hid (Below A1.heap.size A1 w5):=hh.trans (pp.mono hh.size);clear pp hh)
     |(go_at_call 49
       have hh:=JI.o _ (by assumption);refine(jb _ _ b _ (HB.o.later (Kp.of (HW.o.trans (hh.mono HW.o.size)))) HS.o).mono ?_;rintro e w6 ⟨⟨vp,rfl,KP,GE⟩,tu⟩;have oh:Hid (Below A1.heap.size A1 w6):=hh.trans (tu.mono hh.size);have VS:Hid ((ah b (ar b m)≠0->vp=.slice none 0 0)/\(ah b (ar b m)=0->bq w6 vp (cw b))):=⟨KP,GE⟩
       clear tu hh KP GE))
  all_goals go_wp2_with fail
  all_goals go_meet
  all_goals exact⟨oh,rfl,VS⟩
 case rest=>
  obtain⟨rf,rfl,KQ⟩:=hcut;have qJ:=HW.t rf.o;by_cases e:ah b (ar b m)=0
  .obtain⟨e1,e2,e3⟩:=gm e;have hv:=cF.1 e1;have jS:=bI.1 e2;have sw:m.length=b.places.toNat:=by have:=jS.len;omega
   have oz:=hv.places;obtain⟨P,hP⟩:=ex1 (cw b);have az:=Gd hv (L:=aM b (aq b)) (by rw[ff];intro h;exact e3 (List.map_eq_nil_iff.1 h)) (xp (xt hv jS));have Na:Hid (jc b m=iE b (aM b (aq b)) (aa m)):=by unfold Hid jc;rw[if_pos e]
   obtain⟨pa,pc,kl,SJ⟩:=KQ.o.2 e;rw[hP]at kl SJ;obtain rfl:=kl.eq;have VT:Hid (bH wc (.slice pa P.length pc) P.length pa pc/\∀d,pa=some d->∀(j:Nat) (l:List Int),P[j]?=some l->∃vf,At wc d j vf/\an wc vf l):=⟨kl,SJ⟩
   have hpc:=kl.le;have zhs:P.length<=1024:=by rw[<-hP];exact lV hv
   have HPI:Hid (∀o∈P,(∀i,0<=aa o i/\aa o i<=20)/\∀(j:Nat) (x:Int),m[j]?=some x->0<=x/\x<o.length):=fun o ho=>by
    have h0:=jL hv (hP▸ho);refine⟨h0.2,fun j x hx=>?_⟩;have h1:=jS.range j x (List.getElem?_eq_some_iff.1 hx).1 hx;omega
   have Al:Hid (jc b m=if dv b m P P.length=P.length then 1 else if dv b m P P.length=0 then 2 else 0):=by
    unfold Hid;rw[Na.o,az,ff,hP,List.length_map,show qj b.places.toNat b.ak (P.map aa) (aa m)=dv b m P P.length by unfold qj dv;rw[List.filter_map,List.length_map,List.take_length,sw];rfl]
   have HE:=hid e;have zbw:m.length<=20:=by omega
   rw[e];clear e e1 e2 e3 hv jS sw oz hP az kl SJ KQ Na;go_wp2_with fail
   go_loopw [9,8] (fun i n wr=>∃j:Nat,j<=P.length/\i=.int .i64 j/\n=.int .i64 (dv b m P j:Nat)/\Hid (Below wc.heap.size wc wr)) (fun i _ _=>P.length-(intOf i).toNat)
   case atStart=>exact⟨0,Nat.zero_le _,rfl,rfl,Below.refl _ _⟩
   case round=>
    obtain⟨j,hj,rfl,rfl,hB⟩:=hrel;have hlj:=Ge b m P j;by_cases az:j<P.length
    .obtain⟨⟨lb,lf,sp⟩,o,rfl,ho,vf,e0,ef⟩:=VT.o.1.elem VT.o.2 az;obtain rfl:sp=none:=e0.1;have HO:=hid ho;have VU:=HPI.o o (List.mem_of_getElem? ho);have sA:=(e0.later (Kp.of hB.o)).2;obtain⟨⟨z0,_⟩,_⟩:=HZ.o wr (rf.o.trans (hB.o.mono rf.o.size));have V0:∀X:ai wr,X.1.cell? ⟨lb,lf+j,none⟩=some vf:=fun X=>X.cell sA;have Z0:∀X:ai wr,X.1.cell? ⟨w.heap.size,0,none⟩=some (.int .i64 b.ak):=fun X=>X.cell z0
     have VM:∀X:ai wr,Calls ZP 62 #[vf,vm] X.1 (fun e gI=>e=.returned (.int .i64 (aB (aa m) (aa o) m.length))/\∃Y:ai wr,gI=Y.1):=fun X=>
      (ja X.1 vf vm o m VU.1 ((ef.later (Kp.of hB.o)).later X.kp) ((HM.o.later (Kp.of (qJ.o.trans (hB.o.mono qJ.o.size)))).later X.kp) zbw VU.2).mono fun e gI ⟨h1,h2⟩=>⟨h1,X.same h2⟩
     obtain⟨tk,sC⟩:=ex1 (aB (aa m) (aa o) m.length);have Q5:=hid sC;rw[sC]at VM;have hji:(j:Int)<(P.length:Int):=by omega
     have zhu:dv b m P j<=1024:=by omega
     clear e0 ef ho VU sA z0 sC;go_wp2_with fail
     refine am (by kernel_rfl) (by kernel_rfl) ?_;repeat(go_big_quiet_step (first|(go_at_call 62;exact VM _)))
     refine wpQuiet_nil ?_;rintro wq ⟨X,hX⟩;have xO:=X.2;rw[<-hX]at xO;have eJ:=hB.t xO;clear hX xO X;by_cases uo:b.ak<tk
     .have HG:Hid (dv b m P (j+1)=dv b m P j+1):=CY HO.o (by rw[Q5.o];exact uo);go_wp2_with fail
      go_round
      case rel=>exact⟨j+1,by omega,by go_num,by rw[HG.o];go_num,eJ⟩
      case measure=>simp[intOf];omega
     .have HG:Hid (dv b m P (j+1)=dv b m P j):=Gf HO.o (by rw[Q5.o];exact uo);go_wp2_with fail
      go_round
      case rel=>exact⟨j+1,by omega,by go_num,by rw[HG.o],eJ⟩
      case measure=>simp[intOf];omega
    .have e:j=P.length:=by omega
     subst e;have hTE:=JY wr (dv b m P P.length:Nat) (P.length:Nat);have kF:=qJ.t hB.o
     have xQ:(if((dv b m P P.length:Nat):Int)=(P.length:Nat)then(1:Int)else if((dv b m P P.length:Nat):Int)=0 then 2 else 0)=jc b m:=by
      rw[Al.o];simp only[Int.natCast_inj,Int.natCast_eq_zero]
     rw[xQ]at hTE;clear xQ;go_wp2_with(go_at_call 63;refine hTE.mono ?_;rintro e w' ⟨rfl,M8⟩;obtain rfl:wr=w':=M8.symm)
     go_ret2;exact⟨congrArg (fun z=>Ending.returned (.tuple #[.int .i64 (jc b m),.int .i64 z])) HE.o.symm,kF.o⟩
  .have Na:Hid (jc b m=0):=by unfold Hid jc;rw[if_neg e]
   obtain⟨ob,Ak⟩:=ex1 (ah b (ar b m));have GD:=hid Ak;rw[Ak]at e⊢;clear Ak KQ;go_wp2_with fail
   go_ret2;exact⟨congrArg (fun z=>Ending.returned (.tuple #[.int .i64 z,.int .i64 ob])) Na.o.symm|>.trans (by rw[GD.o]),qJ.o⟩
def dK (b:ao) (L:List (Nat->Int)) (M:List (List Int)) (j:Nat):Nat:=(An b L (M.take j)).length
theorem CZ (b:ao) (L:List (Nat->Int)) (M:List (List Int)) (j:Nat):dK b L M j<=j:=Nat.le_trans (List.length_filter_le _ _) (List.length_take_le _ _)
theorem Aq {b:ao} (ho:M[j]?=some o) (h:fq b.places.toNat L (aa o)<=b.ak):dK b L M (j+1)=dK b L M j+1:=by
 unfold dK An;rw[List.take_add_one,ho,List.filter_append];simp[h]
theorem C0 {b:ao} (ho:M[j]?=some o) (h:¬fq b.places.toNat L (aa o)<=b.ak):dK b L M (j+1)=dK b L M j:=by
 unfold dK An;rw[List.take_add_one,ho,List.filter_append];simp[h]
theorem C5 (w:World) (v vl:Value) (b:ao) (hb:au w v b) (hv:Valid b) (hl:bq w vl (cw b)) (bJ:cw b≠ []):
 Calls ZP 65 #[v,vl] w (fun e w'=>(∃a c,e=.returned (.slice a (du b (aM b (aq b))).length c)/\(du b (aM b (aq b))).length<=c)/\Below w.heap.size w w'):=by
 have HB:=hid hb;have HV:Hid (Valid b):=hv;have HL:=hid hl;have HNE:=hid bJ;obtain⟨n,hn⟩:=ex1 ((du b (aM b (aq b))).length);have HN:Hid (dK b (aM b (aq b)) (aS b b.places.toNat) (aS b b.places.toNat).length=n):=by unfold Hid dK;rw[List.take_length,<-CX,hn]
 rw[hn];have oz:=hv.places;have sw:(aS b b.places.toNat).length<=625:=Nat.le_trans (mZ hv.parts.many.2 _) (Nat.pow_le_pow_right (by omega) (show b.places.toNat<=4 by omega));obtain⟨a2,c2,a3,c3,a4,c4,rfl⟩:=hb.cj;obtain⟨i0,uu,pW,li,m8⟩:=info_parts CM;obtain⟨A1,aV⟩:=ex1 (w.alloc (.cells #[.int .i64 b.ak,.int .i64 b.places,.slice a2 b.parts.length c2,.slice a3 b.apart.length c3,.slice a4 b.ab.length c4] 26));have B1:Hid (aF A1 w.heap.size 26 #[.int .i64 b.ak,.int .i64 b.places,.slice a2 b.parts.length c2,.slice a3 b.apart.length c3,.slice a4 b.ab.length c4]):=cz aV;have HW:Hid (Below w.heap.size w A1):=(bh aV).below (by simp) (Nat.le_refl _);have z0:=B1.o.cell 0 rfl;have z1:=B1.o.cell 1 rfl;have z2:=B1.o.cell 2 rfl;have z3:=B1.o.cell 3 rfl;have z4:=B1.o.cell 4 rfl;obtain⟨M,hM⟩:=ex1 (aS b b.places.toNat);have HM:=hid hM;rw[hM]at sw HN;clear hb hv hl bJ hn hM;go_enter ZF65,Tryz.ntmps65
 go_wp2_with(go_at_call 74
             refine(ua A1 _ b (HB.o.later (Kp.of HW.o)) HV.o).mono ?_;rintro e wc ⟨⟨vc,rfl,VD⟩,hbc⟩;rw[HM.o]at VD;obtain⟨ma,mc,Ee,Vz⟩:=VD;obtain rfl:=Ee.eq;have HME:Hid (bH wc (.slice ma M.length mc) M.length ma mc/\∀d,ma=some d->∀(j:Nat) (l:List Int),M[j]?=some l->∃vf,At wc d j vf/\an wc vf l):=⟨Ee,Vz⟩
             have hmc:=Ee.le;have rf:=hid hbc;clear Ee Vz hbc z0 z1 z2 z3 z4 aV)
 have qJ:=HW.t rf.o;go_loopw [7,6] (fun i out wr=>∃(j:Nat) (ov:Value),j<=M.length/\i=.int .i64 j/\ov=out/\Hid (∃fs,wr.ownsRow wc.heap.size 27 1 ov (dK b (aM b (aq b)) M j) fs)/\Hid (Below wc.heap.size wc wr)) (fun i _ _=>M.length-(intOf i).toNat)
 case atStart=>exact⟨0,_,Nat.zero_le _,rfl,rfl,⟨[],World.ownsRow_nil _ _ _ _⟩,Below.refl _ _⟩
 case round=>
  obtain⟨j,ov,hj,rfl,rfl,hO,hB⟩:=hrel;obtain⟨fs,KM⟩:=hO.o;have HO:=hid KM;have qN:=CZ b (aM b (aq b)) M j;clear hO KM;by_cases az:j<M.length
  .obtain⟨⟨lb,lf,sp⟩,o,rfl,ho,vf,e0,ef⟩:=HME.o.1.elem HME.o.2 az;obtain rfl:sp=none:=e0.1;have Ro:=hid ho;have jS:dp b o:=FT HV.o (by rw[HM.o];exact List.mem_of_getElem? ho);have ul:o.length=b.places.toNat:=by have:=jS.len;omega
   have sA:=(e0.later (Kp.of hB.o)).2;have z0:=(B1.o.below (rf.o.trans (hB.o.mono rf.o.size)) B1.o.lt).cell 0 rfl;have tX:=qJ.t hB.o
   have c57:∀X:World,Below wr.heap.size wr X->Calls ZP 57 #[vl,vf] X (bK X (.agg #[.int .i64 (gW b.places.toNat (aM b (aq b)) (aa o)),.int .i64 (fq b.places.toNat (aM b (aq b)) (aa o))])):=fun X hX=>by
    have h:=qh X vl vf (cw b) o ((HL.o.later (Kp.of tX.o)).later (Kp.of hX)) ((ef.later (Kp.of hB.o)).later (Kp.of hX)) HNE.o (Nat.le_trans (lV HV.o) (by decide)) (by omega) (fun q hq=>(jL HV.o hq).2) (fun q hq i x hx=>by
     have h1:=jS.range i x (List.getElem?_eq_some_iff.1 hx).1 hx;have h2:=(jL HV.o hq).1;omega)
    rw[<-ff,ul]at h;exact h
   obtain⟨lo,qe⟩:=ex1 (gW b.places.toNat (aM b (aq b)) (aa o));obtain⟨hi,sO⟩:=ex1 (fq b.places.toNat (aM b (aq b)) (aa o));have Vv:=hid sO;rw[qe,sO]at c57;have hji:(j:Int)<(M.length:Int):=by omega
   obtain⟨fa,fc,Rj,_⟩:=ef;obtain rfl:=Rj.eq;have zby:=hid c57;have HS:Hid (∀X:World,Below wr.heap.size wr X->(X.cell? ⟨w.heap.size,0,none⟩=some (.int .i64 b.ak)/\X.cell? ⟨lb,lf+j,none⟩=some (.slice fa o.length fc))/\Below wr.heap.size wr X):=fun X hX=>⟨⟨ai.cell ⟨X,hX⟩ z0,ai.cell ⟨X,hX⟩ sA⟩,hX⟩
   have tq:Hid (∀X:World,((X.cell? ⟨w.heap.size,0,none⟩=some (.int .i64 b.ak)/\X.cell? ⟨lb,lf+j,none⟩=some (.slice fa o.length fc))/\Below wr.heap.size wr X)->Below wr.heap.size wr X):=fun _ h=>h.2;clear e0 Rj ho jS ul sA z0 qe sO c57;go_wp2_with fail
   have MY:=fun w=>pv w lo hi
   go_region_held3 (fun X:World=>(X.cell? ⟨w.heap.size,0,none⟩=some (.int .i64 b.ak)/\X.cell? ⟨lb,lf+j,none⟩=some (.slice fa o.length fc))/\Below wr.heap.size wr X)
    (first
      |with_reducible exact HS.o _ XA.o
      |exact HS.o _ (Below.drewN (Below.refl wr.heap.size wr) 1)
      |fail)
    (first
      |(go_at_call 57
        have hh:=tq.o _ (by assumption);refine(zby.o _ hh).mono ?_;rintro e wq ⟨rfl,hbq⟩;have XA:Hid (Below wr.heap.size wr wq):=hh.trans (hbq.mono hh.size);clear hbq hh))
   all_goals
    have hvq:=(HS.o wq XA.o).1.2;have eJ:=hB.t XA.o;have HOq:Hid (wq.ownsRow wc.heap.size 27 1 ov (dK b (aM b (aq b)) M j) fs):=bz HO.o fun k hk=>XA.o.block k (aE HO.o k hk).2;have zhw:=eJ.o.size;by_cases hle:hi<=b.ak
    .have HG:Hid (dK b (aM b (aq b)) M (j+1)=dK b (aM b (aq b)) M j+1):=Aq Ro.o (by rw[Vv.o];exact hle)
     go_wp2_with(at_builtin
                 refine wpList_append_own _ rfl (.tmp 26) (.tmp 31) 68 rfl wc.heap.size 27 i0 (.slice none 0 0) 1 24 oq uu pW li m8 rfl (by decide) _ _ fs rfl (HOq.o.alloc _) ⟨_,0,none⟩ 1 1 [.slice fa o.length fc] rfl rfl (iX _ _ _) (fun u hu=>by simp at hu;subst hu;rfl) (by unfold maxLen;omega) (by omega) (by simp;omega) ?_;intro v3 w3 tv re _;have ub:=hid tv;have gi:Hid (Below wc.heap.size wc w3):=Below.grown (eJ.o.alloc eJ.o.size _) re (by simp;omega) (iZ HOq.o);clear tv re)
     go_round
     case rel=>exact⟨j+1,_,by omega,by go_num,rfl,⟨_,by rw[HG.o];exact ub.o⟩,gi⟩
     case measure=>simp[intOf];omega
    .have HG:Hid (dK b (aM b (aq b)) M (j+1)=dK b (aM b (aq b)) M j):=C0 Ro.o (by rw[Vv.o];exact hle);go_wp2_with fail
     go_round
     case rel=>exact⟨j+1,_,by omega,by go_num,rfl,⟨fs,by rw[HG.o];exact HOq.o⟩,eJ⟩
     case measure=>simp[intOf];omega
  .have e:j=M.length:=by omega
   subst e;have ho:=HO.o;rw[HN.o]at ho;obtain⟨oa,oc,M9,_⟩:=M6 ho;obtain rfl:=M9.eq;have HOC:Hid (n<=oc):=M9.le;have kF:=qJ.t hB.o;clear ho M9;go_wp2_with fail
   go_ret;exact⟨⟨oa,oc,rfl,HOC.o⟩,kF.o⟩
noncomputable def kx (b:ao):Nat:=if ah b 0=0 then(du b (aM b (aq b))).length else 0
theorem Ar (w:World) (v:Value) (b:ao) (hb:au w v b) (hs:de b):Calls ZP 17 #[v] w (bK w (.tuple #[.int .i64 (kx b:Nat),.int .i64 (ah b 0)])):=by
 have HB:=hid hb;have HS:Hid (de b):=hs;obtain⟨a2,c2,a3,c3,a4,c4,rfl⟩:=hb.cj;obtain⟨A1,aV⟩:=ex1 (w.alloc (.cells #[.int .i64 b.ak,.int .i64 b.places,.slice a2 b.parts.length c2,.slice a3 b.apart.length c3,.slice a4 b.ab.length c4] 26));have B1:Hid (aF A1 w.heap.size 26 #[.int .i64 b.ak,.int .i64 b.places,.slice a2 b.parts.length c2,.slice a3 b.apart.length c3,.slice a4 b.ab.length c4]):=cz aV;have HW:Hid (Below w.heap.size w A1):=(bh aV).below (by simp) (Nat.le_refl _);have z0:=B1.o.cell 0 rfl;have z1:=B1.o.cell 1 rfl;have z2:=B1.o.cell 2 rfl;have z3:=B1.o.cell 3 rfl;have z4:=B1.o.cell 4 rfl;clear hb hs;go_enter ZF17,Tryz.ntmps17
 go_wp2_with fail
 refine(jb A1 _ b 0 (HB.o.later (Kp.of HW.o)) HS.o).mono ?_;rintro e w1 ⟨⟨vp,rfl,KP,GE⟩,bj⟩;have eI:=hid bj;have kE:=HW.t bj;clear bj aV z0 z1 z2 z3 z4 KP;by_cases e:ah b 0=0
 .have X1:=B1.o.below eI.o B1.o.lt;have z0:=X1.cell 0 rfl;have z1:=X1.cell 1 rfl;have z2:=X1.cell 2 rfl;have z3:=X1.cell 3 rfl;have z4:=X1.cell 4 rfl;obtain⟨e1,_,e3⟩:=gm e;have HV:Hid (Valid b):=cF.1 e1;have hS:=C5 w1 _ vp b (HB.o.later (Kp.of kE.o)) HV.o (GE e) e3;have HSV:Hid (kx b=(du b (aM b (aq b))).length):=by unfold Hid kx;rw[if_pos e]
  have HE:=hid e;rw[<-HSV.o]at hS;rw[e];clear X1 GE e e1 e3
  go_wp2_with(go_at_call 65
              refine hS.mono ?_;rintro e w2 ⟨⟨sa,sc,rfl,Ku⟩,fk⟩;have eJ:=kE.t fk;clear fk z0 z1 z2 z3 z4)
  go_ret2;exact⟨congrArg (fun z=>Ending.returned (.tuple #[.int .i64 (kx b:Nat),.int .i64 z])) HE.o.symm,eJ.o⟩
 .have HSV:Hid (kx b=0):=by unfold Hid kx;rw[if_neg e]
  obtain⟨ob,Ak⟩:=ex1 (ah b 0);have GD:=hid Ak;rw[Ak]at e⊢;clear Ak GE;go_wp2_with fail
  go_ret2;exact⟨(congrArg (fun z:Nat=>Ending.returned (.tuple #[.int .i64 z,.int .i64 ob])) HSV.o.symm).trans (by rw[GD.o]),kE.o⟩
section
variable {w W X:World} {b:ao} {g2 k2 k3 k4 g4 d2 d4:Nat} {p3 p4:Option Addr} {L2:List (Part × Value)} {L4:List (fO × Value)}
end
end Go.Proofs.Cz
