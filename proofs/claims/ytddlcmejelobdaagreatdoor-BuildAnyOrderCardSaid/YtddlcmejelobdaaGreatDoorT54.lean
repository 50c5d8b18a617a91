/- A part. Conditions: none. -/
import Derived.Test.YtddlcmejelobdaaGreatDoorT20
import Derived.Test.YtddlcmejelobdaaGreatDoorT52
import Derived.Test.YtddlcmejelobdaaGreatDoorT53
import Derived.Deep.AppendLies
set_option linter.all false
set_option maxHeartbeats 8000000
set_option maxRecDepth 100000
namespace Go.Proofs.Cz
open Go.RowKit
variable {b:ab} {v2 v3 v4:fu} {w:nq} {x y:Int}
def Rv1 (w A:nq) (b:ab) (g k:Nat) (wr:nq):Prop:=
 ∃(v2:fu) (L:List (Part×fu)),aA wr g 26 #[.int .i64 b.ak,.int .i64 b.ah,v2,.slice none 0 0,.slice none 0 0]/\wr.ownsRow A.heap.size 37 6 v2 k (L.flatMap rS)/\L.map Prod.fst=b.ptz.reverse.take k/\
  (∀x∈L,ao w x.2 x.1.fits)/\aa [g] A wr
def Rv2 (A:nq) (b:ab) (g:Nat) (v2:fu) (k:Nat) (wr:nq):Prop:=
 ∃v3:fu,aA wr g 26 #[.int .i64 b.ak,.int .i64 b.ah,v2,v3,.slice none 0 0]/\wr.ownsRow A.heap.size 53 2 v3 k (((b.aL.reverse.take k).map (Ey b.ptz.length)).flatMap vQ)/\aa [g] A wr
def Rv3 (A:nq) (b:ab) (g:Nat) (v2 v3:fu) (k:Nat) (wr:nq):Prop:=
 ∃(v4:fu) (L:List (eH×fu)),aA wr g 26 #[.int .i64 b.ak,.int .i64 b.ah,v2,v3,v4]/\wr.ownsRow A.heap.size 56 3 v4 k (L.flatMap rT)/\L.map Prod.fst=(b.aX.reverse.take k).map (Xv b.ptz.length)/\
  (∀x∈L,wr.ownsRow A.heap.size 3 1 x.2 x.1.ptz.length (x.1.ptz.map (Value.int .i64)))/\aa [g] A wr
def ar.Sx (h:ar w (.agg #[.int .i64 x,.int .i64 y,v2,v3,v4]) b):dy w v3 b.aL:=by
 obtain⟨_,_,_,e,h2,h3,_⟩:=h;simp only[Value.agg.injEq,zCO,zCB,zCK,zEC]at e;obtain⟨_,_,_,rfl,_⟩:=e;exact h3
def ar.Ov (h:ar w (.agg #[.int .i64 x,.int .i64 y,v2,v3,v4]) b):dB w v4 b.aX:=by
 obtain⟨_,_,_,e,h2,h3,h4⟩:=h;simp only[Value.agg.injEq,zCO,zCB,zCK,zEC]at e;obtain⟨_,_,_,_,rfl⟩:=e;exact h4
def Ow (a b:Int):∀u∈ [Value.int .i64 a,.int .i64 b],u.oneCell'=true:=λu hu=>by
 rcases zAL.1 hu with rfl|hu
 .rfl
 .rw[zCF.1 hu];rfl
def K7 (a:Option Addr) (n m:Nat) (x y:Int):∀u∈ [Value.slice a n m,.int .i64 x,.int .i64 y],u.oneCell'=true:=λu hu=>by
 simp at hu;rcases hu with rfl|rfl|rfl<;>rfl
def ww {α:Type} {l:List α} {k:Nat} {x:α} (hk:k<l.length) (h:l[l.length-1-k]?=some x):l.reverse.take (k+1)=l.reverse.take k++[x]:=by
 rw[zBR,zFE hk,h];rfl
def zhh (w:nq) (v:fu) (b:ab) (n1:Int) (hb:ar w v b) (hn:0<=n1/\n1<65536) (hc:jh w):
 Calls ZP 5 #[v,.int .u16 n1] w λe _=>e=.returned (.bool true):=by
 have HB0:=hid hb;have HC:Hid (jh w):=hc;have HN:=hid hn;obtain⟨a2,c2,a3,c3,a4,c4,rfl⟩:=hb.dJ;obtain⟨A1,bh⟩:=ex1 (w.alloc (.cells #[.int .i64 b.ak,.int .i64 b.ah,.slice a2 b.ptz.length c2,.slice a3 b.aL.length c3,.slice a4 b.aX.length c4] 26));have B1:Hid (aA A1 w.heap.size 26 #[.int .i64 b.ak,.int .i64 b.ah,.slice a2 b.ptz.length c2,.slice a3 b.aL.length c3,.slice a4 b.aX.length c4]):=eC bh;have HW:Hid (Below w.heap.size w A1):=(dM bh).below (by simp) (zAB _);have z0:=B1.o.cell 0 rfl;have z1:=B1.o.cell 1 rfl;have z2:=B1.o.cell 2 rfl;have z3:=B1.o.cell 3 rfl;have z4:=B1.o.cell 4 rfl;have hF:=Rf A1 _ b (HB0.o.later (Kp.of HW.o));clear hb hc hn;go_enter ZF5,Tryz.ntmps5
 go_wp2_with fail
 refine hF.mono ?_;rintro e w1 ⟨⟨r,rfl,hr⟩,bq⟩;have cV:=hid bq;have pf:=HW.t bq;clear bq bh z0 z1 z2 z3 z4 hF;cases r with
 |false=>
  clear hr;go_wp2_with(go_at_call 9;refine(rY _).mono ?_;rintro e w2 ⟨rfl,_⟩)
  go_ret;rfl
 |true=>
  obtain⟨hs,hv⟩:=hr rfl;have HV:Hid (Valid b):=hv;have HS:Hid (d9 b):=hs;have Ri:=hv.ptz.many;have q7:=hv.ah;clear hr hs hv;have X1:=B1.o.below cV.o B1.o.lt;have z0:=X1.cell 0 rfl;have z1:=X1.cell 1 rfl;have z2:=X1.cell 2 rfl;have z3:=X1.cell 3 rfl;have z4:=X1.cell 4 rfl;obtain⟨V0,hV0⟩:=ex1 (w1.alloc (.cells z26 26));have D0:aA V0 w1.heap.size 26 z26:=eC hV0;obtain⟨V1,hV1⟩:=ex1 (((((V0.setCell ⟨w1.heap.size,0,none⟩ (.int .i64 b.ak)).setCell ⟨w1.heap.size,1,none⟩ (.int .i64 b.ah)).setCell ⟨w1.heap.size,2,none⟩ (.slice a2 b.ptz.length c2)).setCell ⟨w1.heap.size,3,none⟩ (.slice a3 b.aL.length c3)).setCell ⟨w1.heap.size,4,none⟩ (.slice a4 b.aX.length c4));obtain⟨Sy,hK1⟩:=zgL (.int .i64 b.ak) (.int .i64 b.ah) (.slice a2 b.ptz.length c2) (.slice a3 b.aL.length c3) (.slice a4 b.aX.length c4) D0;rw[hV1]at Sy hK1;obtain⟨A2,bL⟩:=ex1 (((V1.setCell ⟨w1.heap.size,2,none⟩ (.slice none 0 0)).setCell ⟨w1.heap.size,3,none⟩ (.slice none 0 0)).setCell ⟨w1.heap.size,4,none⟩ (.slice none 0 0));have D2:Hid (aA A2 w1.heap.size 26 #[.int .i64 b.ak,.int .i64 b.ah,.slice none 0 0,.slice none 0 0,.slice none 0 0]):=by rw[<-bL];exact((Sy.set 2 _).set 3 _).set 4 _
  have K2:aa [w1.heap.size] w1 A2:=by
   rw[<-bL];exact((((dM hV0).mono (by simp)).trans' hK1).trans' (aa.set _ (by simp) _)).trans' ((aa.set _ (by simp) _).trans' (aa.set _ (by simp) _))
  have qW:Hid (Below w.heap.size w A2):=pf.o.trans (K2.below (by simp;exact pf.o.size) pf.o.size);have B2:Hid (aA A2 w.heap.size 26 #[.int .i64 b.ak,.int .i64 b.ah,.slice a2 b.ptz.length c2,.slice a3 b.aL.length c3,.slice a4 b.aX.length c4]):=K2.box X1 (by have:=B1.o.lt;have:=cV.o.size;simp;omega);have Ox:Hid (w.heap.size<w1.heap.size/\w1.heap.size<A2.heap.size):=⟨by have:=B1.o.lt;have:=cV.o.size;omega,D2.o.lt⟩
  obtain⟨⟨s0,s1,s2,s3,s4⟩,f0,f1,f2,f3,f4⟩:=zbO D0;have e2:=Sy.cell 2 rfl;have e3:=Sy.cell 3 rfl;have e4:=Sy.cell 4 rfl;have h2:=Sy.aH 2;have h3:=Sy.aH 3;have h4:=Sy.aH 4;clear X1 D0 Sy hK1 K2;obtain⟨pa,pc,xP,hpe⟩:=HB0.o.RK;have hpq:=xP.eq;cases hpq;have De:Hid (bT w (.slice a2 b.ptz.length c2) b.ptz.length a2 c2/\_):=⟨xP,hpe⟩
  obtain⟨i7,hi7,zhj,zhk,zhl⟩:=info_parts Xb;have zn5:=xP.le;go_upto_region 5 with fail
  clear s0 s1 s2 s3 s4 f0 f1 f2 f3 f4 e2 e3 e4 h2 h3 h4 hV0 hV1 bL z0 z1 z2 z3 z4 xP hpe;have z2:=B2.o.cell 2 rfl;go_upto_region 7 with fail
  clear z2;go_loopw [7] (λi wr=>∃k:Nat,k<=b.ptz.length/\i=.int .i64 ((b.ptz.length:Int)-1-k)/\Hid (Rv1 w A2 b w1.heap.size k wr)) (λi _=>(intOf i+1).toNat)
  case atStart=>exact⟨0,zAM _,by simp,_,[],D2.o,World.ownsRow_nil _ _ _ _,rfl,(λx h=>by cases h),aa.refl _ _⟩
  case round=>
   obtain⟨k,hk,rfl,v2,L,eQ,pz,te,LG,f7⟩:=hrel;have vq:=hid eQ;have jA:=hid pz;have RB:Hid (L.map Prod.fst=b.ptz.reverse.take k/\∀x∈L,ao w x.2 x.1.fits):=⟨te,LG⟩
   have AJ:=hid f7;have HBR:Hid (Below w.heap.size w wr):=qW.o.trans (f7.below (by have:=Ox.o;simp;omega) qW.o.size);clear eQ pz te LG f7;by_cases av:k<b.ptz.length
   .obtain⟨j,hj⟩:=ex1 (b.ptz.length-1-k);have Pk:j<b.ptz.length:=by omega
    obtain⟨⟨lb,lf,sp⟩,x,rfl,hx,e0,e1,e2,e3,e4,vf,e5,ef⟩:=De.o.1.elem De.o.2 Pk;obtain rfl:sp=none:=e2.1;have HX:Hid (b.ptz[b.ptz.length-1-k]?=some x):=by unfold Hid;rw[hj];exact hx
    have HEF:=hid ef;obtain⟨fa,fn,fc,rfl⟩:=pu ef;have UK:(b.ptz.length:Int)-1-k=(j:Int):=by omega
    have OS:(j:Int)<(b.ptz.length:Int):=by omega
    rw[UK]
    have qD:Hid (∀X:nq,aa [w1.heap.size] A2 X->(X.cell? ⟨w.heap.size,2,none⟩=some (.slice (some ⟨lb,lf,none⟩) b.ptz.length c2)/\X.cell? ⟨lb,lf+j*6,none⟩=some (.string x.name)/\X.cell? ⟨lb,lf+j*6+1,none⟩=some (.int .i64 x.cost)/\X.cell? ⟨lb,lf+j*6+2,none⟩=some (.int .i64 x.dm)/\X.cell? ⟨lb,lf+j*6+3,none⟩=some (.int .i64 x.lo)/\X.cell? ⟨lb,lf+j*6+4,none⟩=some (.int .i64 x.hi)/\X.cell? ⟨lb,lf+j*6+5,none⟩=some (.slice fa fn fc))/\aa [w1.heap.size] A2 X):=λX hX=>by
     have Bw:Below w.heap.size w X:=qW.o.trans (hX.below (by have:=Ox.o;simp;omega) qW.o.size);have p1:=(e1.later (Kp.of Bw)).2;have p2:=(e2.later (Kp.of Bw)).2;have p3:=(e3.later (Kp.of Bw)).2;have p4:=(e4.later (Kp.of Bw)).2;have p5:=(e5.later (Kp.of Bw)).2;simp only[<-zBD]at p1 p2 p3 p4 p5;exact⟨⟨(hX.box B2.o (by have:=Ox.o;simp;omega)).cell 2 rfl,(e0.later (Kp.of Bw)).2,p1,p2,p3,p4,p5⟩,hX⟩
    clear hx e0 e1 e2 e3 e4 e5 ef hj;go_upto_region 9 with fail
    have zh:Hid (aa [w1.heap.size] A2 wr.drew):=AJ.o.trans' (aa.of (Below.drewN (Below.refl _ wr) 1));have GQ:Hid (aA wr.drew w1.heap.size 26 #[.int .i64 b.ak,.int .i64 b.ah,v2,.slice none 0 0,.slice none 0 0]):=vq.o;have K8:Hid (wr.drew.ownsRow A2.heap.size 37 6 v2 k (L.flatMap rS)):=aJ (W':=wr.drew) jA.o λ_ _=>rfl;refine wp_region_held_drew (S:=λX:nq=>(X.cell? ⟨w.heap.size,2,none⟩=some (.slice (some ⟨lb,lf,none⟩) b.ptz.length c2)/\X.cell? ⟨lb,lf+j*6,none⟩=some (.string x.name)/\X.cell? ⟨lb,lf+j*6+1,none⟩=some (.int .i64 x.cost)/\X.cell? ⟨lb,lf+j*6+2,none⟩=some (.int .i64 x.dm)/\X.cell? ⟨lb,lf+j*6+3,none⟩=some (.int .i64 x.lo)/\X.cell? ⟨lb,lf+j*6+4,none⟩=some (.int .i64 x.hi)/\X.cell? ⟨lb,lf+j*6+5,none⟩=some (.slice fa fn fc))/\aa [w1.heap.size] A2 X) (by kernel_rfl) (qD.o _ zh.o) (λgA=>?_);generalize wr.drew=wq at zh GQ K8 gA⊢;have y2:=GQ.o.cell 2 rfl;have y2a:∀o:Obj,(wq.alloc o).cell? ⟨w1.heap.size,2,none⟩=some v2:=λo=>((aa.alloc [] wq o).box GQ.o (by simp)).cell 2 rfl;refine tk 0 59 ?_;refine tk 2 61 ?_;refine tk 3 62 ?_;refine tk 4 63 ?_;refine tk 5 64 ?_;refine tk 6 65 ?_;try simp only[Act.put,zAU,zBH,zBG]
    refine wpAnyH_ready (rs:=[1,7]) (by kernel_rfl) (by simp) ?_;refine AllReadyH.cons (o:=⟨some 60,_,_,_,_,_⟩) rfl (λK hK=>?_) (AllReadyH.cons (o:=⟨some 66,_,_,_,_,_⟩) rfl (λK hK=>?_) AllReadyH.nil);all_goals go_simp
    all_goals refine hK.out _ _ (by first|exact qD.o _ (zh.o.cU _)|exact qD.o _ zh.o) (λgA=>?_)
    all_goals clear hK K
    all_goals try simp only[Act.put,zAU,zBH,zBG]
    focus (refine wpAnyH_ready (rs:=[7]) (by kernel_rfl) (by simp) ?_;refine AllReadyH.cons (o:=⟨some 66,_,_,_,_,_⟩) rfl (λK hK=>?_) AllReadyH.nil)
    rotate_left;focus (refine wpAnyH_ready (rs:=[1]) (by kernel_rfl) (by simp) ?_;refine AllReadyH.cons (o:=⟨some 60,_,_,_,_,_⟩) rfl (λK hK=>?_) AllReadyH.nil)
    rotate_left;all_goals go_simp
    all_goals refine hK.out _ _ (qD.o _ (zh.o.cU _)) (λgA=>?_)
    all_goals clear hK K
    all_goals try simp only[Act.put,zAU,zBH,zBG]
    all_goals
     refine wpAnyH_ready (rs:=[8]) (by kernel_rfl) (by simp) ?_;refine AllReadyH.cons (o:=⟨some 67,_,_,_,_,_⟩) rfl (λK hK=>?_) AllReadyH.nil;refine step_append_lies _ rfl (.tmp 60) (.tmp 66) 22 rfl A2.heap.size 37 i7 (.agg #[.string .empty,.int .i64 0,.int .i64 0,.int .i64 0,.int .i64 0,.slice none 0 0]) 6 72 Rw hi7 zhj zhk zhl rfl (by decide) v2 k _ (by simp[Act.eval,Act.put]) (K8.o.alloc _) ⟨wq.heap.size,0,none⟩ 1 1 [.string x.name,.int .i64 x.cost,.int .i64 x.dm,.int .i64 x.lo,.int .i64 x.hi,.slice fa fn fc] (by simp[Act.eval,Act.put]) rfl (lF (aA.new wq 37 _)) (NN _ _ _ _ _ _ _ _) (by omega) (by unfold maxLen;omega) (by omega) (by have:=zh.o.size;simp;omega) _ rfl ?_;intro g7 k7 w3 bQ cF _ _;have sI:=hid bQ;have Xk:Hid (aA w3 w1.heap.size 26 #[.int .i64 b.ak,.int .i64 b.ah,v2,.slice none 0 0,.slice none 0 0]):=(cF.block _ (by have:=GQ.o.lt;simp;omega) (λe=>by have h1:=dD K8.o _ e.symm;have h2:=Ox.o;omega)).trans ((aa.alloc [] wq _).box GQ.o (by simp));have NW:Hid (aa [w1.heap.size] A2 w3):=aa.grow (zh.o.cU _) cF (λi hi=>dD K8.o i hi);have y3:=Xk.o.cell 2 rfl;have yf3:=Xk.o.aH 2;clear bQ cF;refine hK.out _ _ (qD.o _ NW.o) (λgA=>?_);clear hK K;try simp only[Act.put,zAU,zBH,zBG]
     refine tk 9 68 ?_;try simp only[Act.put,zAU,zBH,zBG]
     refine wpAnyH_ready (rs:=[10]) (by kernel_rfl) (by simp) ?_;refine AllReadyH.cons (o:=⟨none,_,_,_,_,_⟩) rfl (λK hK=>?_) AllReadyH.nil;go_simp;refine hK.out _ _ (qD.o _ (NW.o.trans' (aa.set _ (by simp) _))) (λgA=>?_);clear hK K;try simp only[Act.put,zAU,zBH,zBG]
     refine wpAnyH_done (by kernel_rfl) ?_ _
    all_goals
     go_wp2_with fail
     go_round
     case rel=>
      refine⟨k+1,by omega,zBB (Value.int .i64) (by push_cast;omega),_,L++[(x,.slice fa fn fc)],Xk.o.set 2 _,?_,?_,?_,NW.o.trans' (aa.set _ (by simp) _)⟩
      .rw[zCR];refine aJ sI.o λi hi=>Below.heap_setCell _ _ _ _ ?_;have h1:=dD sI.o i hi;have h2:=Ox.o;show i≠w1.heap.size;omega
      .rw[zCJ,RB.o.1,ww av HX.o];rfl
      .intro y hy;rcases zCH.1 hy with hy|hy
       .exact RB.o.2 y hy
       .obtain rfl:=zCF.1 hy;exact HEF.o
     case measure=>simp[intOf]<;>omega
   .have e:k=b.ptz.length:=by omega
    subst e;have UK:(b.ptz.length:Int)-1-(b.ptz.length:Int)=-1:=by omega
    rw[UK];have HL1:Hid (L.map Prod.fst=b.ptz.reverse):=by unfold Hid;rw[RB.o.1,zFV (by simp)]
    have R7:Hid (∀x∈L,ao w x.2 x.1.fits):=RB.o.2;have f7:=AJ.o;have z3:=(f7.box B2.o (by have:=Ox.o;simp;omega)).cell 3 rfl;obtain⟨qa,qc,XV,hqe⟩:=HB0.o.Sx;have hqq:=XV.eq;cases hqq;have HQS:Hid (bT w (.slice a3 b.aL.length c3) b.aL.length a3 c3/\_):=⟨XV,hqe⟩
    obtain⟨i8,hi8,zhn,zho,zhp⟩:=info_parts RT;have zn7:=XV.le;have hqm:=HV.o.gJ.many;obtain⟨wo,rfl⟩:∃wo,wo=wr:=⟨wr,rfl⟩
    have B3:Hid (aA wo w.heap.size 26 #[.int .i64 b.ak,.int .i64 b.ah,.slice a2 b.ptz.length c2,.slice a3 b.aL.length c3,.slice a4 b.aX.length c4]):=f7.box B2.o (by have:=Ox.o;simp;omega);have Ut:Hid (w.heap.size<w1.heap.size/\w1.heap.size<wo.heap.size):=⟨Ox.o.1,vq.o.lt⟩
    clear XV hqe f7;go_upto_region 11 with fail
    clear z3;go_loopw [8] (λi wr=>∃k:Nat,k<=b.aL.length/\i=.int .i64 ((b.aL.length:Int)-1-k)/\Hid (Rv2 wo b w1.heap.size v2 k wr)) (λi _=>(intOf i+1).toNat)
    case atStart=>exact⟨0,zAM _,by simp,_,vq.o,World.ownsRow_nil _ _ _ _,aa.refl _ _⟩
    case round=>
     obtain⟨k,hk,rfl,v3,eQ,pz,f7⟩:=hrel;have HO4:=hid eQ;have HR4:=hid pz;have RG:=hid f7;have YC:Hid (Below w.heap.size w wr):=HBR.o.trans (f7.below (by have:=Ut.o;simp;omega) HBR.o.size);clear eQ pz f7;by_cases av:k<b.aL.length
     .obtain⟨j,hj⟩:=ex1 (b.aL.length-1-k);have Pk:j<b.aL.length:=by omega
      obtain⟨⟨lb,lf,sp⟩,x,rfl,hx,e0,e1⟩:=HQS.o.1.elem HQS.o.2 Pk;obtain rfl:sp=none:=e0.1;have HX:Hid (b.aL[b.aL.length-1-k]?=some x):=by unfold Hid;rw[hj];exact hx
      have hxo:=(HV.o.gJ.all j x Pk hx).1;have He:=hxo.one;have pz:=hxo.two;obtain⟨xa,xb⟩:=x;simp only at e0 e1 He pz;have Xy:(b.aL.length:Int)-1-k=(j:Int):=by omega
      have OS:(j:Int)<(b.aL.length:Int):=by omega
      rw[Xy];obtain⟨ya,hya⟩:=ex1 ((b.ptz.length:Int)-1-xa);obtain⟨yb,hyb⟩:=ex1 ((b.ptz.length:Int)-1-xb);have HYY:Hid (Ey b.ptz.length (xa,xb)=(yb,ya)):=by unfold Hid Ey lX;rw[hya,hyb]
      have HWY:Hid (IntKind.i64.wrap yb=yb/\IntKind.i64.wrap ya=ya):=⟨IntWalk.i64_in _ ⟨by omega,by omega⟩,IntWalk.i64_in _ ⟨by omega,by omega⟩⟩
      have qD:Hid (∀X:nq,aa [w1.heap.size] wo X->(X.cell? ⟨w.heap.size,3,none⟩=some (.slice (some ⟨lb,lf,none⟩) b.aL.length c3)/\X.cell? ⟨lb,lf+j*2,none⟩=some (.int .i64 xa)/\X.cell? ⟨lb,lf+j*2+1,none⟩=some (.int .i64 xb))/\aa [w1.heap.size] wo X):=λX hX=>by
       have Bw:Below w.heap.size w X:=HBR.o.trans (hX.below (by have:=Ut.o;simp;omega) HBR.o.size);have p1:=(e1.later (Kp.of Bw)).2;simp only[<-zBD]at p1;exact⟨⟨(hX.box B3.o (by have:=Ut.o;simp;omega)).cell 3 rfl,(e0.later (Kp.of Bw)).2,p1⟩,hX⟩
      clear hx hj hxo e0 e1;go_upto_region 13 with fail
      have zh:Hid (aa [w1.heap.size] wo wr.drew):=RG.o.trans' (aa.of (Below.drewN (Below.refl _ wr) 1));have GQ:Hid (aA wr.drew w1.heap.size 26 #[.int .i64 b.ak,.int .i64 b.ah,v2,v3,.slice none 0 0]):=HO4.o;have K8:Hid (wr.drew.ownsRow wo.heap.size 53 2 v3 k (((b.aL.reverse.take k).map (Ey b.ptz.length)).flatMap vQ)):=aJ (W':=wr.drew) HR4.o λ_ _=>rfl;refine wp_region_held_drew (S:=λX:nq=>(X.cell? ⟨w.heap.size,3,none⟩=some (.slice (some ⟨lb,lf,none⟩) b.aL.length c3)/\X.cell? ⟨lb,lf+j*2,none⟩=some (.int .i64 xa)/\X.cell? ⟨lb,lf+j*2+1,none⟩=some (.int .i64 xb))/\aa [w1.heap.size] wo X) (by kernel_rfl) (qD.o _ zh.o) (λgA=>?_);generalize wr.drew=wq at zh GQ K8 gA⊢;have y3:=GQ.o.cell 3 rfl;have y3a:∀o:Obj,(wq.alloc o).cell? ⟨w1.heap.size,3,none⟩=some v3:=λo=>((aa.alloc [] wq o).box GQ.o (by simp)).cell 3 rfl;refine tk 0 77 ?_;refine tk 2 79 ?_;refine tk 3 80 ?_;refine tk 4 81 ?_;refine tk 5 82 ?_;refine tk 6 83 ?_;refine tk 7 84 ?_;refine tk 8 85 ?_;refine tk 9 86 ?_;refine tk 10 87 ?_;refine tk 11 88 ?_;refine tk 12 89 ?_;refine tk 13 90 ?_;refine tk 14 91 ?_;refine tk 15 92 ?_;refine tk 16 93 ?_;refine tk 17 94 ?_;refine tk 18 95 ?_;try simp only[Act.put,zAU,zBH,zBG]
      refine wpAnyH_ready (rs:=[1,19]) (by kernel_rfl) (by simp) ?_;refine AllReadyH.cons (o:=⟨some 78,_,_,_,_,_⟩) rfl (λK hK=>?_) (AllReadyH.cons (o:=⟨some 96,_,_,_,_,_⟩) rfl (λK hK=>?_) AllReadyH.nil);all_goals go_simp
      all_goals refine hK.out _ _ (by first|exact qD.o _ (zh.o.cU _)|exact qD.o _ zh.o) (λgA=>?_)
      all_goals clear hK K
      all_goals try simp only[Act.put,zAU,zBH,zBG]
      focus (refine wpAnyH_ready (rs:=[19]) (by kernel_rfl) (by simp) ?_;refine AllReadyH.cons (o:=⟨some 96,_,_,_,_,_⟩) rfl (λK hK=>?_) AllReadyH.nil)
      rotate_left;focus (refine wpAnyH_ready (rs:=[1]) (by kernel_rfl) (by simp) ?_;refine AllReadyH.cons (o:=⟨some 78,_,_,_,_,_⟩) rfl (λK hK=>?_) AllReadyH.nil)
      rotate_left;all_goals go_simp
      all_goals refine hK.out _ _ (qD.o _ (zh.o.cU _)) (λgA=>?_)
      all_goals clear hK K
      all_goals try simp only[Act.put,zAU,zBH,zBG]
      all_goals
       refine wpAnyH_ready (rs:=[20]) (by kernel_rfl) (by simp) ?_;refine AllReadyH.cons (o:=⟨some 97,_,_,_,_,_⟩) rfl (λK hK=>?_) AllReadyH.nil;refine step_append_lies _ rfl (.tmp 78) (.tmp 96) 23 rfl wo.heap.size 53 i8 (.agg #[.int .i64 0,.int .i64 0]) 2 16 RW hi8 zhn zho zhp rfl (by decide) v3 k _ (by simp[Act.eval,Act.put]) (K8.o.alloc _) ⟨wq.heap.size,0,none⟩ 1 1 [.int .i64 (IntKind.i64.wrap yb),.int .i64 (IntKind.i64.wrap ya)] (by simp[Act.eval,Act.put]) rfl (lF (aA.new wq 53 _)) (Ow _ _) (by omega) (by unfold maxLen;omega) (by omega) (by have:=zh.o.size;simp;omega) _ rfl ?_;intro g7 k7 w3 bQ cF _ _;have YD:Hid (w3.ownsRow wo.heap.size 53 2 (.slice (some ⟨g7,0,none⟩) (k+1) k7) (k+1) (((b.aL.reverse.take k).map (Ey b.ptz.length)).flatMap vQ++[.int .i64 yb,.int .i64 ya])):=(by have h:=bQ;rw[HWY.o.1,HWY.o.2]at h;exact h)
       have Xz:Hid (aA w3 w1.heap.size 26 #[.int .i64 b.ak,.int .i64 b.ah,v2,v3,.slice none 0 0]):=(cF.block _ (by have:=GQ.o.lt;simp;omega) (λe=>by have h1:=dD K8.o _ e.symm;have h2:=Ut.o;omega)).trans ((aa.alloc [] wq _).box GQ.o (by simp));have Pg:Hid (aa [w1.heap.size] wo w3):=aa.grow (zh.o.cU _) cF (λi hi=>dD K8.o i hi);have y5:=Xz.o.cell 3 rfl;have yf5:=Xz.o.aH 3;clear bQ cF;refine hK.out _ _ (qD.o _ Pg.o) (λgA=>?_);clear hK K;try simp only[Act.put,zAU,zBH,zBG]
       refine tk 21 98 ?_;try simp only[Act.put,zAU,zBH,zBG]
       refine wpAnyH_ready (rs:=[22]) (by kernel_rfl) (by simp) ?_;refine AllReadyH.cons (o:=⟨none,_,_,_,_,_⟩) rfl (λK hK=>?_) AllReadyH.nil;go_simp;refine hK.out _ _ (qD.o _ (Pg.o.trans' (aa.set _ (by simp) _))) (λgA=>?_);clear hK K;try simp only[Act.put,zAU,zBH,zBG]
       refine wpAnyH_done (by kernel_rfl) ?_ _
      all_goals
       go_wp2_with fail
       go_round
       case rel=>
        refine⟨k+1,by omega,zBB (Value.int .i64) (by push_cast;omega),_,Xz.o.set 3 _,?_,Pg.o.trans' (aa.set _ (by simp) _)⟩;rw[ww av HX.o,zCJ,zCR,List.map_singleton,HYY.o];refine aJ YD.o λi hi=>Below.heap_setCell _ _ _ _ ?_;have h1:=dD YD.o i hi;have h2:=Ut.o;show i≠w1.heap.size;omega
       case measure=>simp[intOf]<;>omega
     .have e:k=b.aL.length:=by omega
      subst e;have Xy:(b.aL.length:Int)-1-(b.aL.length:Int)=-1:=by omega
      rw[Xy];have f7:=RG.o;have z4:=(f7.box B3.o (by have:=Ut.o;simp;omega)).cell 4 rfl;obtain⟨ta,tc,Tk,hte⟩:=HB0.o.Ov;have htq:=Tk.eq;cases htq;have Yl:Hid (bT w (.slice a4 b.aX.length c4) b.aX.length a4 c4/\_):=⟨Tk,hte⟩
      obtain⟨i9,hi9,zhs,zht,zhu⟩:=info_parts Xm;have zoc:=Tk.le;have X6:=HV.o.many;obtain⟨wb,rfl⟩:∃wb,wb=wr:=⟨wr,rfl⟩
      have B5:Hid (aA wb w.heap.size 26 #[.int .i64 b.ak,.int .i64 b.ah,.slice a2 b.ptz.length c2,.slice a3 b.aL.length c3,.slice a4 b.aX.length c4]):=f7.box B3.o (by have:=Ut.o;simp;omega);have Uu:Hid (w.heap.size<w1.heap.size/\w1.heap.size<wb.heap.size):=⟨Ox.o.1,HO4.o.lt⟩
      have XA:Hid (wb.ownsRow wo.heap.size 53 2 v3 b.aL.length ((b.aL.reverse.map (Ey b.ptz.length)).flatMap vQ)):=by
       have h:=HR4.o;rwa [zFV (by simp)]at h
      have NZ:Hid (wb.ownsRow A2.heap.size 37 6 v2 b.ptz.length (L.flatMap rS)):=aJ jA.o λi hi=>f7.block i (aI jA.o i hi).2 (by have h1:=(aI jA.o i hi).1;have h2:=Ox.o;simp;omega);clear Tk hte f7;go_upto_region 15 with fail
      clear z4;go_loopw [9] (λi wr=>∃k:Nat,k<=b.aX.length/\i=.int .i64 ((b.aX.length:Int)-1-k)/\Hid (Rv3 wb b w1.heap.size v2 v3 k wr)) (λi _=>(intOf i+1).toNat)
      case atStart=>exact⟨0,zAM _,by simp,_,[],HO4.o,World.ownsRow_nil _ _ _ _,rfl,(λx h=>by cases h),aa.refl _ _⟩
      case round=>
       obtain⟨k,hk,rfl,v4,L4,eQ,pz,te,LG,f7⟩:=hrel;have Xz:=hid eQ;have YD:=hid pz;have HL5:=hid te;have HI5:=hid LG;have Pg:=hid f7;have YE:Hid (Below w.heap.size w wr):=YC.o.trans (f7.below (by have:=Uu.o;simp;omega) YC.o.size);have y4:=eQ.cell 4 rfl;have yf:=eQ.aH 4;clear eQ pz te LG f7;by_cases av:k<b.aX.length
       .obtain⟨j,hj⟩:=ex1 (b.aX.length-1-k);have Pk:j<b.aX.length:=by omega
        obtain⟨⟨lb,lf,sp⟩,x,rfl,hx,⟨vf,e0,ef⟩,e1,e2⟩:=Yl.o.1.elem Yl.o.2 Pk;obtain rfl:sp=none:=e0.1;have HX:Hid (b.aX[b.aX.length-1-k]?=some x):=by unfold Hid;rw[hj];exact hx
        have j7:=(HV.o.aX j x Pk hx).Nr;have Rk:=hid j7;have HEF:=hid ef;obtain⟨fa,fn,fc,rfl⟩:=pu ef;have XB:(b.aX.length:Int)-1-k=(j:Int):=by omega
        have OS:(j:Int)<(b.aX.length:Int):=by omega
        have Yt:x.ptz.length<=100:=by have h:=j7.len;omega
        have HXR:Hid (∀(i:Nat) (y:Int),x.ptz[i]?=some y->0<=y/\y<=100):=λi y hy=>by have h:=j7.range i y (zAT.1 hy).1 hy;omega
        have Oy:b.ptz.length<=100:=by omega
        rw[XB]
        have qD:Hid (∀X:nq,aa [w1.heap.size] wb X->(X.cell? ⟨w.heap.size,4,none⟩=some (.slice (some ⟨lb,lf,none⟩) b.aX.length c4)/\X.cell? ⟨lb,lf+j*3,none⟩=some (.slice fa fn fc)/\X.cell? ⟨lb,lf+j*3+1,none⟩=some (.int .i64 x.lo)/\X.cell? ⟨lb,lf+j*3+2,none⟩=some (.int .i64 x.hi))/\aa [w1.heap.size] wb X):=λX hX=>by
         have Bw:Below w.heap.size w X:=YC.o.trans (hX.below (by have:=Uu.o;simp;omega) YC.o.size);have p1:=(e1.later (Kp.of Bw)).2;have p2:=(e2.later (Kp.of Bw)).2;simp only[<-zBD]at p1 p2;exact⟨⟨(hX.box B5.o (by have:=Uu.o;simp;omega)).cell 4 rfl,(e0.later (Kp.of Bw)).2,p1,p2⟩,hX⟩
        have IG:Hid (∀X:nq,((X.cell? ⟨w.heap.size,4,none⟩=some (.slice (some ⟨lb,lf,none⟩) b.aX.length c4)/\X.cell? ⟨lb,lf+j*3,none⟩=some (.slice fa fn fc)/\X.cell? ⟨lb,lf+j*3+1,none⟩=some (.int .i64 x.lo)/\X.cell? ⟨lb,lf+j*3+2,none⟩=some (.int .i64 x.hi))/\aa [w1.heap.size] wb X)->aa [w1.heap.size] wb X):=λ_ h=>h.2;clear hx e0 e1 e2 ef hj j7;go_upto_region 17 with fail
        have zh:Hid (aa [w1.heap.size] wb wr.drew):=Pg.o.trans' (aa.of (Below.drewN (Below.refl _ wr) 1));have GQ:Hid (aA wr.drew w1.heap.size 26 #[.int .i64 b.ak,.int .i64 b.ah,v2,v3,v4]):=Xz.o;have K8:Hid (wr.drew.ownsRow wb.heap.size 56 3 v4 k (L4.flatMap rT)):=aJ (W':=wr.drew) YD.o λ_ _=>rfl;have HIq:Hid (∀x∈L4,wr.drew.ownsRow wb.heap.size 3 1 x.2 x.1.ptz.length (x.1.ptz.map (Value.int .i64))):=λx hx=>aJ (W':=wr.drew) (HI5.o x hx) λ_ _=>rfl;refine wp_region_held_drew (S:=λX:nq=>(X.cell? ⟨w.heap.size,4,none⟩=some (.slice (some ⟨lb,lf,none⟩) b.aX.length c4)/\X.cell? ⟨lb,lf+j*3,none⟩=some (.slice fa fn fc)/\X.cell? ⟨lb,lf+j*3+1,none⟩=some (.int .i64 x.lo)/\X.cell? ⟨lb,lf+j*3+2,none⟩=some (.int .i64 x.hi))/\aa [w1.heap.size] wb X) (by kernel_rfl) (qD.o _ zh.o) (λgA=>?_);generalize wr.drew=wq at zh GQ K8 HIq gA⊢;have y4:=GQ.o.cell 4 rfl;refine tk 0 107 ?_;refine tk 2 109 ?_;refine tk 3 110 ?_;refine tk 4 111 ?_;refine tk 5 112 ?_;refine tk 6 113 ?_;refine tk 7 114 ?_;refine tk 8 115 ?_;refine tk 10 117 ?_;refine tk 11 118 ?_;refine tk 12 119 ?_;refine tk 13 120 ?_;refine tk 14 121 ?_;refine tk 15 122 ?_;try simp only[Act.put,zAU,zBH,zBG]
        refine wpAnyH_ready (rs:=[1,9]) (by kernel_rfl) (by simp) ?_;refine AllReadyH.cons (o:=⟨some 108,_,_,_,_,_⟩) rfl (λK hK=>?_) (AllReadyH.cons (o:=⟨some 116,_,_,_,_,_⟩) rfl (λK hK=>?_) AllReadyH.nil);focus (go_simp;refine hK.out _ _ (qD.o _ zh.o) (λgA=>?_);clear hK K;(try simp only[Act.put,zAU,zBH,zBG]);refine wpAnyH_ready (rs:=[9]) (by kernel_rfl) (by simp) ?_;refine AllReadyH.cons (o:=⟨some 116,_,_,_,_,_⟩) rfl (λK hK=>?_) AllReadyH.nil)
        all_goals
         go_simp;go_at_call 26
         have hh:=zh.o;refine(wl _ (.slice fa fn fc) x.ptz b.ptz.length Oy (HEF.o.later (Kp.of (YC.o.trans (hh.below (by have:=Uu.o;simp;omega) YC.o.size)))) HXR.o Yt).mono ?_;rintro e w6 ⟨⟨u,rfl,hu⟩,Ew⟩;obtain⟨ua,uc,rfl⟩:=fM hu;have xx:=hid Ew;have YF:Hid (aa [w1.heap.size] wb w6):=hh.trans' (aa.of Ew);have YG:Hid (w6.ownsRow wb.heap.size 3 1 (.slice ua x.ptz.length uc) x.ptz.length ((iN b.ptz.length x.ptz).map (Value.int .i64))):=jb hu hh.size;have HO6:=hidb GQ xx.o;have HR6:Hid (w6.ownsRow wb.heap.size 56 3 v4 k (L4.flatMap rT)):=aJ K8.o λi hi=>xx.o.block i (aI K8.o i hi).2;have HI6:Hid (∀x∈L4,w6.ownsRow wb.heap.size 3 1 x.2 x.1.ptz.length (x.1.ptz.map (Value.int .i64))):=λx hx=>aJ (HIq.o x hx) λi hi=>xx.o.block i (aI (HIq.o x hx) i hi).2;have y6:=HO6.o.cell 4 rfl;have y6a:∀o:Obj,(w6.alloc o).cell? ⟨w1.heap.size,4,none⟩=some v4:=λo=>((aa.alloc [] w6 o).box HO6.o (by simp)).cell 4 rfl;clear hu Ew hh;go_wp2_with fail
        all_goals refine hK.out _ _ (qD.o _ YF.o) (λgA=>?_)
        all_goals clear hK K
        all_goals try simp only[Act.put,zAU,zBH,zBG]
        all_goals
         refine tk 16 123 ?_;try simp only[Act.put,zAU,zBH,zBG]
        focus (refine wpAnyH_ready (rs:=[17]) (by kernel_rfl) (by simp) ?_;refine AllReadyH.cons (o:=⟨some 124,_,_,_,_,_⟩) rfl (λK hK=>?_) AllReadyH.nil)
        rotate_left;focus (refine wpAnyH_ready (rs:=[1,17]) (by kernel_rfl) (by simp) ?_;refine AllReadyH.cons (o:=⟨some 108,_,_,_,_,_⟩) rfl (λK hK=>?_) (AllReadyH.cons (o:=⟨some 124,_,_,_,_,_⟩) rfl (λK hK=>?_) AllReadyH.nil))
        rotate_left 2;all_goals go_simp
        rotate_left;focus (refine hK.out _ _ (qD.o _ YF.o) (λgA=>?_);clear hK K;(try simp only[Act.put,zAU,zBH,zBG]);refine wpAnyH_ready (rs:=[17]) (by kernel_rfl) (by simp) ?_;refine AllReadyH.cons (o:=⟨some 124,_,_,_,_,_⟩) rfl (λK hK=>?_) AllReadyH.nil;go_simp)
        rotate_left;focus (refine hK.out _ _ (qD.o _ (YF.o.cU _)) (λgA=>?_);clear hK K;(try simp only[Act.put,zAU,zBH,zBG]);refine wpAnyH_ready (rs:=[1]) (by kernel_rfl) (by simp) ?_;refine AllReadyH.cons (o:=⟨some 108,_,_,_,_,_⟩) rfl (λK hK=>?_) AllReadyH.nil;go_simp)
        all_goals refine hK.out _ _ (qD.o _ (YF.o.cU _)) (λgA=>?_)
        all_goals clear hK K
        all_goals try simp only[Act.put,zAU,zBH,zBG]
        all_goals
         refine wpAnyH_ready (rs:=[18]) (by kernel_rfl) (by simp) ?_;refine AllReadyH.cons (o:=⟨some 125,_,_,_,_,_⟩) rfl (λK hK=>?_) AllReadyH.nil;refine step_append_lies _ rfl (.tmp 108) (.tmp 124) 24 rfl wb.heap.size 56 i9 (.agg #[.slice none 0 0,.int .i64 0,.int .i64 0]) 3 40 RX hi9 zhs zht zhu rfl (by decide) v4 k _ (by simp[Act.eval,Act.put]) (HR6.o.alloc _) ⟨w6.heap.size,0,none⟩ 1 1 [.slice ua x.ptz.length uc,.int .i64 x.lo,.int .i64 x.hi] (by simp[Act.eval,Act.put]) rfl (lF (aA.new w6 56 _)) (K7 _ _ _ _ _) (by omega) (by unfold maxLen;omega) (by omega) (by have:=YF.o.size;simp;omega) _ rfl ?_;intro g7 k7 w7 bQ cF _ _;have HR7:=hid bQ;have HO7:Hid (aA w7 w1.heap.size 26 #[.int .i64 b.ak,.int .i64 b.ah,v2,v3,v4]):=(cF.block _ (by have:=HO6.o.lt;simp;omega) (λe=>by have h1:=dD HR6.o _ e.symm;have h2:=Uu.o;omega)).trans ((aa.alloc [] w6 _).box HO6.o (by simp));have Oi:Hid (aa [w1.heap.size] wb w7):=aa.grow (YF.o.cU _) cF (λi hi=>dD HR6.o i hi);have HI7:Hid (∀x∈L4,w7.ownsRow wb.heap.size 3 1 x.2 x.1.ptz.length (x.1.ptz.map (Value.int .i64))):=λx hx=>aJ ((HI6.o x hx).alloc _) λi hi=>cF.block i (aI ((HI6.o x hx).alloc _) i hi).2 λe=>zg (HI6.o x hx) HR6.o (by decide) i hi e.symm;have HU7:Hid (w7.ownsRow wb.heap.size 3 1 (.slice ua x.ptz.length uc) x.ptz.length ((iN b.ptz.length x.ptz).map (Value.int .i64))):=aJ (YG.o.alloc _) λi hi=>cF.block i (aI (YG.o.alloc _) i hi).2 λe=>zg YG.o HR6.o (by decide) i hi e.symm;have y7:=HO7.o.cell 4 rfl;have yf7:=HO7.o.aH 4;clear bQ cF;refine hK.out _ _ (qD.o _ Oi.o) (λgA=>?_);clear hK K;try simp only[Act.put,zAU,zBH,zBG]
         refine tk 19 126 ?_;try simp only[Act.put,zAU,zBH,zBG]
         refine wpAnyH_ready (rs:=[20]) (by kernel_rfl) (by simp) ?_;refine AllReadyH.cons (o:=⟨none,_,_,_,_,_⟩) rfl (λK hK=>?_) AllReadyH.nil;go_simp;refine hK.out _ _ (qD.o _ (Oi.o.trans' (aa.set _ (by simp) _))) (λgA=>?_);clear hK K;try simp only[Act.put,zAU,zBH,zBG]
         refine wpAnyH_done (by kernel_rfl) ?_ _
        all_goals
         go_wp2_with fail
         go_round
         case rel=>
          refine⟨k+1,by omega,zBB (Value.int .i64) (by push_cast;omega),_,L4++[(Xv b.ptz.length x,.slice ua x.ptz.length uc)],HO7.o.set 4 _,?_,?_,?_,Oi.o.trans' (aa.set _ (by simp) _)⟩
          .rw[zCR];refine aJ HR7.o λi hi=>Below.heap_setCell _ _ _ _ ?_;have h1:=dD HR7.o i hi;have h2:=Uu.o;show i≠w1.heap.size;omega
          .rw[zCJ,HL5.o,ww av HX.o,zCJ];rfl
          .intro y hy;have h2:=Uu.o;rcases zCH.1 hy with hy|hy
           .refine aJ (HI7.o y hy) λi hi=>Below.heap_setCell _ _ _ _ ?_;have h1:=dD (HI7.o y hy) i hi;show i≠w1.heap.size;omega
           .obtain rfl:=zCF.1 hy;show(World.setCell w7 _ _).ownsRow _ 3 1 _ (iN b.ptz.length x.ptz).length ((iN b.ptz.length x.ptz).map (Value.int .i64));rw[lL];refine aJ HU7.o λi hi=>Below.heap_setCell _ _ _ _ ?_;have h1:=dD HU7.o i hi;show i≠w1.heap.size;omega
         case measure=>simp[intOf]<;>omega
       .have e:k=b.aX.length:=by omega
        subst e;have XB:(b.aX.length:Int)-1-(b.aX.length:Int)=-1:=by omega
        rw[XB]
        have HZ:Hid (∀X:nq,Below wr.heap.size wr X->(X.cell? ⟨w.heap.size,0,none⟩=some (.int .i64 b.ak)/\X.cell? ⟨w.heap.size,1,none⟩=some (.int .i64 b.ah)/\X.cell? ⟨w.heap.size,2,none⟩=some (.slice a2 b.ptz.length c2)/\X.cell? ⟨w.heap.size,3,none⟩=some (.slice a3 b.aL.length c3)/\X.cell? ⟨w.heap.size,4,none⟩=some (.slice a4 b.aX.length c4))/\X.cell? ⟨w1.heap.size,0,none⟩=some (.int .i64 b.ak)/\X.cell? ⟨w1.heap.size,1,none⟩=some (.int .i64 b.ah)/\X.cell? ⟨w1.heap.size,2,none⟩=some v2/\X.cell? ⟨w1.heap.size,3,none⟩=some v3/\X.cell? ⟨w1.heap.size,4,none⟩=some v4):=λX hX=>by
         have f7:aa [w1.heap.size] wb X:=Pg.o.trans' (aa.of hX);have BX:=f7.box B5.o (by have:=Uu.o;simp;omega);have OX:=Xz.o.below hX Xz.o.lt;exact⟨⟨BX.cell 0 rfl,BX.cell 1 rfl,BX.cell 2 rfl,BX.cell 3 rfl,BX.cell 4 rfl⟩,OX.cell 0 rfl,OX.cell 1 rfl,OX.cell 2 rfl,OX.cell 3 rfl,OX.cell 4 rfl⟩
        have LA:Hid (∀X:nq,Below wr.heap.size wr X->ar X (.agg #[.int .i64 b.ak,.int .i64 b.ah,.slice a2 b.ptz.length c2,.slice a3 b.aL.length c3,.slice a4 b.aX.length c4]) b):=λX hX=>HB0.o.later (Kp.of (YE.o.trans (hX.mono YE.o.size)));have N9:Hid (∀X:nq,Below wr.heap.size wr X->jh X):=λX hX=>HC.o.later (YE.o.trans (hX.mono YE.o.size))
        have XC:Hid (∀X:nq,Below wr.heap.size wr X->ar X (.agg #[.int .i64 b.ak,.int .i64 b.ah,v2,v3,v4]) (aT b)):=λX hX=>by
         have f7:aa [w1.heap.size] wb X:=Pg.o.trans' (aa.of hX);have te:L.length=b.ptz.length:=by have:=zBB List.length HL1.o;simpa using this
         have TZ:L4.map Prod.fst=b.aX.reverse.map (Xv b.ptz.length):=by rw[HL5.o,zFV (by simp)]
         have zhz:L4.length=b.aX.length:=by have:=zBB List.length TZ;simpa using this
         have h2:=dA.vR (w:=X) (L:=L) (v:=v2) (B:=A2.heap.size) (e:=37) (by rw[te];exact aJ NZ.out λi hi=>f7.block i (aI NZ.out i hi).2 (by have h1:=(aI NZ.out i hi).1;have h2:=Ox.o;simp;omega)) (λx hx=>(R7.o x hx).later (Kp.of (YE.o.trans (hX.mono YE.o.size))));have h3:=dy.vR (w:=X) (l:=b.aL.reverse.map (Ey b.ptz.length)) (v:=v3) (B:=wo.heap.size) (e:=53) (by rw[zDM,List.length_reverse];exact aJ XA.out λi hi=>f7.block i (aI XA.out i hi).2 (by have h1:=(aI XA.out i hi).1;have h2:=Ut.o;simp;omega));have h4:=dB.vR (w:=X) (L:=L4) (v:=v4) (B:=wb.heap.size) (e:=56) (by rw[zhz];exact aJ YD.o λi hi=>hX.block i (aI YD.o i hi).2) (λx hx=>ao.eS (aJ (HI5.o x hx) λi hi=>hX.block i (aI (HI5.o x hx) i hi).2));rw[HL1.o]at h2;rw[TZ]at h4;exact⟨v2,v3,v4,rfl,h2,h3,h4⟩
        have HB:Hid (Below wr.heap.size wr wr):=Below.refl _ _;have hZ:=HZ.o wr HB.o;have hP1:=λX hX=>K4 HV.o HS.o (LA.o X hX) (XC.o X hX) (N9.o X hX);have hP2:=λX hX=>Ot HV.o HS.o (LA.o X hX) (XC.o X hX) (N9.o X hX);have hP3:=λX hX=>K5 HV.o HS.o (LA.o X hX) (XC.o X hX) (N9.o X hX);have hP4:=λX hX=>Ou HV.o HS.o (LA.o X hX) (XC.o X hX) (N9.o X hX);have hP5:=λX hX=>GO HV.o HS.o (LA.o X hX) (XC.o X hX) (N9.o X hX);have hP6:=λX hX=>Eh HV.o HS.o (LA.o X hX) (XC.o X hX) (N9.o X hX);obtain⟨c1,Ya⟩:=ex1 (nt b);obtain⟨c3',hc3⟩:∃c,oA b=c:=⟨_,rfl⟩
        obtain⟨c4',hc4⟩:∃c,fw b [dX b,cG b] (dX b)=c:=⟨_,rfl⟩
        obtain⟨c5,hc5⟩:=ex1 (fw b [cG b] (cG b));obtain⟨c6,hc6⟩:=ex1 (gT b);obtain⟨sp,mt⟩:=ex1 (bP b);obtain⟨so,hso⟩:=ex1 (aR b 0);simp only[Ya,hc3,hc4,hc5,hc6,mt,hso]at hP1 hP3 hP4 hP5 hP6;have HSO:=hid hso;have HQ1:=(show Hid _ from hP1)
        have HQ2:=(show Hid _ from hP2)
        have HQ3:=(show Hid _ from hP3)
        have HQ4:=(show Hid _ from hP4)
        have HQ5:=(show Hid _ from hP5)
        have HQ6:=(show Hid _ from hP6)
        clear hP1 hP2 hP3 hP4 hP5 hP6 Ya hc3 hc4 hc5 hc6 mt hso y4 yf
        go_upto_region 33 with(
         (first
           |(go_at_call 27;(first|with_reducible refine(HQ1.o _ HB.o).1.mono ?_|with_reducible refine(HQ1.o _ HB.o).2.mono ?_);rintro e x ⟨rfl,Ez⟩)
           |(go_at_call 11;(first|with_reducible refine(HQ3.o _ HB.o).1.mono ?_|with_reducible refine(HQ3.o _ HB.o).2.mono ?_);rintro e x ⟨rfl,Ez⟩)
           |(go_at_call 10;(first|with_reducible refine(HQ6.o _ HB.o).1.mono ?_|with_reducible refine(HQ6.o _ HB.o).2.mono ?_);rintro e x ⟨rfl,Ez⟩)
           |(go_at_call 16;(first|with_reducible refine(HQ4.o _ HB.o).1.mono ?_|with_reducible refine(HQ4.o _ HB.o).2.mono ?_);rintro e x ⟨⟨ux,rfl⟩,Ez⟩)
           |(go_at_call 19;(first|with_reducible refine(HQ5.o _ HB.o).1.mono ?_|with_reducible refine(HQ5.o _ HB.o).2.mono ?_);rintro e x ⟨⟨ux,rfl⟩,Ez⟩)
           |(go_at_call 28;(with_reducible refine(HQ2.o _ HB.o).2.mono ?_);rintro e x ⟨⟨u1,r1,rfl,Zn,sn⟩,Ez⟩;obtain rfl:=A9.eq NV.o sn;have HU1:Hid (ao x u1 r0):=Zn;clear Zn sn)
           |(go_at_call 28;(with_reducible refine(HQ2.o _ HB.o).1.mono ?_);rintro e x ⟨⟨u0,r0,rfl,hu0,ov⟩,Ez⟩;have HU0:Hid (ao x u0 r0):=hu0;have NV:Hid (A9 b r0):=ov;clear hu0 ov)
           |(go_at_call 18;refine(AY x u0 u1 r0 HU0.o HU1.o).mono ?_;rintro e x ⟨rfl,Ez⟩)
           |(go_at_call 13;refine(DI x _ b n1 HN.o (LA.o x HB.o) HV.o).mono ?_;rintro e x ⟨Hh,Ez⟩;have HRE:Hid (_\/_):=Hh;clear Hh))
         have HB:=HB.t Ez;(try have HU0:Hid (ao x u0 r0):=HU0.o.later (Kp.of Ez))
         (try have HU1:Hid (ao x u1 r0):=HU1.o.later (Kp.of Ez))
         clear Ez hZ;have hZ:=HZ.o x HB.o;try rcases HRE.o with⟨hM,rfl⟩|⟨o,ho,vl,rfl,Xa⟩)
        .go_wp2_with(go_at_call 9;refine(rY _).mono ?_;rintro e w6 ⟨rfl,_⟩)
         go_ret;rfl
        .have iS:=ik HV.o ho;have HMK:Hid (cO b o):=iS;have HVL:=hid Xa;have Bf:o.length<=100:=by have h:=iS.len;omega
         have HOR:Hid (∀(i:Nat) (y:Int),o[i]?=some y->0<=y/\y<=100):=λi y hy=>by have h:=iS.range i y (zAT.1 hy).1 hy;omega
         have Oy:b.ptz.length<=100:=by omega
         obtain⟨t0,t1,tH⟩:=K3 b o
         have HT:Hid (∀X,Below wr.heap.size wr X->∀u,(ao X u o->Calls ZP 29 #[(.agg #[.int .i64 b.ak,.int .i64 b.ah,.slice a2 b.ptz.length c2,.slice a3 b.aL.length c3,.slice a4 b.aX.length c4]),u] X (bK X (.tuple #[.agg #[.int .i64 t0,.int .i64 t1],.int .i64 so])))/\(ao X u (iN b.ptz.length o)->Calls ZP 29 #[(.agg #[.int .i64 b.ak,.int .i64 b.ah,v2,v3,v4]),u] X (bK X (.tuple #[.agg #[.int .i64 t0,.int .i64 t1],.int .i64 so])))):=λX hX u=>by
          have h:=GP HV.o HS.o (LA.o X hX) (XC.o X hX) (N9.o X hX) iS tH u;rwa [HSO.o]at h
         clear ho Xa iS tH HRE
         go_upto_region 36 with(go_at_call 29
                                refine((HT.o x HB.o vl).1 HVL.o).mono ?_;rintro e x15 ⟨rfl,Ez⟩;have Oz:=HB.t Ez;have zhI:Hid (ao x15 vl o):=HVL.o.later (Kp.of Ez);clear Ez;clear hZ;have hZ:=HZ.o x15 Oz.o)
         obtain⟨nW,h16⟩:=ex1 (x15.alloc (.cells #[.int .i64 t0,.int .i64 t1] 34));rw[h16];have D16:Hid (aA nW x15.heap.size 34 #[.int .i64 t0,.int .i64 t1]):=eC h16;have IV:Hid (Below wr.heap.size wr nW):=Oz.o.trans ((dM h16).below (by simp) Oz.o.size);have zhJ:Hid (∀X,Below nW.heap.size nW X->ao X vl o):=λX hX=>zhI.o.later (Kp.of (((dM h16).below (by simp) (zAB _)).trans (hX.mono (by have:=AQ h16;omega))));have XD:Hid (∀W:nq,Below nW.heap.size nW W->(W.cell? ⟨w1.heap.size,0,none⟩=some (.int .i64 b.ak)/\W.cell? ⟨w1.heap.size,1,none⟩=some (.int .i64 b.ah)/\W.cell? ⟨w1.heap.size,2,none⟩=some v2/\W.cell? ⟨w1.heap.size,3,none⟩=some v3/\W.cell? ⟨w1.heap.size,4,none⟩=some v4)/\Below nW.heap.size nW W):=λW hW=>⟨(HZ.o W (IV.o.trans (hW.mono IV.o.size))).2,hW⟩
         have zbU:Hid (∀W:nq,((W.cell? ⟨w1.heap.size,0,none⟩=some (.int .i64 b.ak)/\W.cell? ⟨w1.heap.size,1,none⟩=some (.int .i64 b.ah)/\W.cell? ⟨w1.heap.size,2,none⟩=some v2/\W.cell? ⟨w1.heap.size,3,none⟩=some v3/\W.cell? ⟨w1.heap.size,4,none⟩=some v4)/\Below nW.heap.size nW W)->Below nW.heap.size nW W):=λ_ h=>h.2;clear hZ;go_cut [13,41]from 282 (λs p wx=>s=.int .i64 so/\∃g,p=ptr g/\Hid (aA wx g 34 #[.int .i64 t0,.int .i64 t1])/\Hid (Below nW.heap.size nW wx))
         case first=>
          go_region_held3 (λW:nq=>(W.cell? ⟨w1.heap.size,0,none⟩=some (.int .i64 b.ak)/\W.cell? ⟨w1.heap.size,1,none⟩=some (.int .i64 b.ah)/\W.cell? ⟨w1.heap.size,2,none⟩=some v2/\W.cell? ⟨w1.heap.size,3,none⟩=some v3/\W.cell? ⟨w1.heap.size,4,none⟩=some v4)/\Below nW.heap.size nW W)
           (first
             |with_reducible exact XD.o _ AM.o
             |with_reducible exact XD.o _ xx.o
             |with_reducible exact XD.o _ (Oi.o _ _)
             |with_reducible exact XD.o _ (AM.o.alloc AM.o.size _)
             |with_reducible exact XD.o _ (xx.o.alloc xx.o.size _)
             |exact XD.o _ (Below.drewN (Below.refl nW.heap.size nW) 1)
             |exact XD.o _ (Below.drewN ((Below.refl nW.heap.size nW).alloc (zAB _) _) 1)
             |fail)
           (first
             |(go_at_call 26
               have hh:=zbU.o _ (by assumption);refine(wl _ vl o b.ptz.length Oy (zhJ.o _ hh) HOR.o Bf).mono ?_;rintro e w6 ⟨⟨u,rfl,hu⟩,Ew⟩;have xx:Hid (Below nW.heap.size nW w6):=hh.trans (Ew.mono hh.size);have YG:Hid (ao w6 u (iN b.ptz.length o)):=ao.eS (by rw[lL];exact hu);(first|(have HZ6:Hid (aA w6 nW.heap.size 34 #[.int .i64 0,.int .i64 0]):=(aA.new (nW.drewN 1) 34 #[.int .i64 0,.int .i64 0]).below Ew (by simp))|skip)
               clear hu Ew hh)
             |(go_at_call 29
               have hh:=zbU.o _ (by assumption);refine((HT.o _ (IV.o.trans (hh.mono IV.o.size)) u).2 (by first|exact YG.o|exact YG.o.later (Kp.of ((Below.refl _ _).alloc (zAB _) _)))).mono ?_;rintro e w7 ⟨rfl,Gw⟩;have AM:Hid (Below nW.heap.size nW w7):=hh.trans (Gw.mono hh.size)
               (first
                 |(have Pm:Hid (aA w7 nW.heap.size 34 #[.int .i64 0,.int .i64 0]):=HZ6.o.below Gw HZ6.o.lt
                   have Oi:Hid (∀a c,Below nW.heap.size nW ((w7.setCell ⟨nW.heap.size,0,none⟩ a).setCell ⟨nW.heap.size,1,none⟩ c)):=(λa c=>(AM.o.setCell (zAB _) _).setCell (zAB _) _)
                   have u0':=Pm.o.cell 0 rfl;have u1':=Pm.o.cell 1 rfl;have f0:=Pm.o.aH 0;have f1:=Pm.o.aH 1)
                 |(have Pm:Hid (aA w7 w6.heap.size 34 #[.int .i64 0,.int .i64 0]):=(aA.new w6 34 #[.int .i64 0,.int .i64 0]).below Gw (by simp)
                   have Oi:Hid (∀a c,Below nW.heap.size nW ((w7.setCell ⟨w6.heap.size,0,none⟩ a).setCell ⟨w6.heap.size,1,none⟩ c)):=(λa c=>(AM.o.setCell xx.o.size _).setCell xx.o.size _)
                   have u0':=Pm.o.cell 0 rfl;have u1':=Pm.o.cell 1 rfl;have f0:=Pm.o.aH 0;have f1:=Pm.o.aH 1)
                 |skip)
               clear Gw hh))
          all_goals go_wp2_with fail
          all_goals go_meet
          all_goals
           first
            |exact⟨rfl,_,rfl,(Pm.o.set 0 _).set 1 _,Oi.o _ _⟩
            |exact⟨rfl,_,rfl,aA.new w7 34 _,AM.o.alloc AM.o.size _⟩
         case rest=>
          obtain⟨rfl,g9,rfl,HG9,HBc⟩:=hcut;have HD9:=D16.o.below HBc.o D16.o.lt;have q0:=HG9.o.cell 0 rfl;have q1:=HG9.o.cell 1 rfl;have q2:=HD9.cell 0 rfl;have q3:=HD9.cell 1 rfl;have hG:=KL;go_wp2_with(go_at_call 9;refine(rY _).mono ?_;rintro e w8 ⟨rfl,_⟩)
          go_ret;rfl
end Go.Proofs.Cz
namespace Go.Proofs.Cz
open Go.Conc Go.aC
def S1 (n:Nat):Bool:=(Nat.blt n 196&&!([0,1,2,9,86,167,168,169,170,171,172,173,174,175,176,177,178,179,180,181,182,191,192,193].contains n))||Nat.beq n JK||Nat.beq n (JK+10)
def XE:bz ZP:=λt i v h1 h2=>Cw.i6 t i v h1 h2
def OA:aS ZP:=λt i u h=>Cw.eh t i u h
noncomputable def qn (lo n:Nat):Bool:=(List.range n).all λi=>!S1 (lo+i)||Nat.beq (lo+i) 30||(match Tryz.funcs[lo+i]? with
 |some fn=>(match fn.body with|some c=>codeOk ZP S1 c&&!(fn.name== "runtime.NumGoroutine")|none=>false)
 |none=>false)
def ok0:qn 0 40=true:=by kernel_rfl
def ok1:qn 40 60=true:=by kernel_rfl
def ok2:qn 100 95=true:=by kernel_rfl
def uV {lo n i:Nat} (h:qn lo n=true) (h1:lo<=i) (h2:i<lo+n) (hs:S1 i=true) (si:i≠30):∃fn c,Tryz.funcs[i]? =some fn/\fn.body=some c/\codeOk ZP S1 c=true/\fn.name≠ "runtime.NumGoroutine" :=by
 have:=zCD.1 h (i-lo) (by simp;omega);rw[show lo+(i-lo)=i by omega,hs,show Nat.beq i 30=false by cases hq:Nat.beq i 30 with|false=>rfl|true=>exact absurd (zAK hq) si]at this;simp only[zEI,zEB]at this;cases hf:Tryz.funcs[i]? with
 |none=>rw[hf]at this;cases this
 |some fn=>
  rw[hf]at this;simp only at this;cases wR:fn.body with
  |none=>rw[wR]at this;cases this
  |some c=>
   rw[wR]at this;simp only[zAE,zCL,zET]at this;exact⟨fn,c,rfl,wR,this.1,this.2⟩
def IW {f:Nat} (h:S1 f=true):f<196\/f=JK\/f=JK+10:=by
 simp only[S1,zBM,zAE]at h;rcases h with(⟨h,_⟩|h)|h
 .exact .inl (by simpa using h)
 .exact .inr (.inl (zAK h))
 .exact .inr (.inr (zAK h))
def Uv {f:Nat} (h1:196<=f) (h2:f≠JK) (h3:f≠JK+10):S1 f=false:=by
 cases h:S1 f with
 |false=>rfl
 |true=>rcases IW h with h|h|h<;>omega
def zi:ZP.funcs.size=195:=by rw[Tz.qr];unfold Tz.funcs;rw[zDU,zDU,Tz.size]
def wy:ZP.globals.size=1:=by kernel_rfl
def X1:Code->Code|.seq a _=>a|_=>.skip
def X2:Code->Code|.seq _ b=>b|_=>.skip
noncomputable def eP:Code:=(Tryz.f30.body).getD .skip
def K9:eP=.seq (X1 eP) (.seq (X1 (X2 eP)) (.seq (X1 (X2 (X2 eP))) (.seq (X1 (X2 (X2 (X2 eP)))) (X2 (X2 (X2 (X2 eP))))))):=rfl
def OB:Tz.cut (.refuse "") eP=.seq (X1 eP) (.seq (X1 (X2 eP)) (.seq (X1 (X2 (X2 eP))) (.seq (X1 (X2 (X2 (X2 eP)))) (.refuse "")))):=rfl
def Sz:(codeOk ZP S1 (X1 eP)&&codeOk ZP S1 (X1 (X2 eP))&&codeOk ZP S1 (X1 (X2 (X2 eP)))&&codeOk ZP S1 (X1 (X2 (X2 (X2 eP)))))=true:=by kernel_rfl
def zhK {H:Code->Code->Prop} (hn:∀a b,¬H a b):CR ZP S1 H (Tz.cut (.refuse "") eP) eP:=by
 have h:=Sz;simp only[zAE]at h;obtain⟨⟨⟨h1,h2⟩,h3⟩,h4⟩:=h;rw[OB];refine cast (zBB (CR ZP S1 H _) K9.symm) ?_;exact .seq (.same h1 (.inr hn)) (.seq (.same h2 (.inr hn)) (.seq (.same h3 (.inr hn)) (.seq (.same h4 (.inr hn)) (.refuse _ _ hn))))
def IX:Closed ZP Tryz.funcs S1 OU where
 i6:=XE
 eh:=OA
 YO:=λ_=>by kernel_rfl
 size:=by rw[zi,Tz.size]
 Bf:=λf hf=>by
  rw[zi,wy];refine⟨λ_=>?_,λ_ a b h=>h⟩;have hJ:JK=1000000:=rfl;rcases IW hf with h|h|h<;>refine Uv ?_ ?_ ?_<;>omega
 body:=λf hf=>by
  have hJ:JK=1000000:=rfl;rcases IW hf with h|h|h
  .by_cases h9:f=195
   .subst h9;exact .inl ⟨zAW (by rw[zi];omega),zAW (by rw[Tz.size];omega)⟩
   .by_cases si:f=30
    .subst si;exact .inr ⟨Tz.f30,Tryz.f30,_,eP,ZF30,Tryz.func30,rfl,rfl,zhK λ_ _ hh=>hh,by decide,by decide,rfl,rfl⟩
    obtain⟨fn,c,h1,h2,h3,h4⟩:∃fn c,Tryz.funcs[f]? =some fn/\fn.body=some c/\codeOk ZP S1 c=true/\fn.name≠ "runtime.NumGoroutine" :=by
     by_cases l1:f<40
     .exact uV ok0 (by omega) (by omega) hf si
     .by_cases l2:f<100
      .exact uV ok1 (by omega) (by omega) hf si
      .exact uV ok2 (by omega) (by omega) hf si
    have wz:9≠f:=λe=>by subst e;cases hf
    exact .inr ⟨fn,fn,c,c,(Tz.same f ⟨wz,Ne.symm si⟩).trans h1,h1,h2,h2,.same h3 (.inr λ_ _ hh=>hh),h4,h4,rfl,rfl⟩
  .exact .inl ⟨zAW (by rw[zi];omega),zAW (by rw[Tz.size];omega)⟩
  .exact .inl ⟨zAW (by rw[zi];omega),zAW (by rw[Tz.size];omega)⟩
def SA:S1 (ZP.funcs.size+ZP.globals.size)=false:=by rw[zi,wy];exact Uv (by omega) (by decide) (by decide)
def zbV:ae ZP Tryz.funcs=Tryz.prog:=rfl
end Go.Proofs.Cz
