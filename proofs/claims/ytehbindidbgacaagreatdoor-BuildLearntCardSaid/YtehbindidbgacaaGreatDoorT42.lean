/- A part. Conditions: none. -/
import Derived.Test.YtehbindidbgacaaGreatDoorT41
import Derived.Deep.RegionWith
set_option linter.all false
set_option maxHeartbeats 8000000
set_option maxRecDepth 100000
namespace Go.Proofs.Cz
open Go.RowKit
def Yi (w:World) (b:ap) (L:List (Nat->Int)) (e:Ending) (w':World):Prop:=
 (∃x0 x1 p2 n2 k2 p3 n3 k3 p4 n4 k4 s,e=.returned (.tuple #[.agg #[.int .i64 x0,.int .i64 x1,.slice p2 n2 k2,.slice p3 n3 k3,.slice p4 n4 k4],.int .i64 s])/\
   ((L=[]/\s=9/\Value.agg #[.int .i64 x0,.int .i64 x1,.slice p2 n2 k2,.slice p3 n3 k3,.slice p4 n4 k4]=.agg i7)\/(L≠ []/\s=0/\Hg w w' (.agg #[.int .i64 x0,.int .i64 x1,.slice p2 n2 k2,.slice p3 n3 k3,.slice p4 n4 k4]) b)))/\Below w.heap.size w w'
theorem tO (w:World) (v:Value) (b:ap) (hb:ar w v b) (hv:Valid b) (hc:iv w):Calls ZP 73 #[v] w (Yi w b (aq b (ai b))):=by
 have HB:=hid hb;have HV:Hid (Valid b):=hv;have HC:Hid (iv w):=hc;have AO:Hid (kE w v (ai b)):=eP hb hv;obtain⟨a2,c2,a3,c3,a4,c4,rfl⟩:=hb.dA
 obtain⟨L2,TA,hR2,Z7⟩:∃L2:List (Part×Value),L2.map Prod.fst=b.parts/\Raw w (.slice a2 b.parts.length c2) b.parts.length 6 (L2.flatMap cL)/\∀x∈L2,am w x.2 x.1.fits:=by
  obtain⟨_,_,_,e,h2,_,_⟩:=hb;simp only[Value.agg.injEq,zBU,zBR,zCB,zDB]at e;obtain⟨rfl,_,_⟩:=e;obtain⟨L2,h1,h3,h4⟩:=h2.raw;exact⟨L2,h1,by have:=zBK List.length h1;rw[zBY]at this;rw[this]at h3;exact h3,h4⟩
 obtain⟨L4,Qo,Qp,Qq⟩:∃L4:List (bH×Value),L4.map Prod.fst=b.aa/\Raw w (.slice a4 b.aa.length c4) b.aa.length 3 (L4.flatMap cj)/\∀x∈L4,am w x.2 x.1.parts:=by
  obtain⟨_,_,_,e,_,_,h2⟩:=hb;simp only[Value.agg.injEq,zBU,zBR,zCB,zDB]at e;obtain⟨_,_,rfl⟩:=e;obtain⟨L2,h1,h3,h4⟩:=h2.raw;exact⟨L2,h1,by have:=zBK List.length h1;rw[zBY]at this;rw[this]at h3;exact h3,h4⟩
 have hR3:Raw w (.slice a3 b.apart.length c3) b.apart.length 2 (b.apart.flatMap ma):=by
  obtain⟨_,_,_,e,_,h2,_⟩:=hb;simp only[Value.agg.injEq,zBU,zBR,zCB,zDB]at e;obtain⟨_,rfl,_⟩:=e;exact h2.raw
 have H2:Hid (L2.map Prod.fst=b.parts/\Raw w (.slice a2 b.parts.length c2) b.parts.length 6 (L2.flatMap cL)/\∀x∈L2,am w x.2 x.1.fits):=⟨TA,hR2,Z7⟩
 have H3:=hid hR3;have H4:Hid (L4.map Prod.fst=b.aa/\Raw w (.slice a4 b.aa.length c4) b.aa.length 3 (L4.flatMap cj)/\∀x∈L4,am w x.2 x.1.parts):=⟨Qo,Qp,Qq⟩
 obtain⟨A1,aV⟩:=ex1 (w.alloc (.cells #[.int .i64 b.ac,.int .i64 b.places,.slice a2 b.parts.length c2,.slice a3 b.apart.length c3,.slice a4 b.aa.length c4] 26));obtain⟨A2,bc⟩:=ex1 (A1.alloc (.cells i7 26));have cS:=dt aV;have B1:Hid (aA A2 w.heap.size 26 #[.int .i64 b.ac,.int .i64 b.places,.slice a2 b.parts.length c2,.slice a3 b.apart.length c3,.slice a4 b.aa.length c4]):=(aF bc).box (bC aV) (by simp);have B2:Hid (aA A2 (w.heap.size+1) 26 i7):=by have:=bC bc;rw[cS]at this;exact this
 have HW:Hid (Below w.heap.size w A2):=((aF aV).trans' (aF bc)).below (by simp) (zAC _);obtain⟨z0,z1,z2,z3,z4⟩:=B1.o.c5;have hO:=tB A2 b _ a2 c2 _ _ (ai b) rfl (HB.o.later (Kp.of HW.o)) hv (HC.o.later HW.o) (λX t hX=>AO.o X t (HW.o.trans (hX.mono HW.o.size)));have E4:=hv.parts.many;have hpn:b.parts.length<=1000:=by omega
 have han:b.apart.length<=1000:=by have:=hv.iq.many;omega
 have htn:b.aa.length<=1000:=by have:=hv.many;omega
 clear hb hv hc TA hR2 Z7 Qo Qp Qq hR3;go_enter ZF73,Tryz.ntmps73
 go_wp2_with fail
 refine hO.mono ?_;rintro e w1 ⟨pl,bi⟩;have dh:=HW.t bi;have oT:=hid bi;clear bi z0 z1 z2 z3 z4 hO aV bc cS;rcases pl with⟨hL,rfl⟩|⟨hL,a,c,rfl,_,_⟩
 .have HL:=hid hL;clear hL;obtain⟨W,hW⟩:=ex1 (w1.alloc (.cells #[.int .i64 0,.int .i64 0,.slice none 0 0,.slice none 0 0,.slice none 0 0,.slice none 0 0] 93));have tD:=aF hW;have HR:=tD.box (B2.o.below oT.o B2.o.lt) (by simp);have gu:=bC hW;have tA:Hid (Below w.heap.size w W):=(dh.o.trans (tD.below (by simp) dh.o.size):Below w.heap.size w W)
  obtain⟨⟨s0,s1,s2,s3,s4,s5⟩,g0,g1,g2,g3,g4,g5⟩:=Bf gu;have e0:=gu.same (i:=0) (v:=.int .i64 0) rfl;have e1:=gu.same (i:=1) (v:=.int .i64 0) rfl;have e2:=gu.same (i:=2) (v:=.slice none 0 0) rfl;have e3:=gu.same (i:=3) (v:=.slice none 0 0) rfl;have e4:=gu.same (i:=4) (v:=.slice none 0 0) rfl;have e5:=gu.same (i:=5) (v:=.slice none 0 0) rfl;obtain⟨t0,t1,t2,t3,t4⟩:=HR.c5;have f0:=HR.aL 0;have f1:=HR.aL 1;have f2:=HR.aL 2;have f3:=HR.aL 3;have f4:=HR.aL 4;have d0:=HR.same (i:=0) (v:=.int .i64 0) rfl;have d1:=HR.same (i:=1) (v:=.int .i64 0) rfl;have d2:=HR.same (i:=2) (v:=.slice none 0 0) rfl;have d3:=HR.same (i:=3) (v:=.slice none 0 0) rfl;have d4:=HR.same (i:=4) (v:=.slice none 0 0) rfl;clear tD HR gu;go_wp2
  refine bodyPost_ret (v:=.tuple #[.agg i7,.int .i64 9]) ?_ rfl ⟨⟨_,_,_,_,_,_,_,_,_,_,_,_,rfl,.inl ⟨HL.o,rfl,rfl⟩⟩,tA.o⟩;rw[results_cell_tmp rfl];go_simp
 .have HL:=hid hL;clear hL;obtain⟨W,hW⟩:=ex1 (w1.alloc (.cells #[.int .i64 b.ac,.int .i64 b.places,.slice a2 b.parts.length c2,.slice a3 b.apart.length c3,.slice a4 b.aa.length c4,.slice a (aq b (ai b)).length c] 93));have tD:=aF hW;have UX:=hidk dh tD;have D1:Hid (aA W w.heap.size 26 #[.int .i64 b.ac,.int .i64 b.places,.slice a2 b.parts.length c2,.slice a3 b.apart.length c3,.slice a4 b.aa.length c4]):=tD.box (B1.o.below oT.o B1.o.lt) (by simp);have D2:Hid (aA W (w.heap.size+1) 26 i7):=tD.box (B2.o.below oT.o B2.o.lt) (by simp);clear tD;go_upto_region 4 with fail
  go_cut []from 19 (λwx=>∃(g2 k2:Nat) (p3:Option Addr) (k3:Nat) (p4:Option Addr) (k4:Nat),Hid (Below w.heap.size w wx)/\Hid (aA wx w.heap.size 26 #[.int .i64 b.ac,.int .i64 b.places,.slice (some ⟨g2,0,none⟩) b.parts.length k2,.slice p3 b.apart.length k3,.slice p4 b.aa.length k4])/\Hid (aA wx (w.heap.size+1) 26 i7)/\
   Hid (wx.ownsRow (w.heap.size+2) 77 6 (.slice (some ⟨g2,0,none⟩) b.parts.length k2) b.parts.length (L2.flatMap cL))/\Hid (wx.ownsRow (w.heap.size+2) 125 2 (.slice p3 b.apart.length k3) b.apart.length (b.apart.flatMap ma))/\Hid (wx.ownsRow (w.heap.size+2) 65 3 (.slice p4 b.aa.length k4) b.aa.length (L4.flatMap cj)))
  case first=>
   have D1':Hid (aA (W.drewN 1) w.heap.size 26 #[.int .i64 b.ac,.int .i64 b.places,.slice a2 b.parts.length c2,.slice a3 b.apart.length c3,.slice a4 b.aa.length c4]):=D1.o;have D2':Hid (aA (W.drewN 1) (w.heap.size+1) 26 i7):=D2.o;have HW':Hid (Below w.heap.size w (W.drewN 1)):=Below.drewN UX.o 1;have HSw:Hid (w.heap.size+2<=(W.drewN 1).heap.size):=(D2.o.lt:w.heap.size+1<W.heap.size)
   obtain⟨-,-,z2,z3,z4⟩:=D1.o.c5
   go_region_with
    (first
      |(go_at_call 78
        refine(qL (W.drewN 1) a2 b.parts.length c2 (L2.flatMap cL) hpn (H2.o.2.1.later (Kp.of HW'.out))).mono ?_;rintro e Yj ⟨⟨v',rfl,ho⟩,hb⟩;obtain⟨g2,k2,rfl,L3,L5,_,_⟩:=fX ho E4.1;have Yk:Hid (Below w.heap.size w Yj):=HW'.out.trans (hb.mono HW'.out.size);have Yl:Hid (Yj.ownsRow (w.heap.size+2) 77 6 (.slice (some ⟨g2,0,none⟩) b.parts.length k2) b.parts.length (L2.flatMap cL)):=dr ho HSw.o;have E1:Hid (aA Yj w.heap.size 26 #[.int .i64 b.ac,.int .i64 b.places,.slice a2 b.parts.length c2,.slice a3 b.apart.length c3,.slice a4 b.aa.length c4]):=D1'.out.below hb D1'.out.lt;have E2:Hid (aA Yj (w.heap.size+1) 26 i7):=D2'.out.below hb D2'.out.lt;obtain⟨-,-,-,y3,y4⟩:=E1.o.c5;clear ho hb L3 L5)
      |(go_at_call 102
        refine(yC Yj a3 b.apart.length c3 (b.apart.flatMap ma) han (H3.o.later (Kp.of Yk.o))).mono ?_;rintro e TE ⟨⟨v',rfl,ho⟩,hb⟩;obtain⟨p3,k3,rfl⟩:=cN ho;have Qr:=Yk.t hb;have Qs:Hid (TE.ownsRow (w.heap.size+2) 125 2 (.slice p3 b.apart.length k3) b.apart.length (b.apart.flatMap ma)):=dr ho (by have:=(E2.o.lt);omega);have Qt:Hid (TE.ownsRow (w.heap.size+2) 77 6 (.slice (some ⟨g2,0,none⟩) b.parts.length k2) b.parts.length (L2.flatMap cL)):=aR Yl.o (λj hj=>hb.block j (au Yl.o j hj).2);have F1:=hidb E1 hb;have F2:=hidb E2 hb;obtain⟨-,-,-,-,x4⟩:=F1.o.c5;clear ho hb)
      |(go_at_call 72
        refine(oV TE a4 b.aa.length c4 (L4.flatMap cj) htn (H4.o.2.1.later (Kp.of Qr.o))).mono ?_;rintro e uR ⟨⟨v',rfl,ho⟩,hb⟩;obtain⟨p4,k4,rfl⟩:=cN ho;have Ym:=Qr.t hb;have Yn:Hid (uR.ownsRow (w.heap.size+2) 65 3 (.slice p4 b.aa.length k4) b.aa.length (L4.flatMap cj)):=dr ho (by have:=(F2.o.lt);omega);have TF:Hid (uR.ownsRow (w.heap.size+2) 77 6 (.slice (some ⟨g2,0,none⟩) b.parts.length k2) b.parts.length (L2.flatMap cL)):=aR Qt.out (λj hj=>hb.block j (au Qt.out j hj).2);have TG:Hid (uR.ownsRow (w.heap.size+2) 125 2 (.slice p3 b.apart.length k3) b.apart.length (b.apart.flatMap ma)):=aR Qs.o (λj hj=>hb.block j (au Qs.o j hj).2);have G1:=hidb F1 hb;have G2:=hidb F2 hb;obtain⟨-,-,s2,s3,s4⟩:=G1.o.c5;have q2:=G1.o.aL 2;have q3:=G1.o.aL 3;have q4:=G1.o.aL 4;have K1:Hid (∀(X:World) (i:Nat) (v:Value),Below w.heap.size w X->Below w.heap.size w (X.setCell ⟨w.heap.size,i,none⟩ v)):=(λX i v h=>h.trans ((ab.set (O:=[w.heap.size]) X (by simp) v).below (by simp) h.size))
        have UU:Hid (∀v,Below w.heap.size w (uR.setCell ⟨w.heap.size,2,none⟩ v)):=(λv=>K1.o _ _ _ Ym.o)
        have GR:Hid (∀v v',Below w.heap.size w ((uR.setCell ⟨w.heap.size,2,none⟩ v).setCell ⟨w.heap.size,3,none⟩ v')):=(λv v'=>K1.o _ _ _ (UU.o _))
        have Oq:Hid (∀v v' v'',Below w.heap.size w (((uR.setCell ⟨w.heap.size,2,none⟩ v).setCell ⟨w.heap.size,3,none⟩ v').setCell ⟨w.heap.size,4,none⟩ v'')):=(λv v' v''=>K1.o _ _ _ (GR.o _ _))
        clear ho hb K1))
   all_goals go_wp2_with fail
   all_goals go_meet
   all_goals
    have hk:ab [w.heap.size] uR (((uR.setCell ⟨w.heap.size,2,none⟩ (.slice (some ⟨g2,0,none⟩) b.parts.length k2)).setCell ⟨w.heap.size,3,none⟩ (.slice p3 b.apart.length k3)).setCell ⟨w.heap.size,4,none⟩ (.slice p4 b.aa.length k4)):=((ab.set _ (by simp) _).trans' (ab.set _ (by simp) _)).trans' (ab.set _ (by simp) _)
    have hf:∀(e s:Nat) (v:Value) (n:Nat) (xs:List Value),uR.ownsRow (w.heap.size+2) e s v n xs->(((uR.setCell ⟨w.heap.size,2,none⟩ (.slice (some ⟨g2,0,none⟩) b.parts.length k2)).setCell ⟨w.heap.size,3,none⟩ (.slice p3 b.apart.length k3)).setCell ⟨w.heap.size,4,none⟩ (.slice p4 b.aa.length k4)).ownsRow (w.heap.size+2) e s v n xs:=λe s v n xs h=>
     aR h λj hj=>hk.block j (au h j hj).2 (by have:=(au h j hj).1;simp;omega)
    exact⟨g2,k2,p3,k3,p4,k4,Oq.o _ _ _,((G1.o.set 2 _).set 3 _).set 4 _,hk.box G2.o (by simp),hf _ _ _ _ _ TF.out,hf _ _ _ _ _ TG.out,hf _ _ _ _ _ Yn.o⟩
  case rest=>
   obtain⟨g2,k2,p3,k3,p4,k4,HBw,Qf,Im,HP,HA,HT⟩:=hcut
   obtain⟨g4,hg4⟩:∃g4:Nat,(g4=w.heap.size+1/\b.aa.length=0)\/p4=some ⟨g4,0,none⟩:=by
    rcases zBT b.aa.length with h|h
    .exact⟨_,.inl ⟨rfl,h⟩⟩
    .obtain⟨g,c,e,_⟩:=fX HT.o h;cases e;exact⟨g,.inr rfl⟩
   have hO:∀o∈ [w.heap.size+1,g2,g4],w.heap.size<=o:=λo ho=>by
    simp at ho;have h2:=(au HP.o g2 rfl).1;rcases ho with rfl|rfl|rfl
    .omega
    .omega
    .rcases hg4 with h|h
     .omega
     .have h3:=HT.o;rw[h]at h3;have:=(au h3 o rfl).1;omega
   have HST:Hid (ga w b g2 k2 p3 k3 p4 k4 g4 0 0 L2 L4 wc):=⟨HBw.o,Qf.o,Im.o,HP.o,HA.o,HT.o,hg4,H2.o.1,H4.o.1,λx hx=>nJ.old (H2.o.2.2 x hx) HBw.o hO,λx hx=>nJ.old (H4.o.2.2 x hx) HBw.o hO,λj x hj=>by omega,λj x hj=>by omega⟩
   have HFL:Hid (∀x∈b.parts,x.fits.length<=1000):=λx hx=>by
    obtain⟨j,hj⟩:=zDE hx;have h1:=Dy (by have:=HV.o.places;omega) (HV.o.parts.all j x (zAK.1 hj).1 hj).1.N3;have:=HV.o.places;omega
   have HTL:Hid (∀x∈b.aa,x.parts.length<=1000):=λx hx=>by
    obtain⟨j,hj⟩:=zDE hx;have h1:=(HV.o.aa j x (zAK.1 hj).1 hj).uJ.len;have:=HV.o.places;omega
   obtain⟨-,-,y2⟩:=Qf.o.c3
   have zkC:b.parts.length<=k2:=by
    obtain⟨_,_,e,_,_,_,h⟩:=fX HP.o E4.1;cases e;exact h
   have hkm:=λ(h:0<b.aa.length)=>(fX HT.o h)
   clear HBw Qf Im HP HA HT hg4 hO hW D1 D2 UX dh oT B1 B2 HW;go_wp2_with fail
   clear y2;go_loopw [34] (λi wr=>∃(j:Nat) (M2:List (Part×Value)),j<=b.parts.length/\i=.int .i64 j/\Hid (ga w b g2 k2 p3 k3 p4 k4 g4 j 0 M2 L4 wr)) (λi _=>b.parts.length-(intOf i).toNat)
   case atStart=>exact⟨0,_,zAR _,rfl,HST⟩
   case round=>
    obtain⟨j,M2,hj,rfl,hS⟩:=hrel;obtain⟨-,-,z2,-,z4⟩:=hS.o.bx.c5;by_cases az:j<b.parts.length
    .have hjm:j<M2.length:=by rw[hS.o.n2];exact az
     obtain⟨x,hx⟩:∃x,M2[j]?=some x:=⟨_,zAJ hjm⟩
     obtain⟨xp,xv⟩:=x;obtain⟨fa,fc,hs,he⟩:=(hS.o.f2 _ (zAX hx)).now;obtain rfl:xv=.slice fa xp.fits.length fc:=hs.eq;have HX:=hid hx;have q0:wr.cell? ⟨g2,j*6,none⟩=some (.string xp.name):=fZ hS.o.rp hx hS.o.n2 0 (by omega) rfl;have q1:wr.cell? ⟨g2,j*6+1,none⟩=some (.int .i64 xp.cost):=fZ hS.o.rp hx hS.o.n2 1 (by omega) rfl;have q2:wr.cell? ⟨g2,j*6+2,none⟩=some (.int .i64 xp.bY):=fZ hS.o.rp hx hS.o.n2 2 (by omega) rfl;have q3:wr.cell? ⟨g2,j*6+3,none⟩=some (.int .i64 xp.lo):=fZ hS.o.rp hx hS.o.n2 3 (by omega) rfl;have q4:wr.cell? ⟨g2,j*6+4,none⟩=some (.int .i64 xp.hi):=fZ hS.o.rp hx hS.o.n2 4 (by omega) rfl;have q5:wr.cell? ⟨g2,j*6+5,none⟩=some (.slice fa xp.fits.length fc):=fZ hS.o.rp hx hS.o.n2 5 (by omega) rfl;have Ia:xp.fits.length<=1000:=HFL.o xp (by rw[<-hS.o.e2];exact zCL.2 ⟨_,zAX hx,rfl⟩);have te:(j:Int)<(b.parts.length:Int):=by omega
     obtain⟨A7,Yo⟩:=ex1 (wr.alloc (.cells #[.string xp.name,.int .i64 xp.cost,.int .i64 xp.bY,.int .i64 xp.lo,.int .i64 xp.hi,.slice fa xp.fits.length fc] 77));have Mb:Hid (ga w b g2 k2 p3 k3 p4 k4 g4 j 0 M2 L4 A7):=hS.o.later ((aF Yo).below (by simp) (zAC _));have B7:Hid (aA A7 wr.heap.size 77 #[.string xp.name,.int .i64 xp.cost,.int .i64 xp.bY,.int .i64 xp.lo,.int .i64 xp.hi,.slice fa xp.fits.length fc]):=bC Yo;have HI7:Hid (am (A7.drewN 1) (.slice fa xp.fits.length fc) xp.fits):=(Mb.o.f2 _ (zAX hx)) _ (ab.of (Below.drewN (Below.refl A7.heap.size A7) 1))
     have K9:Hid (∀X:World,ab [g2] A7 X->(X.cell? ⟨w.heap.size,2,none⟩=some (.slice (some ⟨g2,0,none⟩) b.parts.length k2)/\X.cell? ⟨wr.heap.size,5,none⟩=some (.slice fa xp.fits.length fc))/\ab [g2] A7 X):=λX hX=>by
      have h2:=Mb.o.ge2;have h3:=hS.o.ge2;exact⟨⟨(hX.box Mb.o.bx (by simp;omega)).cell 2 rfl,(hX.box B7.o (by simp;omega)).cell 5 rfl⟩,hX⟩
     clear hx hs he z4;go_wp2_with fail
     go_region_held3 (λX:World=>(X.cell? ⟨w.heap.size,2,none⟩=some (.slice (some ⟨g2,0,none⟩) b.parts.length k2)/\X.cell? ⟨wr.heap.size,5,none⟩=some (.slice fa xp.fits.length fc))/\ab [g2] A7 X)
      (first
        |with_reducible exact K9.o _ Yp.o
        |with_reducible exact K9.o _ (HKS.o _)
        |exact K9.o _ (ab.of (Below.drewN (Below.refl A7.heap.size A7) 1))
        |fail)
      (first
        |(go_at_call 95
          refine(qd (A7.drewN 1) _ xp.fits Ia HI7.o).mono ?_;rintro e w8 ⟨⟨v',rfl,ho⟩,hb⟩;obtain⟨fa',fc',rfl⟩:=cN ho;have ug:Hid (Below A7.heap.size A7 w8):=(Below.drewN (Below.refl A7.heap.size A7) 1).trans hb;have Yp:Hid (ab [g2] A7 w8):=ab.of ug.o;have HKS:Hid (∀v,ab [g2] A7 (w8.setCell ⟨g2,j*6+5,none⟩ v)):=(λv=>Yp.o.trans' (ab.set w8 (by simp) v))
          have OH:Hid (ga w b g2 k2 p3 k3 p4 k4 g4 j 0 M2 L4 w8):=Mb.o.later ug.o;have TH:Hid (w8.ownsRow (w.heap.size+2) 3 1 (.slice fa' xp.fits.length fc') xp.fits.length (xp.fits.map (Value.int .i64))):=dr ho (Mb.o.br.lt);have t5:w8.cell? ⟨g2,j*6+5,none⟩=some (.slice fa xp.fits.length fc):=fZ OH.o.rp HX.o OH.o.n2 5 (by omega) rfl;have t6:w8.frozen? ⟨g2,j*6+5,none⟩=false:=OH.o.rp.frozenAt _;clear ho hb))
     go_wp2
     go_round
     case rel=>exact⟨j+1,_,by omega,by go_num,OH.o.fit rfl HX.o TH.o⟩
     case measure=>simp[intOf];omega
    .have ej:j=b.parts.length:=by omega
     have HSa:Hid (ga w b g2 k2 p3 k3 p4 k4 g4 b.parts.length 0 M2 L4 wr):=by rw[<-ej];exact hS
     clear ej;go_wp2_with fail
     clear z2 z4 az hj hS;obtain⟨wo,La⟩:∃wo,wo=wr:=⟨wr,rfl⟩
     rw[<-La]at HSa⊢;clear La;go_loopw [51] (λi wr=>∃(j:Nat) (M4:List (bH×Value)),j<=b.aa.length/\i=.int .i64 j/\Hid (ga w b g2 k2 p3 k3 p4 k4 g4 b.parts.length j M2 M4 wr)) (λi _=>b.aa.length-(intOf i).toNat)
     case atStart=>exact⟨0,_,zAR _,rfl,HSa⟩
     case round=>
      clear HSa;obtain⟨j,M4,hj,rfl,hS⟩:=hrel;obtain⟨z0,z1,z2,z3,z4⟩:=hS.o.bx.c5;by_cases az:j<b.aa.length
      .have hjm:j<M4.length:=by rw[hS.o.n4];exact az
       obtain⟨x,hx⟩:∃x,M4[j]?=some x:=⟨_,zAJ hjm⟩
       obtain⟨xp,xv⟩:=x;obtain⟨fa,fc,hs,he⟩:=(hS.o.f4 _ (zAX hx)).now;obtain rfl:xv=.slice fa xp.parts.length fc:=hs.eq;have HX:=hid hx
       have Il:p4=some ⟨g4,0,none⟩:=by
        rcases hS.o.h4 with h|h
        .omega
        .exact h
       subst Il
       have zkE:b.aa.length<=k4:=by
        obtain⟨_,_,e,_,_,_,h⟩:=hkm (by omega);cases e;exact h
       have q0:wr.cell? ⟨g4,j*3,none⟩=some (.slice fa xp.parts.length fc):=mH hS.o.rt hx hS.o.n4 0 (by omega) rfl;have q1:wr.cell? ⟨g4,j*3+1,none⟩=some (.int .i64 xp.lo):=mH hS.o.rt hx hS.o.n4 1 (by omega) rfl;have q2:wr.cell? ⟨g4,j*3+2,none⟩=some (.int .i64 xp.hi):=mH hS.o.rt hx hS.o.n4 2 (by omega) rfl;have Ia:xp.parts.length<=1000:=HTL.o xp (by rw[<-hS.o.e4];exact zCL.2 ⟨_,zAX hx,rfl⟩);have te:(j:Int)<(b.aa.length:Int):=by omega
       obtain⟨A7,Yo⟩:=ex1 (wr.alloc (.cells #[.slice fa xp.parts.length fc,.int .i64 xp.lo,.int .i64 xp.hi] 65));have Mb:Hid (ga w b g2 k2 p3 k3 (some ⟨g4,0,none⟩) k4 g4 b.parts.length j M2 M4 A7):=hS.o.later ((aF Yo).below (by simp) (zAC _));have B7:Hid (aA A7 wr.heap.size 65 #[.slice fa xp.parts.length fc,.int .i64 xp.lo,.int .i64 xp.hi]):=bC Yo;have HI7:Hid (am (A7.drewN 1) (.slice fa xp.parts.length fc) xp.parts):=(Mb.o.f4 _ (zAX hx)) _ (ab.of (Below.drewN (Below.refl A7.heap.size A7) 1))
       have K9:Hid (∀X:World,ab [g4] A7 X->(X.cell? ⟨w.heap.size,4,none⟩=some (.slice (some ⟨g4,0,none⟩) b.aa.length k4)/\X.cell? ⟨wr.heap.size,0,none⟩=some (.slice fa xp.parts.length fc))/\ab [g4] A7 X):=λX hX=>by
        have h2:=au hS.o.rt g4 rfl;exact⟨⟨(hX.box Mb.o.bx (by simp;omega)).cell 4 rfl,(hX.box B7.o (by simp;omega)).cell 0 rfl⟩,hX⟩
       clear hx hs he z0 z1 z2 z3;go_wp2_with fail
       go_region_held3 (λX:World=>(X.cell? ⟨w.heap.size,4,none⟩=some (.slice (some ⟨g4,0,none⟩) b.aa.length k4)/\X.cell? ⟨wr.heap.size,0,none⟩=some (.slice fa xp.parts.length fc))/\ab [g4] A7 X)
        (first
          |with_reducible exact K9.o _ Yp.o
          |with_reducible exact K9.o _ (HKS.o _)
          |exact K9.o _ (ab.of (Below.drewN (Below.refl A7.heap.size A7) 1))
          |fail)
        (first
          |(go_at_call 95
            refine(qd (A7.drewN 1) _ xp.parts Ia HI7.o).mono ?_;rintro e w8 ⟨⟨v',rfl,ho⟩,hb⟩;obtain⟨fa',fc',rfl⟩:=cN ho;have ug:Hid (Below A7.heap.size A7 w8):=(Below.drewN (Below.refl A7.heap.size A7) 1).trans hb;have Yp:Hid (ab [g4] A7 w8):=ab.of ug.o;have HKS:Hid (∀v,ab [g4] A7 (w8.setCell ⟨g4,j*3,none⟩ v)):=(λv=>Yp.o.trans' (ab.set w8 (by simp) v))
            have OH:Hid (ga w b g2 k2 p3 k3 (some ⟨g4,0,none⟩) k4 g4 b.parts.length j M2 M4 w8):=Mb.o.later ug.o;have TH:Hid (w8.ownsRow (w.heap.size+2) 3 1 (.slice fa' xp.parts.length fc') xp.parts.length (xp.parts.map (Value.int .i64))):=dr ho (Mb.o.br.lt);have t5:w8.cell? ⟨g4,j*3,none⟩=some (.slice fa xp.parts.length fc):=mH OH.o.rt HX.o OH.o.n4 0 (by omega) rfl;have t6:w8.frozen? ⟨g4,j*3,none⟩=false:=OH.o.rt.frozenAt _;clear ho hb))
       go_wp2
       go_round
       case rel=>exact⟨j+1,_,by omega,by go_num,(OH.o.zd5 rfl HX.o TH.o).2⟩
       case measure=>simp[intOf];omega
      .have p0:=hS.o.br.cell 0 rfl;have p1:=hS.o.br.cell 1 rfl;have p2:=hS.o.br.cell 2 rfl;have p3':=hS.o.br.cell 3 rfl;have p4':=hS.o.br.cell 4 rfl;have f0:=hS.o.br.aL 0;have f1:=hS.o.br.aL 1;have f2:=hS.o.br.aL 2;have f3:=hS.o.br.aL 3;have f4:=hS.o.br.aL 4;go_wp2
       obtain⟨WF,jK⟩:=ex1 (((((wr.setCell ⟨w.heap.size+1,0,none⟩ (.int .i64 b.ac)).setCell ⟨w.heap.size+1,1,none⟩ (.int .i64 b.places)).setCell ⟨w.heap.size+1,2,none⟩ (.slice (some ⟨g2,0,none⟩) b.parts.length k2)).setCell ⟨w.heap.size+1,3,none⟩ (.slice p3 b.apart.length k3)).setCell ⟨w.heap.size+1,4,none⟩ (.slice p4 b.aa.length k4));obtain⟨oW,uh⟩:=K6 (.int .i64 b.ac) (.int .i64 b.places) (.slice (some ⟨g2,0,none⟩) b.parts.length k2) (.slice p3 b.apart.length k3) (.slice p4 b.aa.length k4) hS.o.br;rw[jK]at oW uh⊢;have iw:Hid (Below w.heap.size w WF):=hS.o.below.trans (uh.below (by simp) hS.o.below.size);have ej:j=b.aa.length:=by omega
       have Mc:Hid (Hg w WF (.agg #[.int .i64 b.ac,.int .i64 b.places,.slice (some ⟨g2,0,none⟩) b.parts.length k2,.slice p3 b.apart.length k3,.slice p4 b.aa.length k4]) b):=hS.o.book rfl ej uh;obtain⟨w0,w1,w2,w3,w4⟩:=oW.c5;clear ej oW uh jK z0 z1 z2 z3 z4 p0 p1 p2 p3' p4' f0 f1 f2 f3 f4;refine bodyPost_ret (v:=.tuple #[.agg #[.int .i64 b.ac,.int .i64 b.places,.slice (some ⟨g2,0,none⟩) b.parts.length k2,.slice p3 b.apart.length k3,.slice p4 b.aa.length k4],.int .i64 0]) ?_ rfl ⟨⟨_,_,_,_,_,_,_,_,_,_,_,_,rfl,.inr ⟨HL.o,rfl,Mc.o⟩⟩,iw.o⟩;rw[results_cell_tmp rfl];go_simp
end Go.Proofs.Cz
