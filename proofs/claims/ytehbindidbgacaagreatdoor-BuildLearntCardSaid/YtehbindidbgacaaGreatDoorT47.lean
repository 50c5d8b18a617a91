/- A part. Conditions: none. -/
import Derived.Test.YtehbindidbgacaaGreatDoorT45
import Derived.Test.YtehbindidbgacaaGreatDoorT46
set_option linter.all false
set_option maxHeartbeats 8000000
set_option maxRecDepth 100000
namespace Go.Proofs.Cz
open Go.RowKit Go.Shelf
theorem wC (w:World) (v v' vm:Value) (b b':ap) (i:Nat) (is:Bool) (hb:ar w v b) (yX:ar w v' b') (hk:Knows b b') (hc:iv w) (hi:i<b.parts.length)
 (hm:is=false\/∃l,cr b l/\ak l∈aB b/\am w vm l):
 Calls ZP 30 #[v,v',.int .i64 i,vm,.bool is] w (di w (.bool true)):=by
 have HB:=hid hb;have U1:Hid (ar w v' b'):=yX;have HK:Hid (Knows b b'):=hk;have HC:Hid (iv w):=hc;have UM:=hid hm;obtain⟨a2,c2,a3,c3,a4,c4,rfl⟩:=hb.dA;obtain⟨d2,e2,d3,e3,d4,e4,rfl⟩:=yX.dA;obtain⟨A1,aV⟩:=ex1 (w.alloc (.cells #[.int .i64 b.ac,.int .i64 b.places,.slice a2 b.parts.length c2,.slice a3 b.apart.length c3,.slice a4 b.aa.length c4] 26));obtain⟨A2,bc⟩:=ex1 (A1.alloc (.cells #[.int .i64 b'.ac,.int .i64 b'.places,.slice d2 b'.parts.length e2,.slice d3 b'.apart.length e3,.slice d4 b'.aa.length e4] 26));have cS:=dt aV;have B1:Hid (aA A2 w.heap.size 26 #[.int .i64 b.ac,.int .i64 b.places,.slice a2 b.parts.length c2,.slice a3 b.apart.length c3,.slice a4 b.aa.length c4]):=(aF bc).box (bC aV) (by simp);have B2:Hid (aA A2 (w.heap.size+1) 26 #[.int .i64 b'.ac,.int .i64 b'.places,.slice d2 b'.parts.length e2,.slice d3 b'.apart.length e3,.slice d4 b'.aa.length e4]):=by have:=bC bc;rw[cS]at this;exact this
 have HW:Hid (Below w.heap.size w A2):=((aF aV).trans' (aF bc)).below (by simp) (zAC _)
 have HZ:Hid (∀X:World,Below A2.heap.size A2 X->(X.cell? ⟨w.heap.size,0,none⟩=some (.int .i64 b.ac)/\X.cell? ⟨w.heap.size,1,none⟩=some (.int .i64 b.places)/\X.cell? ⟨w.heap.size,2,none⟩=some (.slice a2 b.parts.length c2)/\X.cell? ⟨w.heap.size,3,none⟩=some (.slice a3 b.apart.length c3)/\X.cell? ⟨w.heap.size,4,none⟩=some (.slice a4 b.aa.length c4))/\
  (X.cell? ⟨w.heap.size+1,0,none⟩=some (.int .i64 b'.ac)/\X.cell? ⟨w.heap.size+1,1,none⟩=some (.int .i64 b'.places)/\X.cell? ⟨w.heap.size+1,2,none⟩=some (.slice d2 b'.parts.length e2)/\X.cell? ⟨w.heap.size+1,3,none⟩=some (.slice d3 b'.apart.length e3)/\X.cell? ⟨w.heap.size+1,4,none⟩=some (.slice d4 b'.aa.length e4))/\Below w.heap.size w X):=λX hX=>by
  have X1:=B1.o.below hX B1.o.lt;have X2:=B2.o.below hX B2.o.lt;exact⟨⟨X1.cell 0 rfl,X1.cell 1 rfl,X1.cell 2 rfl,X1.cell 3 rfl,X1.cell 4 rfl⟩,⟨X2.cell 0 rfl,X2.cell 1 rfl,X2.cell 2 rfl,X2.cell 3 rfl,X2.cell 4 rfl⟩,HW.o.trans (hX.mono HW.o.size)⟩
 obtain⟨⟨z0,z1,z2,z3,z4⟩,⟨y0,y1,y2,y3,y4⟩,_⟩:=HZ.o A2 (Below.refl _ _);have qj:i<b'.parts.length:=by rw[hk.parts];exact hi
 have iQ:=eP hb hk.valid;have TO:=eP yX hk.ij;have bE:=hk.ne;have YF:=hk.ne0;have YG:=hk.less;have eu:=hk.mem;have Lr:=hk.cheap;have Qx:=(wA hk.uJ hk.places hk.ac hk.ne hk.mem).2;have hlen:=lW hk.valid (ai b);have YH:=lW hk.ij (ai b');have HTL:Hid (∀c∈eF (aq b' (ai b')) i,c∈eF (aq b (ai b)) i):=DU hk.mem i;have HH1:Hid (∀X,Below w.heap.size w X->Calls ZP 10 #[.agg #[.int .i64 b.ac,.int .i64 b.places,.slice a2 b.parts.length c2,.slice a3 b.apart.length c3,.slice a4 b.aa.length c4]] X (yJ X (aq b (ai b)))):=λX hX=>m9 X _ b (HB.o.later (Kp.of hX)) hk.valid (HC.o.later hX);have HH2:Hid (∀X,Below w.heap.size w X->Calls ZP 10 #[.agg #[.int .i64 b'.ac,.int .i64 b'.places,.slice d2 b'.parts.length e2,.slice d3 b'.apart.length e3,.slice d4 b'.aa.length e4]] X (yJ X (aq b' (ai b')))):=λX hX=>m9 X _ b' (U1.out.later (Kp.of hX)) hk.ij (HC.o.later hX);have HT1:Hid (∀X,Below w.heap.size w X->Calls ZP 12 #[.agg #[.int .i64 b.ac,.int .i64 b.places,.slice a2 b.parts.length c2,.slice a3 b.apart.length c3,.slice a4 b.aa.length c4],.int .i64 i] X (tM X (aq b (ai b)) i)):=λX hX=>wq X _ b i (HB.o.later (Kp.of hX)) hk.valid (HC.o.later hX) hi;have Yt:Hid (∀X,Below w.heap.size w X->Calls ZP 12 #[.agg #[.int .i64 b'.ac,.int .i64 b'.places,.slice d2 b'.parts.length e2,.slice d3 b'.apart.length e3,.slice d4 b'.aa.length e4],.int .i64 i] X (tM X (aq b' (ai b')) i)):=λX hX=>wq X _ b' i (U1.out.later (Kp.of hX)) hk.ij (HC.o.later hX) qj;have HF1:Hid (∀X,Below w.heap.size w X->Calls ZP 13 #[.agg #[.int .i64 b.ac,.int .i64 b.places,.slice a2 b.parts.length c2,.slice a3 b.apart.length c3,.slice a4 b.aa.length c4]] X (KN X b (aq b (ai b)))):=λX hX=>we X _ b _ (HB.o.later (Kp.of hX)) hk.valid (HC.o.later hX) (λY t hY=>iQ Y t (hX.trans (hY.mono hX.size)));have HF2:Hid (∀X,Below w.heap.size w X->Calls ZP 13 #[.agg #[.int .i64 b'.ac,.int .i64 b'.places,.slice d2 b'.parts.length e2,.slice d3 b'.apart.length e3,.slice d4 b'.aa.length e4]] X (KN X b' (aq b' (ai b')))):=λX hX=>we X _ b' _ (U1.out.later (Kp.of hX)) hk.ij (HC.o.later hX) (λY t hY=>TO Y t (hX.trans (hY.mono hX.size)));have HG1:Hid (∀X,Below w.heap.size w X->Calls ZP 15 #[.agg #[.int .i64 b.ac,.int .i64 b.places,.slice a2 b.parts.length c2,.slice a3 b.apart.length c3,.slice a4 b.aa.length c4]] X (Ll X b (aq b (ai b)) [eR b] (eR b))):=λX hX=>oY X _ b _ (HB.o.later (Kp.of hX)) hk.valid (HC.o.later hX) (λY t hY=>iQ Y t (hX.trans (hY.mono hX.size)));have HG2:Hid (∀X,Below w.heap.size w X->Calls ZP 15 #[.agg #[.int .i64 b'.ac,.int .i64 b'.places,.slice d2 b'.parts.length e2,.slice d3 b'.apart.length e3,.slice d4 b'.aa.length e4]] X (Ll X b' (aq b' (ai b')) [eR b'] (eR b'))):=λX hX=>oY X _ b' _ (U1.out.later (Kp.of hX)) hk.ij (HC.o.later hX) (λY t hY=>TO Y t (hX.trans (hY.mono hX.size)))
 have HU:Hid (∀l,cr b l->ak l∈aB b->am w vm l->∀X,Below w.heap.size w X->
  Calls ZP 22 #[.agg #[.int .i64 b.ac,.int .i64 b.places,.slice a2 b.parts.length c2,.slice a3 b.apart.length c3,.slice a4 b.aa.length c4],vm] X (tH X b (aq b (ai b)) (ak l))/\
  Calls ZP 22 #[.agg #[.int .i64 b'.ac,.int .i64 b'.places,.slice d2 b'.parts.length e2,.slice d3 b'.apart.length e3,.slice d4 b'.aa.length e4],vm] X (tH X b' (aq b' (ai b')) (ak l))/\
  Calls ZP 23 #[.agg #[.int .i64 b.ac,.int .i64 b.places,.slice a2 b.parts.length c2,.slice a3 b.apart.length c3,.slice a4 b.aa.length c4],vm] X (yr X b (aq b (ai b)) (ak l))/\
  Calls ZP 23 #[.agg #[.int .i64 b'.ac,.int .i64 b'.places,.slice d2 b'.parts.length e2,.slice d3 b'.apart.length e3,.slice d4 b'.aa.length e4],vm] X (yr X b' (aq b' (ai b')) (ak l))):=λl it BH E5 X hX=>
  ⟨tI X _ vm b l (HB.o.later (Kp.of hX)) hk.valid (HC.o.later hX) it (E5.later (Kp.of hX)),
   tI X _ vm b' l (U1.out.later (Kp.of hX)) hk.ij (HC.o.later hX) (hk.okM l it) (E5.later (Kp.of hX)),
   Ba X _ vm b l (HB.o.later (Kp.of hX)) hk.valid (HC.o.later hX) it (E5.later (Kp.of hX)),
   Ba X _ vm b' l (U1.out.later (Kp.of hX)) hk.ij (HC.o.later hX) (hk.okM l it) (E5.later (Kp.of hX))⟩
 have HPL:Hid (∀m∈aB b,(ia b.places.toNat (aq b (ai b)) m<=ia b'.places.toNat (aq b' (ai b')) m/\fp b'.places.toNat (aq b' (ai b')) m<=fp b.places.toNat (aq b (ai b)) m)/\
  (eA b (aq b (ai b)) m=0\/eA b (aq b (ai b)) m=eA b' (aq b' (ai b')) m)):=λm GL=>by
  refine⟨?_,Hn hk.valid hk.ij hk.uJ hk.places hk.ac hk.ne hk.mem GL⟩;rw[hk.places];exact nP hk.ne hk.mem m
 clear hb yX hk hc hi qj iQ TO hm eu;generalize aq b (ai b)=L at*;generalize aq b' (ai b')=L' at*;have HN:Hid (L≠ []/\L'≠ []):=⟨YF,bE⟩
 obtain⟨sf,XV⟩:=ex1 ((aS b L).length);obtain⟨sf',TP⟩:∃sf,(aS b' L').length=sf:=⟨_,rfl⟩
 rw[XV,TP]at Qx;have HSF:Hid ((aS b L).length=sf/\(aS b' L').length=sf'):=⟨XV,TP⟩
 have HCH:=hid Lr;have n1:¬L.length<L'.length:=by omega
 have n2:¬sf'<sf:=by omega
 clear bE YF YG Lr Qx hlen YH XV TP;go_enter ZF30,Tryz.ntmps30
 go_upto_region 2 with(go_at_call 10
                       refine(HH1.o A2 HW.o).mono ?_;rintro e w1 ⟨rfl,bi⟩;have dh:=hid bi;clear bi z0 z1 z2 z3 z4 y0 y1 y2 y3 y4 aV bc cS;obtain⟨⟨z0,z1,z2,z3,z4⟩,⟨y0,y1,y2,y3,y4⟩,jJ⟩:=HZ.o w1 dh.o)
 go_upto_region 3 with(go_at_call 10
                       refine(HH2.o w1 jJ).mono ?_;rintro e w2 ⟨rfl,fJ⟩;have gm:=dh.t fJ;clear fJ z0 z1 z2 z3 z4 y0 y1 y2 y3 y4 jJ;obtain⟨⟨z0,z1,z2,z3,z4⟩,⟨y0,y1,y2,y3,y4⟩,ut⟩:=HZ.o w2 gm.o)
 go_upto_region 4 with(go_at_call 12
                       refine(HT1.o w2 ut).mono ?_;rintro e w3 ⟨⟨h0,_⟩|⟨_,u,rfl,hu⟩,DF⟩
                       .exact absurd h0 HN.o.1
                       have HU1:=hid hu;have fL:=gm.t DF;clear DF hu z0 z1 z2 z3 z4 y0 y1 y2 y3 y4 ut;obtain⟨⟨z0,z1,z2,z3,z4⟩,⟨y0,y1,y2,y3,y4⟩,Zo⟩:=HZ.o w3 fL.o)
 go_upto_region 5 with(go_at_call 12
                       refine(Yt.o w3 Zo).mono ?_;rintro e w4 ⟨⟨h0,_⟩|⟨_,u',rfl,hu⟩,qB⟩
                       .exact absurd h0 HN.o.2
                       have HU2:Hid (am w4 u (eF L i)/\am w4 u' (eF L' i)):=⟨HU1.o.later (Kp.of qB),hu⟩
                       have mz:=fL.t qB;clear qB hu z0 z1 z2 z3 z4 y0 y1 y2 y3 y4 Zo;obtain⟨⟨z0,z1,z2,z3,z4⟩,⟨y0,y1,y2,y3,y4⟩,BI⟩:=HZ.o w4 mz.o)
 go_upto_region 6 with(go_at_call 13
                       refine(HF1.o w4 BI).mono ?_;rintro e w5 ⟨⟨h0,_⟩|⟨_,rfl⟩,ud⟩
                       .exact absurd h0 HN.o.1
                       have HU3:Hid (am w5 u (eF L i)/\am w5 u' (eF L' i)):=⟨HU2.o.1.later (Kp.of ud),HU2.o.2.later (Kp.of ud)⟩
                       have rR:=mz.t ud;clear ud z0 z1 z2 z3 z4 y0 y1 y2 y3 y4 BI;obtain⟨⟨z0,z1,z2,z3,z4⟩,⟨y0,y1,y2,y3,y4⟩,JW⟩:=HZ.o w5 rR.o)
 go_upto_region 7 with(go_at_call 13
                       refine(HF2.o w5 JW).mono ?_;rintro e w6 ⟨⟨h0,_⟩|⟨_,rfl⟩,tJ⟩
                       .exact absurd h0 HN.o.2
                       have HU4:Hid (am w6 u (eF L i)/\am w6 u' (eF L' i)):=⟨HU3.o.1.later (Kp.of tJ),HU3.o.2.later (Kp.of tJ)⟩
                       have mO:=rR.t tJ;clear tJ z0 z1 z2 z3 z4 y0 y1 y2 y3 y4 JW;obtain⟨⟨z0,z1,z2,z3,z4⟩,⟨y0,y1,y2,y3,y4⟩,YI⟩:=HZ.o w6 mO.o)
 have YJ:=yH w6 u' u _ _ HU4.o.2 HU4.o.1 HTL.o;rw[HSF.o.1,HSF.o.2];go_upto_region 9 with(go_at_call 76;refine YJ.mono ?_;rintro e w' ⟨rfl,hww⟩;obtain rfl:w6=w':=hww.symm)
 go_cut [23,24,25]from 103 to 109 (λx23 x24 x25 wx=>Hid (Below A2.heap.size A2 wx)/\∃d s:Int,x24=.int .i64 d/\x25=.int .i64 s/\Hid ((s=8/\aS b L=[])\/(s=0/\aS b L≠ []/\d=eR b (dL [eR b] (aS b L)))))
 case first=>
  go_wp2_with(go_at_call 15
              refine(HG1.o w6 YI).mono ?_;rintro e w7 ⟨⟨h0,_⟩|⟨_,hs,rfl⟩|⟨_,hs,_,rfl,_⟩,qa⟩
              .exact absurd h0 HN.o.1
              all_goals
               have mF:=mO.t qa;clear qa)
  .go_meet
   exact⟨mF,_,_,rfl,rfl,.inl ⟨rfl,hs⟩⟩
  .go_meet
   exact⟨mF,_,_,rfl,rfl,.inr ⟨rfl,hs,rfl⟩⟩
 case rest=>
  obtain⟨mF,d,s6,rfl,rfl,HD⟩:=hcut;obtain⟨⟨z0,z1,z2,z3,z4⟩,⟨y0,y1,y2,y3,y4⟩,hw7⟩:=HZ.o wc mF.o;obtain⟨w7,YK⟩:∃w7,w7=wc:=⟨wc,rfl⟩
  rw[<-YK]at mF z0 z1 z2 z3 z4 y0 y1 y2 y3 y4 hw7⊢;clear YK YJ;go_upto_region 10 with fail
  go_cut [26,27,28]from 109 to 115 (λx26 x27 x28 wx=>Hid (Below A2.heap.size A2 wx)/\∃e s:Int,x27=.int .i64 e/\x28=.int .i64 s/\Hid (s6=0->s=0/\e<=d)/\Hid (s6=0\/s6=8))
  case first=>
   go_wp2_with(go_at_call 15
               refine(HG2.o w7 hw7).mono ?_;rintro e w8 ⟨⟨h0,_⟩|⟨_,hs,rfl⟩|⟨_,hs,_,rfl,_⟩,YL⟩
               .exact absurd h0 HN.o.2
               all_goals
                have ug:=mF.t YL;clear YL)
   .go_meet
    refine⟨ug,_,_,rfl,rfl,λh=>?_,HD.o.elim (λh=>.inr h.1) λh=>.inl h.1⟩;rcases HD.o with h1|h1
    .omega
    .exact absurd hs (HCH.o h1.2.1).1
   .go_meet
    refine⟨ug,_,_,rfl,rfl,λh=>?_,HD.o.elim (λh=>.inr h.1) λh=>.inl h.1⟩;rcases HD.o with h1|h1
    .omega
    .exact⟨rfl,by rw[h1.2.2];exact(HCH.o h1.2.1).2⟩
  case rest=>
   obtain⟨ug,e,s7,rfl,rfl,HE,Qe⟩:=hcut;obtain⟨⟨z0,z1,z2,z3,z4⟩,⟨y0,y1,y2,y3,y4⟩,YM⟩:=HZ.o wc ug.o;obtain⟨w8,Ls⟩:∃w8,w8=wc:=⟨wc,rfl⟩
   rw[<-Ls]at ug z0 z1 z2 z3 z4 y0 y1 y2 y3 y4 YM⊢;clear Ls hw7
   have wL:s6=0/\s7=0/\¬d<e\/s6=8:=by
    rcases Qe.o with h|h
    .have:=HE.o h;exact .inl ⟨h,this.1,by omega⟩
    .exact .inr h
   go_upto_region 11 with fail
   go_cut [125]from 115 to 125 (λt wx=>t=.bool false/\w8=wx)
   case first=>
    rcases wL with⟨rfl,rfl,h3⟩|rfl
    all_goals
     go_wp2_with fail
     go_meet
     exact⟨rfl,rfl⟩
   case rest=>
    obtain⟨rfl,rfl⟩:=hcut;cases is with
    |false=>
     go_wp2_with fail
     go_ret;exact⟨rfl,YM⟩
    |true=>
     obtain⟨l,it,BH,E5⟩:=UM.o.resolve_left (by simp);have HUL:Hid (∀X,Below w.heap.size w X->_):=HU.o l it BH E5;obtain⟨XG,FG⟩:=HPL.o _ BH;obtain⟨U2,TQ⟩:=ex1 (ia b.places.toNat L (ak l));obtain⟨YN,TR⟩:=ex1 (ia b'.places.toNat L' (ak l));obtain⟨MY,TS⟩:=ex1 (fp b.places.toNat L (ak l));obtain⟨Ik,TT⟩:=ex1 (fp b'.places.toNat L' (ak l));obtain⟨la1,TU⟩:=ex1 (eA b L (ak l));obtain⟨la2,TV⟩:=ex1 (eA b' L' (ak l));rw[TQ,TR,TS,TT]at XG;rw[TU,TV]at FG;have U3:Hid ((ia b.places.toNat L (ak l)=U2/\ia b'.places.toNat L' (ak l)=YN)/\(fp b.places.toNat L (ak l)=MY/\fp b'.places.toNat L' (ak l)=Ik)/\eA b L (ak l)=la1/\eA b' L' (ak l)=la2):=⟨⟨TQ,TR⟩,⟨TS,TT⟩,TU,TV⟩
     obtain⟨wI,hph⟩:=XG;have HP2:=hid FG;clear TQ TR TS TT TU TV FG it BH E5
     go_upto_region 16 with(go_at_call 22
                            refine(HUL.o _ YM).1.mono ?_;rintro e w9 ⟨⟨h0,_⟩|⟨_,rfl⟩,TW⟩
                            .exact absurd h0 HN.o.1
                            rw[U3.o.1.1,U3.o.2.1.1];have YO:=ug.t TW;clear TW z0 z1 z2 z3 z4 y0 y1 y2 y3 y4 YM)
     obtain⟨A9,hA9⟩:=ex1 (w9.alloc (.cells #[.int .i64 U2,.int .i64 MY] 43));rw[hA9];have G9:Hid (aA A9 w9.heap.size 43 #[.int .i64 U2,.int .i64 MY]):=bC hA9;have TX:Hid (Below A2.heap.size A2 A9):=YO.o.trans ((aF hA9).below (by simp) YO.o.size);obtain⟨⟨z0,z1,z2,z3,z4⟩,⟨y0,y1,y2,y3,y4⟩,hw9⟩:=HZ.o A9 TX.out;obtain⟨n9,JD⟩:=ex1 (w9.heap.size);rw[JD]at G9;rw[JD];clear hA9 JD YO
     go_upto_region 17 with(go_at_call 22
                            refine(HUL.o _ hw9).2.1.mono ?_;rintro e Dc ⟨⟨h0,_⟩|⟨_,rfl⟩,qg⟩
                            .exact absurd h0 HN.o.2
                            rw[U3.o.1.2,U3.o.2.1.2];have Lf:Hid (Below A2.heap.size A2 Dc):=TX.out.trans (qg.mono TX.out.size);have G10:=hidb G9 qg;clear qg z0 z1 z2 z3 z4 y0 y1 y2 y3 y4 hw9)
     obtain⟨A10,Lt⟩:=ex1 (Dc.alloc (.cells #[.int .i64 YN,.int .i64 Ik] 43));rw[Lt];have F10:Hid (aA A10 Dc.heap.size 43 #[.int .i64 YN,.int .i64 Ik]):=bC Lt;have YP:Hid (aA A10 n9 43 #[.int .i64 U2,.int .i64 MY]):=(aF Lt).box G10.o (by simp);have Lu:Hid (Below A2.heap.size A2 A10):=Lf.o.trans ((aF Lt).below (by simp) Lf.o.size);obtain⟨⟨z0,z1,z2,z3,z4⟩,⟨y0,y1,y2,y3,y4⟩,YQ⟩:=HZ.o A10 Lu.out;obtain⟨UJ,JX⟩:=ex1 (Dc.heap.size);rw[JX]at F10;rw[JX];clear Lt JX Lf G10
     go_upto_region 18 with(go_at_call 23
                            refine(HUL.o _ YQ).2.2.1.mono ?_;rintro e SL ⟨⟨h0,_⟩|⟨_,rfl⟩,OQ⟩
                            .exact absurd h0 HN.o.1
                            rw[U3.o.2.2.1];have YR:Hid (Below A2.heap.size A2 SL):=Lu.out.trans (OQ.mono Lu.out.size);have G11:Hid (aA SL n9 43 #[.int .i64 U2,.int .i64 MY]/\aA SL UJ 43 #[.int .i64 YN,.int .i64 Ik]):=⟨YP.out.below OQ YP.out.lt,F10.o.below OQ F10.o.lt⟩
                            clear OQ z0 z1 z2 z3 z4 y0 y1 y2 y3 y4 YQ;obtain⟨⟨z0,z1,z2,z3,z4⟩,⟨y0,y1,y2,y3,y4⟩,YS⟩:=HZ.o SL YR.o)
     go_upto_region 19 with(go_at_call 23
                            refine(HUL.o _ YS).2.2.2.mono ?_;rintro e w12 ⟨⟨h0,_⟩|⟨_,rfl⟩,OS⟩
                            .exact absurd h0 HN.o.2
                            rw[U3.o.2.2.2];have oT:=YR.t OS;have G12:Hid (aA w12 n9 43 #[.int .i64 U2,.int .i64 MY]/\aA w12 UJ 43 #[.int .i64 YN,.int .i64 Ik]):=⟨G11.o.1.below OS G11.o.1.lt,G11.o.2.below OS G11.o.2.lt⟩
                            clear OS z0 z1 z2 z3 z4 y0 y1 y2 y3 y4 YS)
     have q0:=G12.o.1.cell 0 rfl;have q1:=G12.o.1.cell 1 rfl;have q2:=G12.o.2.cell 0 rfl;have q3:=G12.o.2.cell 1 rfl;obtain⟨_,_,YT⟩:=HZ.o w12 oT.o;by_cases Uy:la1=0
     .subst Uy;clear HP2;go_wp2_with fail
      go_ret;exact⟨rfl,YT⟩
     .obtain rfl:=HP2.o.resolve_left Uy;clear HP2;go_wp2_with fail
      go_ret;exact⟨rfl,YT⟩
end Go.Proofs.Cz
