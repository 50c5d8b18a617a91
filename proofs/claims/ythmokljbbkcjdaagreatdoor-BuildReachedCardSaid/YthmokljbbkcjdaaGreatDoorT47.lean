/- A part. Conditions: none. -/
import Derived.Test.YthmokljbbkcjdaaGreatDoorT22
import Derived.Test.YthmokljbbkcjdaaGreatDoorT45
import Derived.Test.YthmokljbbkcjdaaGreatDoorT46
import Derived.Deep.CutRange
set_option linter.all false
set_option maxHeartbeats 8000000
set_option maxRecDepth 100000
namespace Go.Proofs.Cz
open Go.RowKit Go.Shelf
theorem EF (w:World) (c:Int):ao (w.alloc (.cells #[.int .i64 c] 3)) (.slice (some ⟨w.heap.size,0,none⟩) 1 1) [c]:=by
 refine⟨_,1,⟨rfl,Nat.le_refl _,by unfold maxLen;omega,(fun h=>by cases h),fun b hb=>.inr ⟨_,_,_,by cases hb;exact aJ.new w 3 _⟩⟩,fun b hb j x hj=>?_⟩;cases hb;match j,hj with
 |0,hj=>simp at hj;subst hj;exact⟨rfl,(aJ.new w 3 _).cell 0 rfl⟩
 |j+1,hj=>simp at hj
def book0:aS:=⟨0,0,[],[],[]⟩
theorem mv (w:World):bS w (.slice none 0 0) 0 none 0:=⟨rfl,Nat.le_refl _,by unfold maxLen;omega,fun _=>rfl,(fun b hb=>by cases hb)⟩
theorem wi (w:World):ar w (.agg jm) book0:=
 ⟨_,_,_,rfl,⟨none,0,mv w,fun b hb=>by cases hb⟩,⟨none,0,mv w,fun b hb=>by cases hb⟩,⟨none,0,mv w,fun b hb=>by cases hb⟩⟩
theorem EG (w:World):ao w (.slice none 0 0) []:=⟨none,0,mv w,fun b hb=>by cases hb⟩
theorem rH {b:aS} {i:Nat} {x:Part} (hv:Valid b) (hx:b.parts[i]?=some x) (c:Int) {L:List (Nat->Int)} (hL:bI b (aF b)=L):
 ((min x.hi c<max x.lo c\/bI (bV b i (max x.lo c) (min x.hi c)) (aF b)=[])↔dV L i c=[])/\(dV L i c≠ []->max x.lo c=c/\min x.hi c=c/\bI (bV b i c c) (aF b)=dV L i c):=by
 have hb:∀y∈L,x.lo<=y i/\y i<=x.hi:=by rw[<-hL];exact mt hx _ _ _ (Nat.zero_le _) (by omega)
 have ht:=(hv.parts.all i x (List.getElem?_eq_some_iff.1 hx).1 hx).1.time;by_cases h:x.lo<=c/\c<=x.hi
 .have e1:max x.lo c=c:=by omega
  have e2:min x.hi c=c:=by omega
  have e3:=yG hx h (aF b);rw[hL]at e3;rw[e1,e2,e3];exact⟨⟨fun h=>h.elim (fun h=>by omega) id,.inr⟩,fun _=>⟨rfl,rfl,rfl⟩⟩
 .have e:dV L i c=[]:=by
   unfold dV;rw[List.filter_eq_nil_iff];intro y hy;have:=hb y hy;simp;omega
  exact⟨⟨fun _=>e,fun _=>.inl (by omega)⟩,fun h=>absurd e h⟩
theorem Vy (w:World) (v:Value) (b:aS) (p:Int) (hp0:0<=p) (hp1:p<256) (hb:ar w v b) (hc:nH w):Calls ZP 6 #[v,.int .u8 p] w fun e _=>e=.returned (.bool true):=by
 have HB:Hid (ar w v b):=hb;have HC:Hid (nH w):=hc;obtain⟨a2,c2,a3,c3,a4,c4,rfl⟩:=hb.ls;obtain⟨A1,dv⟩:∃A,w.alloc (.cells #[.int .i64 b.am,.int .i64 b.places,.slice a2 b.parts.length c2,.slice a3 b.apart.length c3,.slice a4 b.aa.length c4] 26)=A:=⟨_,rfl⟩
 have B1:Hid (aJ A1 w.heap.size 26 #[.int .i64 b.am,.int .i64 b.places,.slice a2 b.parts.length c2,.slice a3 b.apart.length c3,.slice a4 b.aa.length c4]):=dh dv;have HW:Hid (Below w.heap.size w A1):=(bG dv).below (by simp) (Nat.le_refl _)
 have HZ:Hid (∀X:World,Below A1.heap.size A1 X->X.cell? ⟨w.heap.size,0,none⟩=some (.int .i64 b.am)/\X.cell? ⟨w.heap.size,1,none⟩=some (.int .i64 b.places)/\X.cell? ⟨w.heap.size,2,none⟩=some (.slice a2 b.parts.length c2)/\X.cell? ⟨w.heap.size,3,none⟩=some (.slice a3 b.apart.length c3)/\X.cell? ⟨w.heap.size,4,none⟩=some (.slice a4 b.aa.length c4)):=fun X hX=>by
  have BX:=B1.out.below hX B1.out.lt;exact⟨BX.cell 0 rfl,BX.cell 1 rfl,BX.cell 2 rfl,BX.cell 3 rfl,BX.cell 4 rfl⟩
 obtain⟨z0,z1,z2,z3,z4⟩:=HZ.out A1 (Below.refl _ _);have hF:=GY A1 _ b (HB.out.later (Kp.of HW.out));clear hc hb;go_enter ZF6,Tryz.ntmps6
 go_wp2_with fail
 refine hF.mono ?_;rintro e w1 ⟨⟨r,rfl,hr⟩,cW⟩;have kB:Hid (Below A1.heap.size A1 w1):=cW;have BF:Hid (Below w.heap.size w w1):=HW.out.trans (cW.mono HW.out.size);clear cW dv z0 z1 z2 z3 z4 hF;cases r with
 |false=>
  clear hr;go_wp2_with(go_at_call 10;refine(rG _).mono ?_;rintro e w2 ⟨rfl,_⟩)
  go_ret;rfl
 |true=>
  obtain⟨_,hv⟩:=hr rfl;have HV:Hid (Valid b):=hv;have MQ:=hv.parts.many;obtain⟨q,hq⟩:∃q:Nat,p%(b.parts.length:Int)=(q:Int):=⟨(p%b.parts.length).toNat,by have:=Int.emod_nonneg p (show(b.parts.length:Int)≠0 by omega);omega⟩
  have hqp:(q:Int)<b.parts.length:=by rw[<-hq];exact Int.emod_lt_of_pos p (by omega)
  obtain⟨x,hx⟩:∃x,b.parts[q]?=some x:=⟨_,List.getElem?_eq_getElem (by omega)⟩
  have HX:Hid (b.parts[q]?=some x):=hx;have PO:(bI b (aF b)).length<=1024:=mo hv _;have EH:=Bv hv (aF b);obtain⟨L,Hr⟩:∃L,bI b (aF b)=L:=⟨_,rfl⟩
  have PP:Hid (bI b (aF b)=L):=Hr;have Yc:Hid (∀y∈L,∀j,0<=y j/\y j<=20):=by rw[<-Hr];exact EH
  rw[Hr]at PO;have hT:=rC w1 _ b q (HB.out.later (Kp.of BF.out)) hv (HC.out.later BF.out) (by omega);rw[Hr]at hT;obtain⟨z0,z1,z2,z3,z4⟩:=HZ.out w1 kB.out;clear hr hv hx Hr EH;go_upto_region 4 with fail
  rw[hq];go_cut [6,7]from 28 (fun y s wx=>∃a c,y=.slice a (bZ L q).length c/\Hid (ao wx (.slice a (bZ L q).length c) (bZ L q))/\Hid (Below A1.heap.size A1 wx)/\((L=[]/\s=.int .i64 9)\/(L≠ []/\s=.int .i64 0)))
  case first=>
   go_wp2_with fail
   refine hT.mono ?_;rintro e w2 ⟨⟨hL,rfl⟩|⟨hL,u,rfl,hu⟩,iN⟩
   .have jM:Hid (Below A1.heap.size A1 w2):=kB.out.trans (iN.mono kB.out.size);have HL:Hid (L=[]):=hL;clear hL hT iN;go_wp2
    go_meet
    obtain rfl:L=[]:=HL.out;rw[jR];exact⟨none,0,rfl,EG _,jM,.inl ⟨rfl,rfl⟩⟩
   .have jM:Hid (Below A1.heap.size A1 w2):=kB.out.trans (iN.mono kB.out.size);have HL:Hid (L≠ []):=hL;have HU:Hid (ao w2 u (bZ L q)):=hu;clear hL hT iN hu;go_wp2
    go_meet
    obtain⟨a,c,hs,he⟩:=HU.out;obtain rfl:=hs.eq;exact⟨a,c,rfl,HU.out,jM,.inr ⟨HL.out,rfl⟩⟩
  case rest=>
   obtain⟨a,c,rfl,HU,Eu,hs⟩:=hcut;have H7:Hid (_\/_):=hs;have Vz:Hid (Below w.heap.size w wc):=HW.out.trans (Eu.out.mono HW.out.size);have hH:=kE wc _ b (HB.out.later (Kp.of Vz.out)) HV.out (HC.out.later Vz.out);unfold tV at hH;rw[PP.out]at hH;clear z0 z1 z2 z3 z4 hs hT;obtain⟨z0,z1,z2,z3,z4⟩:=HZ.out wc Eu.out
   go_upto_region 6 with(go_at_call 22
                         refine hH.mono ?_;rintro e w3 ⟨rfl,Hl⟩;have ug:Hid (Below A1.heap.size A1 w3):=Eu.out.trans (Hl.mono Eu.out.size);have HU3:Hid (ao w3 (.slice a (bZ L q).length c) (bZ L q)):=HU.out.later (Kp.of Hl);clear Hl hH z0 z1 z2 z3 z4 HU Eu Vz)
   go_cut [6,8,60]from 28 (fun y6 y8 t wx=>y6=.slice a (bZ L q).length c/\y8=.int .i64 (L.length:Int)/\t=.bool false/\w3=wx)
   case first=>
    rcases H7.out with⟨hL,rfl⟩|⟨hL,rfl⟩
    .have e0:¬(0:Int)<(L.length:Int):=by rw[hL];decide
     have e1:¬(0:Int)<((bZ L q).length:Int):=by rw[hL,jR];decide
     have HL:Hid (L=[]):=hL;clear hL;go_wp2
     go_meet
     exact⟨by rw[HL.out],by rw[HL.out];rfl,by first|rfl|(rw[jR];rfl),rfl⟩
    .have fv:0<L.length:=List.length_pos_iff.2 hL;have Sk:(0:Int)<(L.length:Int):=by omega
     go_wp2
     go_meet
     exact⟨rfl,rfl,rfl,rfl⟩
   case rest=>
    obtain⟨rfl,rfl,rfl,rfl⟩:=hcut;obtain⟨z0,z1,z2,z3,z4⟩:=HZ.out w3 ug.out;have HUS:Hid (∀c:Int,under L q c+(dV L q c).length=under L q (c+1)/\under L q (c+1)<=1024):=fun c=>⟨(yH L q c).symm,Nat.le_trans (List.length_filter_le _ _) PO⟩
    have HU0:Hid (under L q 0=0):=yI fun y hy=>(Yc.out y hy q).1;have VA:Hid (under L q 21=L.length):=BE fun y hy=>by have:=(Yc.out y hy q).2;omega
    have bd:q<b.parts.length:=by omega
    clear PO;go_wp2_with fail
    clear z0 z1 z2 z3 z4;go_loopw [10,11] (fun sm kk wr=>∃c:Nat,c<=21/\kk=.int .i64 c/\sm=.int .i64 (under L q (c:Int):Nat)/\Hid (Below w3.heap.size w3 wr)) (fun _ kk _=>21-(intOf kk).toNat)
    case atStart=>exact⟨0,by omega,rfl,by rw[show((0:Nat):Int)=0 from rfl,HU0.out];rfl,Below.refl _ _⟩
    case round=>
     obtain⟨c',Qv,rfl,rfl,hB⟩:=hrel;have nK:Hid (Below w.heap.size w wr):=HW.out.trans ((ug.out.trans (hB.out.mono ug.out.size)).mono HW.out.size);have Bt:Hid (Below A1.heap.size A1 wr):=ug.out.trans (hB.out.mono ug.out.size);obtain⟨un,J8⟩:∃un,under L q (c':Int)=un:=⟨_,rfl⟩
     have VB:Hid (under L q (c':Int)=un):=J8;rw[J8];clear J8;by_cases ap:c'<21
     .obtain⟨wl,RE⟩:∃wl,(dV L q (c':Int)).length=wl:=⟨_,rfl⟩
      have Yd:Hid ((dV L q (c':Int)).length=wl):=RE;have RF:=HUS.out (c':Int);have VC:un+wl<=1024:=by rw[<-VB.out,<-RE,RF.1];exact RF.2
      have Ye:Hid (un+wl=under L q ((c'+1:Nat):Int)):=by rw[<-VB.out,<-RE,RF.1];rfl
      clear RE RF;have yU:(c':Int)<=20:=by omega
      have HS:Hid (∀X:World,Below wr.heap.size wr X->(X.cell? ⟨w.heap.size,0,none⟩=some (.int .i64 b.am)/\X.cell? ⟨w.heap.size,1,none⟩=some (.int .i64 b.places)/\X.cell? ⟨w.heap.size,2,none⟩=some (.slice a2 b.parts.length c2)/\X.cell? ⟨w.heap.size,3,none⟩=some (.slice a3 b.apart.length c3)/\X.cell? ⟨w.heap.size,4,none⟩=some (.slice a4 b.aa.length c4))/\Below wr.heap.size wr X):=fun X hX=>
       ⟨HZ.out X (Bt.out.trans (hX.mono Bt.out.size)),hX⟩
      go_upto_region 12 with fail
      go_cut [12,13]from 61 to 131 (fun y s wx=>∃g:Nat,y=ptr g/\Hid (Below wr.heap.size wr wx)/\((Hid (dV L q (c':Int)=[])/\s=.int .i64 9/\Hid (aJ wx g 26 jm))\/(Hid (dV L q (c':Int)≠ [])/\s=.int .i64 0/\
       ∃p2 n2 k2 p3 n3 k3 p4 n4 k4,Hid (aJ wx g 26 #[.int .i64 b.am,.int .i64 b.places,.slice p2 n2 k2,.slice p3 n3 k3,.slice p4 n4 k4])/\Hid (ar wx (.agg #[.int .i64 b.am,.int .i64 b.places,.slice p2 n2 k2,.slice p3 n3 k3,.slice p4 n4 k4]) (bV b q (c':Int) (c':Int))))))
      case first=>
       have Mh:=rH HV.out HX.out (c':Int) PP.out
       have yB:Hid (∀(wx:World) (g:Nat) (x0 x1 s:Int) (p2:Option Addr) (n2 k2:Nat) (p3:Option Addr) (n3 k3:Nat) (p4:Option Addr) (n4 k4:Nat),Below wr.heap.size wr wx->aJ wx g 26 #[.int .i64 x0,.int .i64 x1,.slice p2 n2 k2,.slice p3 n3 k3,.slice p4 n4 k4]->
        (((min x.hi (c':Int)<max x.lo (c':Int)\/bI (bV b q (max x.lo c') (min x.hi c')) (aF b)=[])/\s=9/\Value.agg #[.int .i64 x0,.int .i64 x1,.slice p2 n2 k2,.slice p3 n3 k3,.slice p4 n4 k4]=.agg jm)\/
          (max x.lo (c':Int)<=min x.hi (c':Int)/\bI (bV b q (max x.lo c') (min x.hi c')) (aF b)≠ []/\s=0/\ar wx (.agg #[.int .i64 x0,.int .i64 x1,.slice p2 n2 k2,.slice p3 n3 k3,.slice p4 n4 k4]) (bV b q (max x.lo c') (min x.hi c'))))->
        ∃g':Nat,ptr g=ptr g'/\Hid (Below wr.heap.size wr wx)/\((Hid (dV L q (c':Int)=[])/\Value.int .i64 s=.int .i64 9/\Hid (aJ wx g' 26 jm))\/(Hid (dV L q (c':Int)≠ [])/\Value.int .i64 s=.int .i64 0/\
         ∃p2 n2 k2 p3 n3 k3 p4 n4 k4,Hid (aJ wx g' 26 #[.int .i64 b.am,.int .i64 b.places,.slice p2 n2 k2,.slice p3 n3 k3,.slice p4 n4 k4])/\Hid (ar wx (.agg #[.int .i64 b.am,.int .i64 b.places,.slice p2 n2 k2,.slice p3 n3 k3,.slice p4 n4 k4]) (bV b q (c':Int) (c':Int)))))):=fun wx g x0 x1 s p2 n2 k2 p3 n3 k3 p4 n4 k4 h1 h2 h3=>by
        rcases h3 with⟨h4,rfl,h5⟩|⟨h4,h5,rfl,h6⟩
        .have h7:=Value.agg.inj h5;rw[h7]at h2;exact⟨g,rfl,h1,.inl ⟨Mh.1.1 h4,rfl,h2⟩⟩
        .have h7:dV L q (c':Int)≠ []:=fun h=>(Mh.1.2 h).elim (fun h=>by omega) h5;obtain⟨e1,e2,_⟩:=Mh.2 h7;rw[e1,e2]at h6;have h8:=h6;obtain⟨_,_,_,e,_⟩:=h8;simp only[Value.agg.injEq,Array.mk.injEq,List.cons.injEq,Value.int.injEq,true_and,and_true]at e;obtain⟨rfl,rfl,_⟩:=e;exact⟨g,rfl,h1,.inr ⟨h7,rfl,_,_,_,_,_,_,_,_,_,h2,h6⟩⟩
       have PQ:Hid (∀X:World,((X.cell? ⟨w.heap.size,0,none⟩=some (.int .i64 b.am)/\X.cell? ⟨w.heap.size,1,none⟩=some (.int .i64 b.places)/\X.cell? ⟨w.heap.size,2,none⟩=some (.slice a2 b.parts.length c2)/\X.cell? ⟨w.heap.size,3,none⟩=some (.slice a3 b.apart.length c3)/\X.cell? ⟨w.heap.size,4,none⟩=some (.slice a4 b.aa.length c4))/\Below wr.heap.size wr X)->Below wr.heap.size wr X):=fun _ h=>h.2
       have Vg:Hid (∀X:World,Below wr.heap.size wr X->Calls ZP 26 #[.agg #[.int .i64 b.am,.int .i64 b.places,.slice a2 b.parts.length c2,.slice a3 b.apart.length c3,.slice a4 b.aa.length c4],.int .i64 q,.agg #[.int .i64 c',.int .i64 c']] X (zV X b q (max x.lo c') (min x.hi c'))):=fun X hX=>
        have Ht:=nK.out.trans (hX.mono nK.out.size);EC X _ b q x c' c' (HB.out.later (Kp.of Ht)) HV.out (HC.out.later Ht) HX.out ⟨by omega,by omega,by omega⟩
       go_region_held3 (fun X:World=>(X.cell? ⟨w.heap.size,0,none⟩=some (.int .i64 b.am)/\X.cell? ⟨w.heap.size,1,none⟩=some (.int .i64 b.places)/\X.cell? ⟨w.heap.size,2,none⟩=some (.slice a2 b.parts.length c2)/\X.cell? ⟨w.heap.size,3,none⟩=some (.slice a3 b.apart.length c3)/\X.cell? ⟨w.heap.size,4,none⟩=some (.slice a4 b.aa.length c4))/\Below wr.heap.size wr X)
        (first
          |with_reducible exact HS.out _ tG.out
          |with_reducible exact HS.out _ Hy.out
          |with_reducible exact HS.out _ (Hu.out _ _ _ _ _)
          |with_reducible exact HS.out _ (tG.out.alloc tG.out.size _)
          |with_reducible exact HS.out _ (Hy.out.alloc Hy.out.size _)
          |exact HS.out _ (Below.drewN (Below.refl wr.heap.size wr) 1)
          |exact HS.out _ (Below.drewN ((Below.refl wr.heap.size wr).alloc (Nat.le_refl _) _) 1)
          |fail)
        (first
          |(go_at_call 27
            have hh:=PQ.out _ (by assumption);refine(zW _ _).mono ?_;rintro e w5 ⟨rfl,Ca⟩;have Hy:Hid (Below wr.heap.size wr w5):=hh.trans (Ca.mono hh.size);(first|(have VD:Hid (aJ w5 wr.heap.size 26 jm):=(aJ.new (wr.drewN 1) 26 jm).below Ca (by simp))|skip)
            clear Ca hh)
          |(go_at_call 26
            have hh:=PQ.out _ (by assumption);refine(Vg.out _ hh).mono ?_;rintro e w7 ⟨⟨x0,x1,p2,n2,k2,p3,n3,k3,p4,n4,k4,s,rfl,BY⟩,yC⟩;have tG:Hid (Below wr.heap.size wr w7):=hh.trans (yC.mono hh.size);have Hw:Hid (_\/_):=BY
            (first
              |(have tH:Hid (aJ w7 wr.heap.size 26 jm):=VD.out.below yC VD.out.lt
                have Hu:Hid (∀v0 v1 v2 v3 v4,Below wr.heap.size wr (((((w7.setCell ⟨wr.heap.size,0,none⟩ v0).setCell ⟨wr.heap.size,1,none⟩ v1).setCell ⟨wr.heap.size,2,none⟩ v2).setCell ⟨wr.heap.size,3,none⟩ v3).setCell ⟨wr.heap.size,4,none⟩ v4)):=(fun v0 v1 v2 v3 v4=>tG.out.trans ((tN v0 v1 v2 v3 v4 tH.out).2.below (by simp) tG.out.size))
                obtain⟨⟨u0,u1,Vd,Ve,Vf⟩,f0,f1,f2,f3,f4⟩:=wd tH.out)
              |(have tH:Hid (aJ w7 w5.heap.size 26 jm):=(aJ.new w5 26 jm).below yC (by simp)
                have Hu:Hid (∀v0 v1 v2 v3 v4,Below wr.heap.size wr (((((w7.setCell ⟨w5.heap.size,0,none⟩ v0).setCell ⟨w5.heap.size,1,none⟩ v1).setCell ⟨w5.heap.size,2,none⟩ v2).setCell ⟨w5.heap.size,3,none⟩ v3).setCell ⟨w5.heap.size,4,none⟩ v4)):=(fun v0 v1 v2 v3 v4=>tG.out.trans ((tN v0 v1 v2 v3 v4 tH.out).2.below (by simp;exact Hy.out.size) tG.out.size))
                obtain⟨⟨u0,u1,Vd,Ve,Vf⟩,f0,f1,f2,f3,f4⟩:=wd tH.out)
              |skip)
            clear BY yC hh))
       all_goals go_wp2_with fail
       all_goals go_meet
       all_goals
        first
         |(have hz:=VD.out
           have hk:=Hu.out;refine yB.out _ _ x0 x1 s _ _ _ _ _ _ _ _ _ (hk _ _ _ _ _) (tN _ _ _ _ _ tH.out).1 (Hw.out.imp id fun⟨h1,h2,h3,h4⟩=>⟨h1,h2,h3,h4 _ [wr.heap.size] (fun o ho=>?_) (tN _ _ _ _ _ tH.out).2⟩);simp at ho;subst ho;exact hz.lt)
         |(have hk:=Hu.out
           refine yB.out _ _ x0 x1 s _ _ _ _ _ _ _ _ _ (hk _ _ _ _ _) (tN _ _ _ _ _ tH.out).1 (Hw.out.imp id fun⟨h1,h2,h3,h4⟩=>⟨h1,h2,h3,h4 _ [w5.heap.size] (fun o ho=>?_) (tN _ _ _ _ _ tH.out).2⟩);simp at ho;subst ho;simp)
         |exact yB.out _ _ x0 x1 s _ _ _ _ _ _ _ _ _ (tG.out.alloc tG.out.size _) (aJ.new w7 26 _) (Hw.out.imp id fun⟨h1,h2,h3,h4⟩=>⟨h1,h2,h3,h4 _ [] (fun o ho=>by cases ho) (aj.alloc _ _ _)⟩)
      case rest=>
       obtain⟨g,rfl,EI,nQ⟩:=hcut;obtain⟨wv,Yf⟩:∃wv,wv=wc:=⟨wc,rfl⟩
       rw[<-Yf]at EI nQ⊢;clear Yf;have zO:Hid (Below w3.heap.size w3 wv):=hB.out.trans (EI.out.mono hB.out.size);have VE:Hid (Below w.heap.size w wv):=nK.out.trans (EI.out.mono nK.out.size);have HUx:Hid (ao wv (.slice a (bZ L q).length c) (bZ L q)):=HU3.out.later (Kp.of zO.out);have hh:=zK wv _ (bZ L q) (c':Int) HUx.out;rcases nQ with⟨B6,rfl,Hx⟩|⟨B6,rfl,p2,n2,k2,p3,n3,k3,p4,n4,k4,Hx,VF⟩
       .rw[decide_eq_false (fun h=>jQ.1 h B6.out)]at hh;obtain⟨⟨o0,o1,o2,o3,o4⟩,_⟩:=wd Hx.out;have FE:=we wv (.agg jm) (.agg jm) book0 (wi _) (wi _)
        have HN1:Hid (under L q ((c'+1:Nat):Int)=un):=by
         have h1:=Ye.out;have h2:=Yd.out;rw[B6.out]at h2;simp only[List.length_nil]at h2;exact(by omega:under L q ((c'+1:Nat):Int)=un)
        go_wp2_with(first
         |(go_at_call 20;refine hh.mono ?_;rintro e w' ⟨rfl,VG⟩;obtain rfl:wv=w':=VG.symm)
         |(go_at_call 28
           refine FE.mono ?_;rintro e w8 ⟨rfl,M3⟩;have Cd:Hid (Below w3.heap.size w3 w8):=zO.out.trans (M3.mono zO.out.size);clear M3))
        go_round
        case rel=>exact⟨c'+1,by omega,by go_num,by rw[HN1.out],Cd⟩
        case measure=>simp[intOf];omega
       .rw[decide_eq_true (jQ.2 B6.out)]at hh;have Jy:=Hx.out;have o0:wv.cell? ⟨g,0,none⟩=some (.int .i64 b.am):=Jy.cell 0 rfl;have o1:wv.cell? ⟨g,1,none⟩=some (.int .i64 b.places):=Jy.cell 1 rfl;have o2:wv.cell? ⟨g,2,none⟩=some (.slice p2 n2 k2):=Jy.cell 2 rfl;have o3:wv.cell? ⟨g,3,none⟩=some (.slice p3 n3 k3):=Jy.cell 3 rfl;have o4:wv.cell? ⟨g,4,none⟩=some (.slice p4 n4 k4):=Jy.cell 4 rfl;have Mh:=(rH HV.out HX.out (c':Int) PP.out).2 B6.out;have Yg:0<=(c':Int)/\(c':Int)<=(c':Int)/\(c':Int)<=20:=⟨by omega,by omega,yU⟩
        have Yh:Hid (Valid (bV b q (c':Int) (c':Int))):=nJ HV.out q Yg (by omega);have RG:=kE wv _ (bV b q (c':Int) (c':Int)) VF.out Yh.out (HC.out.later VE.out);unfold tV at RG;rw[show aF (bV b q (c':Int) (c':Int))=aF b from rfl,Mh.2.2,Yd.out]at RG;have HHT:Hid (bI (bV b q (c':Int) (c':Int)) (aF (bV b q (c':Int) (c':Int)))=dV L q (c':Int)):=Mh.2.2;clear Jy Mh Yg
        go_upto_region 17 with(first
         |(go_at_call 20;refine hh.mono ?_;rintro e w' ⟨rfl,VG⟩;obtain rfl:wv=w':=VG.symm)
         |(go_at_call 22
           refine RG.mono ?_;rintro e w8 ⟨rfl,M3⟩;have Cd:Hid (Below wv.heap.size wv w8):=M3;have MZ:Hid (Below w.heap.size w w8):=VE.out.trans (M3.mono VE.out.size);clear M3 RG o0 o1 o2 o3 o4))
        have BH:=Hx.out.below Cd.out Hx.out.lt;have o0:w8.cell? ⟨g,0,none⟩=some (.int .i64 b.am):=BH.cell 0 rfl;have o1:w8.cell? ⟨g,1,none⟩=some (.int .i64 b.places):=BH.cell 1 rfl;have o2:w8.cell? ⟨g,2,none⟩=some (.slice p2 n2 k2):=BH.cell 2 rfl;have o3:w8.cell? ⟨g,3,none⟩=some (.slice p3 n3 k3):=BH.cell 3 rfl;have o4:w8.cell? ⟨g,4,none⟩=some (.slice p4 n4 k4):=BH.cell 4 rfl;have Nt:=rC w8 _ (bV b q (c':Int) (c':Int)) q (VF.out.later (Kp.of Cd.out)) Yh.out (HC.out.later MZ.out) (by rw[show(bV b q (c':Int) (c':Int)).parts=retime b.parts q c' c' from rfl,gI];exact bd);rw[HHT.out]at Nt;clear BH
        go_upto_region 18 with(go_at_call 25
                               refine Nt.mono ?_;rintro e w9 ⟨Yi,VH⟩
                               obtain⟨u,rfl,hu⟩:∃u,e=.returned (.tuple #[u,.int .i64 0])/\ao w9 u [(c':Int)]:=(by
                                rcases Yi with⟨h0,_⟩|⟨_,u,h1,h2⟩
                                .exact absurd h0 B6.out
                                .rw[tW B6.out]at h2;exact⟨u,h1,h2⟩)
                               have HU9:Hid (ao w9 u [(c':Int)]):=hu;have JM:Hid (Below wv.heap.size wv w9):=Cd.out.trans (VH.mono Cd.out.size);have ED:Hid (Below w.heap.size w w9):=MZ.out.trans (VH.mono MZ.out.size);clear VH Yi hu Nt o0 o1 o2 o3 o4)
        go_cut [128]from 106 to 128 (fun t wx=>t=.bool false/\Hid (Below w9.heap.size w9 wx))
        case first=>
         have M5:Hid (∀X:World,Below w9.heap.size w9 X->(X.cell? ⟨w.heap.size,0,none⟩=some (.int .i64 b.am)/\X.cell? ⟨w.heap.size,1,none⟩=some (.int .i64 b.places)/\X.cell? ⟨w.heap.size,2,none⟩=some (.slice a2 b.parts.length c2)/\X.cell? ⟨w.heap.size,3,none⟩=some (.slice a3 b.apart.length c3)/\X.cell? ⟨w.heap.size,4,none⟩=some (.slice a4 b.aa.length c4))/\(X.cell? ⟨g,0,none⟩=some (.int .i64 b.am)/\X.cell? ⟨g,1,none⟩=some (.int .i64 b.places)/\X.cell? ⟨g,2,none⟩=some (.slice p2 n2 k2)/\X.cell? ⟨g,3,none⟩=some (.slice p3 n3 k3)/\X.cell? ⟨g,4,none⟩=some (.slice p4 n4 k4))/\Below w9.heap.size w9 X):=fun X hX=>by
          have h1:=Hx.out.below (JM.out.trans (hX.mono JM.out.size)) Hx.out.lt;exact⟨HZ.out X (Bt.out.trans ((EI.out.trans ((JM.out.trans (hX.mono JM.out.size)).mono EI.out.size)).mono Bt.out.size)),⟨h1.cell 0 rfl,h1.cell 1 rfl,h1.cell 2 rfl,h1.cell 3 rfl,h1.cell 4 rfl⟩,hX⟩
         have RH:Hid (Below w9.heap.size w9 ((w9.alloc (.cells #[.int .i64 c'] 3)).drewN 1)):=Below.drewN ((Below.refl _ _).alloc (Nat.le_refl _) _) 1
         have HLI:Hid (Calls ZP 29 #[u,.slice (some ⟨w9.heap.size,0,none⟩) 1 1] ((w9.alloc (.cells #[.int .i64 c'] 3)).drewN 1) (eX ((w9.alloc (.cells #[.int .i64 c'] 3)).drewN 1) (.bool true))):=
          BG _ u _ [(c':Int)] (HU9.out.later (Kp.of RH.out)) (ao.later (w:=w9.alloc (.cells #[.int .i64 (c':Int)] 3)) (w':=(w9.alloc (.cells #[.int .i64 (c':Int)] 3)).drewN 1) (fun _ _=>rfl) (EF w9 c'))
         go_region_held3 (fun X:World=>(X.cell? ⟨w.heap.size,0,none⟩=some (.int .i64 b.am)/\X.cell? ⟨w.heap.size,1,none⟩=some (.int .i64 b.places)/\X.cell? ⟨w.heap.size,2,none⟩=some (.slice a2 b.parts.length c2)/\X.cell? ⟨w.heap.size,3,none⟩=some (.slice a3 b.apart.length c3)/\X.cell? ⟨w.heap.size,4,none⟩=some (.slice a4 b.aa.length c4))/\(X.cell? ⟨g,0,none⟩=some (.int .i64 b.am)/\X.cell? ⟨g,1,none⟩=some (.int .i64 b.places)/\X.cell? ⟨g,2,none⟩=some (.slice p2 n2 k2)/\X.cell? ⟨g,3,none⟩=some (.slice p3 n3 k3)/\X.cell? ⟨g,4,none⟩=some (.slice p4 n4 k4))/\Below w9.heap.size w9 X)
          (first
            |with_reducible exact M5.out _ Qa.out
            |with_reducible exact M5.out _ tQ.out
            |with_reducible exact M5.out _ Ic.out
            |with_reducible exact M5.out _ Ib.out
            |exact M5.out _ (Below.drewN (Below.refl w9.heap.size w9) 1)
            |exact M5.out _ RH.out
            |fail)
          (first
            |(go_at_call 29
              refine HLI.out.mono ?_;rintro e Ji ⟨rfl,yJ⟩;have Ib:Hid (Below w9.heap.size w9 Ji):=RH.out.trans (yJ.mono RH.out.size);clear yJ)
            |(go_at_call 27
              refine(zW _ _).mono ?_;rintro e Q4 ⟨rfl,Qb⟩;have Ic:Hid (Below w9.heap.size w9 Q4):=Ib.out.trans (Qb.mono Ib.out.size);clear Qb)
            |(go_at_call 30
              refine(BD Q4 _ b q c' c' (HB.out.later (Kp.of (ED.out.trans (Ic.out.mono ED.out.size)))) MQ.2 bd).mono ?_;rintro e VI ⟨⟨ub,rfl,VC⟩,Qc⟩;have tQ:Hid (Below w9.heap.size w9 VI):=Ic.out.trans (Qc.mono Ic.out.size);have HUB:Hid (ar VI ub (bV b q (c':Int) (c':Int))):=VC;clear Qc VC)
            |(go_at_call 28
              refine(we VI _ ub (bV b q (c':Int) (c':Int)) (VF.out.later (Kp.of (JM.out.trans (tQ.out.mono JM.out.size)))) HUB.out).mono ?_;rintro e w13 ⟨rfl,Qd⟩;have Qa:Hid (Below w9.heap.size w9 w13):=tQ.out.trans (Qd.mono tQ.out.size);clear Qd))
         go_wp2_with fail
         go_meet
         exact⟨rfl,Qa⟩
        case rest=>
         obtain⟨rfl,HBd⟩:=hcut;have HBe:Hid (Below w3.heap.size w3 wc):=zO.out.trans ((JM.out.trans (HBd.out.mono JM.out.size)).mono zO.out.size);go_wp2
         go_round
         case rel=>exact⟨c'+1,by omega,by go_num,by rw[<-Ye.out];go_num,HBe⟩
         case measure=>simp[intOf];omega
     .have ec:c'=21:=by omega
      subst ec;have e1:un=L.length:=by rw[<-VB.out];exact VA.out
      subst e1;go_wp2_with(go_at_call 10;refine(rG _).mono ?_;rintro e w8 ⟨rfl,_⟩)
      go_ret;rfl
end Go.Proofs.Cz
namespace Go.Proofs.Cz
open Go.Conc Go.aC
def S1 (n:Nat):Bool:=(Nat.blt n 170&&!([0,1,2,5,10,21,44,58,88,141,142,143,144,145,146,147,148,149,150,151,152,153,154,155,156,165,166,167].contains n))||Nat.beq n JK||Nat.beq n (JK+11)
theorem Mi:az ZP:=fun t i v h1 h2=>Cw.fO t i v h1 h2
theorem EJ:ai ZP:=fun t i u h=>Cw.db t i u h
noncomputable def mb (lo n:Nat):Bool:=(List.range n).all fun i=>!S1 (lo+i)||(match Tryz.funcs[lo+i]? with
 |some fn=>(match fn.body with|some c=>codeOk ZP S1 c&&!(fn.name== "runtime.NumGoroutine")|none=>false)
 |none=>false)
theorem Tv:mb 0 40=true:=by kernel_rfl
theorem Tx:mb 40 60=true:=by kernel_rfl
theorem Ty:mb 100 69=true:=by kernel_rfl
theorem pn {lo n i:Nat} (h:mb lo n=true) (h1:lo<=i) (h2:i<lo+n) (hs:S1 i=true):∃fn c,Tryz.funcs[i]? =some fn/\fn.body=some c/\codeOk ZP S1 c=true/\fn.name≠ "runtime.NumGoroutine" :=by
 have:=List.all_eq_true.1 h (i-lo) (by simp;omega);rw[show lo+(i-lo)=i by omega,hs]at this;simp only[Bool.not_true,Bool.false_or]at this;cases hf:Tryz.funcs[i]? with
 |none=>rw[hf]at this;cases this
 |some fn=>
  rw[hf]at this;simp only at this;cases qd:fn.body with
  |none=>rw[qd]at this;cases this
  |some c=>
   rw[qd]at this;simp only[Bool.and_eq_true,Bool.not_eq_true',beq_eq_false_iff_ne]at this;exact⟨fn,c,rfl,qd,this.1,this.2⟩
theorem zX {f:Nat} (h:S1 f=true):f<170\/f=JK\/f=JK+11:=by
 simp only[S1,Bool.or_eq_true,Bool.and_eq_true]at h;rcases h with(⟨h,_⟩|h)|h
 .exact .inl (by simpa using h)
 .exact .inr (.inl (Nat.eq_of_beq_eq_true h))
 .exact .inr (.inr (Nat.eq_of_beq_eq_true h))
theorem JN {f:Nat} (h1:170<=f) (h2:f≠JK) (h3:f≠JK+11):S1 f=false:=by
 cases h:S1 f with
 |false=>rfl
 |true=>rcases zX h with h|h|h<;>omega
theorem rI:ZP.funcs.size=169:=by rw[Tz.pw];unfold Tz.funcs;rw[Array.size_setIfInBounds,Tz.size]
theorem pH:ZP.globals.size=1:=by kernel_rfl
theorem zY:Closed ZP Tryz.funcs S1 E8 where
 fO:=Mi
 db:=EJ
 Nh:=fun _=>by kernel_rfl
 size:=by rw[rI,Tz.size]
 BQ:=fun f hf=>by
  rw[rI,pH];refine⟨fun _=>?_,fun _ a b h=>h⟩;have hJ:JK=1000000:=rfl;rcases zX hf with h|h|h<;>refine JN ?_ ?_ ?_<;>omega
 body:=fun f hf=>by
  have hJ:JK=1000000:=rfl;rcases zX hf with h|h|h
  .by_cases h9:f=169
   .subst h9;exact .inl ⟨Array.getElem?_eq_none (by rw[rI];omega),Array.getElem?_eq_none (by rw[Tz.size];omega)⟩
   .obtain⟨fn,c,h1,h2,h3,h4⟩:∃fn c,Tryz.funcs[f]? =some fn/\fn.body=some c/\codeOk ZP S1 c=true/\fn.name≠ "runtime.NumGoroutine" :=by
     by_cases l1:f<40
     .exact pn Tv (by omega) (by omega) hf
     .by_cases l2:f<100
      .exact pn Tx (by omega) (by omega) hf
      .exact pn Ty (by omega) (by omega) hf
    have nR:10≠f:=fun e=>by subst e;cases hf
    exact .inr ⟨fn,fn,c,c,(Tz.same f nR).trans h1,h1,h2,h2,.same h3 (.inr fun _ _ hh=>hh),h4,h4,rfl,rfl⟩
  .exact .inl ⟨Array.getElem?_eq_none (by rw[rI];omega),Array.getElem?_eq_none (by rw[Tz.size];omega)⟩
  .exact .inl ⟨Array.getElem?_eq_none (by rw[rI];omega),Array.getElem?_eq_none (by rw[Tz.size];omega)⟩
theorem Id:S1 (ZP.funcs.size+ZP.globals.size)=false:=by rw[rI,pH];exact JN (by omega) (by decide) (by decide)
theorem Qe:ab ZP Tryz.funcs=Tryz.prog:=rfl
end Go.Proofs.Cz
