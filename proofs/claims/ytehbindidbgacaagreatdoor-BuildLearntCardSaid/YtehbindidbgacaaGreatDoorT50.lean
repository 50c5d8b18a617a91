/- A part. Conditions: none. -/
import Derived.Test.YtehbindidbgacaaGreatDoorT20
import Derived.Test.YtehbindidbgacaaGreatDoorT47
import Derived.Test.YtehbindidbgacaaGreatDoorT48
import Derived.Test.YtehbindidbgacaaGreatDoorT49
set_option linter.all false
set_option maxHeartbeats 8000000
set_option maxRecDepth 100000
namespace Go.Proofs.Cz
open Go.RowKit Go.Shelf
theorem Bt {b:ap} (h:fS b) (i:Nat) (lo hi:Int):fS (dK b i lo hi):=λj y hj hy=>by
 obtain⟨x,hx,e,_⟩:=nK (show(retime b.parts i lo hi)[j]?=some y from hy);rw[e];exact h j x (zAK.1 hx).1 hx
def DW:ap:=⟨0,0,[],[],[]⟩
theorem Lw (w:World):bA w (.slice none 0 0) 0 none 0:=⟨rfl,zAC _,by unfold maxLen;omega,λ_=>rfl,(λb hb=>by cases hb)⟩
theorem mM (w:World):ar w (.agg i7) DW:=
 ⟨_,_,_,rfl,⟨none,0,Lw w,λb hb=>by cases hb⟩,⟨none,0,Lw w,λb hb=>by cases hb⟩,⟨none,0,Lw w,λb hb=>by cases hb⟩⟩
def qh (w:World) (g:Nat) (b b':ap) (s:Int) (P:Prop):Prop:=
 (P/\aA w g 26 i7)\/(s=0/\Knows b b'/\∃p2 n2 k2 p3 n3 k3 p4 n4 k4,aA w g 26 #[.int .i64 b'.ac,.int .i64 b'.places,.slice p2 n2 k2,.slice p3 n3 k3,.slice p4 n4 k4]/\ar w (.agg #[.int .i64 b'.ac,.int .i64 b'.places,.slice p2 n2 k2,.slice p3 n3 k3,.slice p4 n4 k4]) b')
theorem qh.mk {w:World} {g:Nat} {b b':ap} {x0 x1:Int} {p2 p3 p4:Option Addr} {n2 k2 n3 k3 n4 k4:Nat} {P:Prop} {s:Int} (hx:aA w g 26 #[.int .i64 x0,.int .i64 x1,.slice p2 n2 k2,.slice p3 n3 k3,.slice p4 n4 k4])
 (h:(P/\Value.agg #[.int .i64 x0,.int .i64 x1,.slice p2 n2 k2,.slice p3 n3 k3,.slice p4 n4 k4]=.agg i7)\/(s=0/\Knows b b'/\ar w (.agg #[.int .i64 x0,.int .i64 x1,.slice p2 n2 k2,.slice p3 n3 k3,.slice p4 n4 k4]) b')):qh w g b b' s P:=by
 rcases h with⟨h1,h2⟩|⟨h1,h2,h3⟩
 .have h4:=Value.agg.inj h2;rw[h4]at hx;exact .inl ⟨h1,hx⟩
 .have h8:=h3;obtain⟨_,_,_,e,_⟩:=h8;simp only[Value.agg.injEq,zBU,zBR,Value.int.injEq,zCB,zDB]at e;obtain⟨rfl,rfl,_⟩:=e;exact .inr ⟨h1,h2,_,_,_,_,_,_,_,_,_,hx,h3⟩
def zeM (w:World) (b b':ap) (e:Ending) (w':World):Prop:=
 (∃x0 x1 p2 n2 k2 p3 n3 k3 p4 n4 k4 s,e=.returned (.tuple #[.agg #[.int .i64 x0,.int .i64 x1,.slice p2 n2 k2,.slice p3 n3 k3,.slice p4 n4 k4],.int .i64 s])/\
   (((s=1\/s=9)/\Value.agg #[.int .i64 x0,.int .i64 x1,.slice p2 n2 k2,.slice p3 n3 k3,.slice p4 n4 k4]=.agg i7)\/
     (s=0/\Knows b b'/\Hg w w' (.agg #[.int .i64 x0,.int .i64 x1,.slice p2 n2 k2,.slice p3 n3 k3,.slice p4 n4 k4]) b')))/\Below w.heap.size w w'
theorem Ho (w:World) (v:Value) (b:ap) (i:Nat) (x:Part) (lo hi:Int) (hb:ar w v b) (hv:Valid b) (hc:iv w) (hx:b.parts[i]?=some x):
 Calls ZP 31 #[v,.int .i64 i,.agg #[.int .i64 lo,.int .i64 hi]] w (zeM w b (dK b i (max x.lo lo) (min x.hi hi))):=by
 by_cases hs:0<=lo/\lo<=hi/\hi<=20
 .refine(Lc w v b i x lo hi hb hv hc hx hs).mono ?_;rintro e w' ⟨⟨x0,x1,p2,n2,k2,p3,n3,k3,p4,n4,k4,s,rfl,h⟩,LU⟩;refine⟨⟨x0,x1,p2,n2,k2,p3,n3,k3,p4,n4,k4,s,rfl,?_⟩,LU⟩;rcases h with⟨_,h2,h3⟩|⟨h1,h2,h3,h4⟩
  .exact .inl ⟨.inr h2,h3⟩
  .exact .inr ⟨h3,DV hv hx ⟨by omega,by omega⟩ h1 h2,h4⟩
 .refine(Bs w v b i x lo hi hb hv hc hx hs).mono ?_;rintro e w' ⟨rfl,LU⟩;exact⟨⟨_,_,_,_,_,_,_,_,_,_,_,_,rfl,.inl ⟨.inl rfl,rfl⟩⟩,LU⟩
theorem zeN (w:World) (v vt:Value) (b:ap) (t:bH) (p l2 h2 n:Int) (XF:0<=p) (XG:p<256) (hn:0<=n/\n<65536) (hb:ar w v b) (ht:am w vt t.parts) (hc:iv w):
 Calls ZP 5 #[v,.agg #[vt,.int .i64 t.lo,.int .i64 t.hi],.int .u8 p,.agg #[.int .i64 l2,.int .i64 h2],.int .u16 n] w λe _=>e=.returned (.bool true):=by
 have HB:=hid hb;have HT:=hid ht;have HC:Hid (iv w):=hc;obtain⟨a2,c2,a3,c3,a4,c4,rfl⟩:=hb.dA;obtain⟨qO,qP,If,Yv⟩:=ht;obtain rfl:=If.eq;obtain⟨A1,aV⟩:=ex1 (w.alloc (.cells #[.int .i64 b.ac,.int .i64 b.places,.slice a2 b.parts.length c2,.slice a3 b.apart.length c3,.slice a4 b.aa.length c4] 26));obtain⟨A2,bc⟩:=ex1 (A1.alloc (.cells #[.slice qO t.parts.length qP,.int .i64 t.lo,.int .i64 t.hi] 65));obtain⟨A3,eE⟩:=ex1 (A2.alloc (.cells #[.int .i64 l2,.int .i64 h2] 43));have cS:=dt aV;have gV:=dt bc;rw[cS]at gV;have B1:Hid (aA A3 w.heap.size 26 #[.int .i64 b.ac,.int .i64 b.places,.slice a2 b.parts.length c2,.slice a3 b.apart.length c3,.slice a4 b.aa.length c4]):=((aF bc).trans' (aF eE)).box (bC aV) (by simp);have B2:Hid (aA A3 (w.heap.size+1) 65 #[.slice qO t.parts.length qP,.int .i64 t.lo,.int .i64 t.hi]):=by have:=(aF eE).box (bC bc) (by simp);rw[cS]at this;exact this
 have B3:Hid (aA A3 (w.heap.size+1+1) 43 #[.int .i64 l2,.int .i64 h2]):=by have:=bC eE;rw[gV]at this;exact this
 have HW:Hid (Below w.heap.size w A3):=((aF aV).trans' ((aF bc).trans' (aF eE))).below (by simp) (zAC _)
 have HZ:Hid (∀X:World,Below A3.heap.size A3 X->(X.cell? ⟨w.heap.size,0,none⟩=some (.int .i64 b.ac)/\X.cell? ⟨w.heap.size,1,none⟩=some (.int .i64 b.places)/\X.cell? ⟨w.heap.size,2,none⟩=some (.slice a2 b.parts.length c2)/\X.cell? ⟨w.heap.size,3,none⟩=some (.slice a3 b.apart.length c3)/\X.cell? ⟨w.heap.size,4,none⟩=some (.slice a4 b.aa.length c4))/\
  (X.cell? ⟨w.heap.size+1,0,none⟩=some (.slice qO t.parts.length qP)/\X.cell? ⟨w.heap.size+1,1,none⟩=some (.int .i64 t.lo)/\X.cell? ⟨w.heap.size+1,2,none⟩=some (.int .i64 t.hi))/\
  (X.cell? ⟨w.heap.size+1+1,0,none⟩=some (.int .i64 l2)/\X.cell? ⟨w.heap.size+1+1,1,none⟩=some (.int .i64 h2))/\Below w.heap.size w X):=λX hX=>by
  have X1:=B1.o.below hX B1.o.lt;have X2:=B2.o.below hX B2.o.lt;have X3:=B3.o.below hX B3.o.lt;exact⟨⟨X1.cell 0 rfl,X1.cell 1 rfl,X1.cell 2 rfl,X1.cell 3 rfl,X1.cell 4 rfl⟩,⟨X2.cell 0 rfl,X2.cell 1 rfl,X2.cell 2 rfl⟩,⟨X3.cell 0 rfl,X3.cell 1 rfl⟩,HW.o.trans (hX.mono HW.o.size)⟩
 obtain⟨⟨z0,z1,z2,z3,z4⟩,⟨y0,y1,y2⟩,⟨x0,x1⟩,_⟩:=HZ.o A3 (Below.refl _ _);have hF:=N7 A3 _ b (HB.o.later (Kp.of HW.o));clear hc hb If Yv;go_enter ZF5,Tryz.ntmps5
 go_wp2_with fail
 refine hF.mono ?_;rintro e w1 ⟨⟨r,rfl,hr⟩,bi⟩;have dh:=hid bi;clear bi aV bc eE cS gV z0 z1 z2 z3 z4 y0 y1 y2 x0 x1 hF;obtain⟨⟨z0,z1,z2,z3,z4⟩,⟨y0,y1,y2⟩,⟨x0,x1⟩,jJ⟩:=HZ.o w1 dh.o;cases r with
 |false=>
  clear hr;go_wp2_with(go_at_call 7;refine(mL _).mono ?_;rintro e w2 ⟨rfl,_⟩)
  go_ret;rfl
 |true=>
  obtain⟨Ma,hv⟩:=hr rfl;have HV:Hid (Valid b):=hv;have HSH:Hid (fS b):=Ma;have E4:=hv.parts.many;by_cases h20:20<t.parts.length
  .clear hr hv Ma;go_wp2_with(go_at_call 7;refine(mL _).mono ?_;rintro e w2 ⟨rfl,_⟩)
   go_ret;rfl
  obtain⟨q,hq⟩:∃q:Nat,p%(b.parts.length:Int)=(q:Int):=⟨(p%b.parts.length).toNat,by have:=Int.emod_nonneg p (show(b.parts.length:Int)≠0 by omega);omega⟩
  have hqp:(q:Int)<b.parts.length:=by rw[<-hq];exact Int.emod_lt_of_pos p (by omega)
  obtain⟨x,hx⟩:∃x,b.parts[q]?=some x:=⟨_,zAJ (by omega)⟩
  have HX:Hid (b.parts[q]?=some x/\q<b.parts.length):=⟨hx,by omega⟩
  have HQ:=hid hq;have hM:=Bb w1 _ b n hn (HB.o.later (Kp.of jJ)) hv;clear hr hv Ma hq hx;go_upto_region 4 with fail
  rw[HQ.o];go_cut [12,13]from 32 to 38 (λm is wx=>∃(U4:Bool) (vm:Value),vm=m/\is=.bool U4/\Hid (U4=false\/∃l,cr b l/\ak l∈aB b/\am wx vm l)/\Hid (Below A3.heap.size A3 wx))
  case first=>
   go_wp2_with(go_at_call 21
               refine hM.mono ?_;rintro e w2 ⟨⟨_,rfl⟩|⟨l,hl,vl,rfl,hvl⟩,fJ⟩
               all_goals
                have gm:=dh.t fJ;clear fJ)
   .go_meet
    exact⟨false,_,rfl,rfl,.inl rfl,gm⟩
   .go_meet
    exact⟨true,_,rfl,rfl,.inr ⟨l,wi HV.o hl,yF hl,hvl⟩,gm⟩
  case rest=>
   obtain⟨U4,vm,rfl,rfl,HM,mz⟩:=hcut;obtain⟨w4,BI⟩:∃w4,w4=wc:=⟨wc,rfl⟩
   rw[<-BI]at HM mz⊢;clear BI hM jJ z0 z1 z2 z3 z4 y0 y1 y2 x0 x1
   have TZ:Hid (∀X:World,Below w4.heap.size w4 X->Below A3.heap.size A3 X/\Below w.heap.size w X):=λX hX=>by
    have h1:=mz.o.trans (hX.mono mz.o.size);exact⟨h1,HW.o.trans (h1.mono HW.o.size)⟩
   have HM4:Hid (∀X:World,Below w4.heap.size w4 X->U4=false\/∃l,cr b l/\ak l∈aB b/\am X vm l):=λX hX=>
    HM.o.imp id λ⟨l,h1,h2,h3⟩=>⟨l,h1,h2,h3.later (Kp.of hX)⟩
   obtain⟨⟨z0,z1,z2,z3,z4⟩,⟨y0,y1,y2⟩,⟨x0,x1⟩,BI⟩:=HZ.o w4 mz.o;have Ua:=OJ w4 _ (.slice qO t.parts.length qP) b t (HB.o.later (Kp.of BI)) HV.o HSH.o (HC.o.later BI) (HT.o.later (Kp.of BI));go_upto_region 5 with fail
   go_cut [14,15]from 38 to 44 (λpp s wx=>∃(g:Nat) (sv:Int),pp=ptr g/\s=.int .i64 sv/\Hid (w4.heap.size<=g)/\Hid (Below w4.heap.size w4 wx)/\Hid (qh wx g b (ck b t) sv (sv≠0)))
   case first=>
    go_wp2_with(go_at_call 27
                refine Ua.mono ?_;rintro e w5 ⟨⟨x0,x1,p2,n2,k2,p3,n3,k3,p4,n4,k4,sv,rfl,pl⟩,ud⟩;have rR:=hid ud;have KY:Hid (_\/_\/_):=pl;clear ud pl Ua)
    go_meet
    refine⟨w5.heap.size,sv,rfl,rfl,rR.o.size,rR.o.alloc rR.o.size _,qh.mk (aA.new w5 26 _) ?_⟩;rcases KY.o with⟨h1,h2,h3⟩|⟨h1,h2,h3,h4⟩|⟨h1,h2,h3,h4⟩
    .exact .inl ⟨by rw[h2];exact h1,h3⟩
    .exact .inl ⟨by rw[h3];decide,h4⟩
    .exact .inr ⟨h3,Br HV.o h1 h2,h4 _ [] (λo ho=>by cases ho) (ab.alloc _ _ _)⟩
   case rest=>
    obtain⟨g,sv,rfl,rfl,HG,rR,OA⟩:=hcut;obtain⟨w5,JW⟩:∃w5,w5=wc:=⟨wc,rfl⟩
    rw[<-JW]at rR OA⊢;clear JW BI z0 z1 z2 z3 z4 y0 y1 y2 x0 x1 Ua;obtain⟨⟨z0,z1,z2,z3,z4⟩,⟨y0,y1,y2⟩,⟨x0,x1⟩,JW⟩:=HZ.o w5 (TZ.o w5 rR.o).1;go_upto_region 6 with fail
    have DX:Hid (∀X:World,Below w5.heap.size w5 X->Below w4.heap.size w4 X/\Below A3.heap.size A3 X/\Below w.heap.size w X):=λX hX=>by
     have h1:=rR.o.trans (hX.mono rR.o.size);exact⟨h1,(TZ.o X h1).1,(TZ.o X h1).2⟩
    go_cut [72]from 44 to 72 (λtt wx=>tt=.bool false/\Hid (Below w5.heap.size w5 wx))
    case first=>
     rcases OA.o with⟨Qz,yx⟩|⟨Qz,qq,p2,n2,k2,p3,n3,k3,p4,n4,k4,yx,U5⟩
     .have BL:=hid yx;have Ee:decide (sv=0)=false:=zDR Qz;have Zh:decide (sv≠0)=true:=zDD Qz;have hd3:(sv==0)=false:=by simp[Qz]
      have hd4:(sv !=0)=true:=by simp[Qz]
      obtain⟨⟨g0,g1,g2,g3,g4⟩,_⟩:=qN BL.o;have G0:=λX:aj w5=>X.cell g0;have G1:=λX:aj w5=>X.cell g1;have G2:=λX:aj w5=>X.cell g2;have G3:=λX:aj w5=>X.cell g3;have G4:=λX:aj w5=>X.cell g4
      have YW:∀X:aj w5,Calls ZP 28 #[.agg i7,.agg i7] X.1 (λe iu=>e=.returned (.bool true)/\∃Y:aj w5,iu=Y.1):=λX=>
       (tX _ (.agg i7) (.agg i7) DW (mM _) (mM _)).mono λe w' ⟨h1,h2⟩=>⟨h1,X.on h2⟩
      clear yx z0 z1 z2 z3 z4 y0 y1 y2 x0 x1 g0 g1 g2 g3 g4;refine ao (by kernel_rfl) (by kernel_rfl) ?_;repeat(go_big_quiet_step (first|(go_at_call 28;exact YW _)))
      refine wpQuiet_nil ?_;rintro _ ⟨X,rfl⟩;go_wp2_with fail
      go_meet
      exact⟨rfl,X.2⟩
     .subst Qz;have BL:=hid yx;have Mc:=hid U5;have HKN:=hid qq
      have HS:Hid (∀X:World,Below w5.heap.size w5 X->((X.cell? ⟨w.heap.size,0,none⟩=some (.int .i64 b.ac)/\X.cell? ⟨w.heap.size,1,none⟩=some (.int .i64 b.places)/\X.cell? ⟨w.heap.size,2,none⟩=some (.slice a2 b.parts.length c2)/\X.cell? ⟨w.heap.size,3,none⟩=some (.slice a3 b.apart.length c3)/\X.cell? ⟨w.heap.size,4,none⟩=some (.slice a4 b.aa.length c4))/\(X.cell? ⟨w.heap.size+1,0,none⟩=some (.slice qO t.parts.length qP)/\X.cell? ⟨w.heap.size+1,1,none⟩=some (.int .i64 t.lo)/\X.cell? ⟨w.heap.size+1,2,none⟩=some (.int .i64 t.hi))/\(X.cell? ⟨g,0,none⟩=some (.int .i64 (ck b t).ac)/\X.cell? ⟨g,1,none⟩=some (.int .i64 (ck b t).places)/\X.cell? ⟨g,2,none⟩=some (.slice p2 n2 k2)/\X.cell? ⟨g,3,none⟩=some (.slice p3 n3 k3)/\X.cell? ⟨g,4,none⟩=some (.slice p4 n4 k4)))/\Below w5.heap.size w5 X):=λX hX=>by
       have h1:=HZ.o X (DX.o X hX).2.1;have h2:=BL.o.below hX BL.o.lt;exact⟨⟨h1.1,h1.2.1,⟨h2.cell 0 rfl,h2.cell 1 rfl,h2.cell 2 rfl,h2.cell 3 rfl,h2.cell 4 rfl⟩⟩,hX⟩
      have tE:Hid (∀X:World,(((X.cell? ⟨w.heap.size,0,none⟩=some (.int .i64 b.ac)/\X.cell? ⟨w.heap.size,1,none⟩=some (.int .i64 b.places)/\X.cell? ⟨w.heap.size,2,none⟩=some (.slice a2 b.parts.length c2)/\X.cell? ⟨w.heap.size,3,none⟩=some (.slice a3 b.apart.length c3)/\X.cell? ⟨w.heap.size,4,none⟩=some (.slice a4 b.aa.length c4))/\(X.cell? ⟨w.heap.size+1,0,none⟩=some (.slice qO t.parts.length qP)/\X.cell? ⟨w.heap.size+1,1,none⟩=some (.int .i64 t.lo)/\X.cell? ⟨w.heap.size+1,2,none⟩=some (.int .i64 t.hi))/\(X.cell? ⟨g,0,none⟩=some (.int .i64 (ck b t).ac)/\X.cell? ⟨g,1,none⟩=some (.int .i64 (ck b t).places)/\X.cell? ⟨g,2,none⟩=some (.slice p2 n2 k2)/\X.cell? ⟨g,3,none⟩=some (.slice p3 n3 k3)/\X.cell? ⟨g,4,none⟩=some (.slice p4 n4 k4)))/\Below w5.heap.size w5 X)->Below w5.heap.size w5 X):=λ_ h=>h.2;have HTN:Hid (b.aa.length<=20):=(by have:=HV.o.many;omega:b.aa.length<=20)
      clear yx U5 qq z0 z1 z2 z3 z4 y0 y1 y2 x0 x1;refine wp_region_held_drew (S:=λX:World=>((X.cell? ⟨w.heap.size,0,none⟩=some (.int .i64 b.ac)/\X.cell? ⟨w.heap.size,1,none⟩=some (.int .i64 b.places)/\X.cell? ⟨w.heap.size,2,none⟩=some (.slice a2 b.parts.length c2)/\X.cell? ⟨w.heap.size,3,none⟩=some (.slice a3 b.apart.length c3)/\X.cell? ⟨w.heap.size,4,none⟩=some (.slice a4 b.aa.length c4))/\(X.cell? ⟨w.heap.size+1,0,none⟩=some (.slice qO t.parts.length qP)/\X.cell? ⟨w.heap.size+1,1,none⟩=some (.int .i64 t.lo)/\X.cell? ⟨w.heap.size+1,2,none⟩=some (.int .i64 t.hi))/\(X.cell? ⟨g,0,none⟩=some (.int .i64 (ck b t).ac)/\X.cell? ⟨g,1,none⟩=some (.int .i64 (ck b t).places)/\X.cell? ⟨g,2,none⟩=some (.slice p2 n2 k2)/\X.cell? ⟨g,3,none⟩=some (.slice p3 n3 k3)/\X.cell? ⟨g,4,none⟩=some (.slice p4 n4 k4)))/\Below w5.heap.size w5 X) (by kernel_rfl) (HS.o _ (Below.drewN (Below.refl w5.heap.size w5) 1)) (λtY=>?_);refine wpAnyH_take (i:=0) (oi:=⟨some 44,_,_,_,_,_⟩) (v:=?_) rfl (by kernel_rfl) (by kernel_rfl) (by kernel_rfl) (λ_ _ _ h=>h) (.inl ⟨by rfl,?_⟩) (by assumption) ?_;rotate_left
      .intro w jI;(try dsimp only at jI);go_simp;(try with_reducible rfl)
      try simp only[Act.put,zAM,zAW,zAU]
      refine wpAnyH_take (i:=1) (oi:=⟨some 45,_,_,_,_,_⟩) (v:=?_) rfl (by kernel_rfl) (by kernel_rfl) (by kernel_rfl) (λ_ _ _ h=>h) (.inl ⟨by rfl,?_⟩) (by assumption) ?_;rotate_left
      .intro w jI;(try dsimp only at jI);go_simp;(try with_reducible rfl)
      try simp only[Act.put,zAM,zAW,zAU]
      refine wpAnyH_take (i:=2) (oi:=⟨some 46,_,_,_,_,_⟩) (v:=?_) rfl (by kernel_rfl) (by kernel_rfl) (by kernel_rfl) (λ_ _ _ h=>h) (.inl ⟨by rfl,?_⟩) (by assumption) ?_;rotate_left
      .intro w jI;(try dsimp only at jI);go_simp;(try with_reducible rfl)
      try simp only[Act.put,zAM,zAW,zAU]
      refine wpAnyH_take (i:=3) (oi:=⟨some 47,_,_,_,_,_⟩) (v:=?_) rfl (by kernel_rfl) (by kernel_rfl) (by kernel_rfl) (λ_ _ _ h=>h) (.inl ⟨by rfl,?_⟩) (by assumption) ?_;rotate_left
      .intro w jI;(try dsimp only at jI);go_simp;(try with_reducible rfl)
      try simp only[Act.put,zAM,zAW,zAU]
      refine wpAnyH_take (i:=4) (oi:=⟨some 48,_,_,_,_,_⟩) (v:=?_) rfl (by kernel_rfl) (by kernel_rfl) (by kernel_rfl) (λ_ _ _ h=>h) (.inl ⟨by rfl,?_⟩) (by assumption) ?_;rotate_left
      .intro w jI;(try dsimp only at jI);go_simp;(try with_reducible rfl)
      try simp only[Act.put,zAM,zAW,zAU]
      refine wpAnyH_take (i:=5) (oi:=⟨some 49,_,_,_,_,_⟩) (v:=?_) rfl (by kernel_rfl) (by kernel_rfl) (by kernel_rfl) (λ_ _ _ h=>h) (.inl ⟨by rfl,?_⟩) (by assumption) ?_;rotate_left
      .intro w jI;(try dsimp only at jI);go_simp;(try with_reducible rfl)
      try simp only[Act.put,zAM,zAW,zAU]
      refine wpAnyH_ready (rs:=[6]) (by kernel_rfl) (by simp) ?_;refine AllReadyH.cons (o:=⟨some 50,_,_,_,_,_⟩) rfl (λK hK=>?_) AllReadyH.nil;go_simp;go_at_call 29
      have hh:=tE.o _ tY;refine(Hk _ _ (.slice qO t.parts.length qP) b t (HB.o.later (Kp.of (DX.o _ hh).2.2)) HTN.o (HT.o.later (Kp.of (DX.o _ hh).2.2))).mono ?_;rintro e w6 ⟨⟨ub,rfl,hub⟩,tJ⟩;have mO:Hid (Below w5.heap.size w5 w6):=hh.trans (tJ.mono hh.size);have HUB:=hid hub;clear tJ hub hh tY;go_wp2_with fail
      refine hK.out _ _ (HS.o _ mO.o) (λtY=>?_);clear hK K;try simp only[Act.put,zAM,zAW,zAU]
      refine wpAnyH_ready (rs:=[7]) (by kernel_rfl) (by simp) ?_;refine AllReadyH.cons (o:=⟨some 51,_,_,_,_,_⟩) rfl (λK hK=>?_) AllReadyH.nil;go_simp;go_at_call 28
      refine(tX w6 _ ub (ck b t) (Mc.o.later (Kp.of mO.o)) HUB.o).mono ?_;rintro e w7 ⟨rfl,qa⟩;have mF:=mO.t qa;clear qa tY;go_wp2_with fail
      refine hK.out _ _ (HS.o _ mF.o) (λtY=>?_);clear hK K;try simp only[Act.put,zAM,zAW,zAU]
      refine wpAnyH_take (i:=8) (oi:=⟨some 52,_,_,_,_,_⟩) (v:=?_) rfl (by kernel_rfl) (by kernel_rfl) (by kernel_rfl) (λ_ _ _ h=>h) (.inl ⟨by rfl,?_⟩) (by assumption) ?_;rotate_left
      .intro w jI;(try dsimp only at jI);go_simp;(try with_reducible rfl)
      try simp only[Act.put,zAM,zAW,zAU]
      refine wpAnyH_take (i:=9) (oi:=⟨some 53,_,_,_,_,_⟩) (v:=?_) rfl (by kernel_rfl) (by kernel_rfl) (by kernel_rfl) (λ_ _ _ h=>h) (.inl ⟨by rfl,?_⟩) (by assumption) ?_;rotate_left
      .intro w jI;(try dsimp only at jI);go_simp;(try with_reducible rfl)
      try simp only[Act.put,zAM,zAW,zAU]
      refine wpAnyH_take (i:=10) (oi:=⟨some 54,_,_,_,_,_⟩) (v:=?_) rfl (by kernel_rfl) (by kernel_rfl) (by kernel_rfl) (λ_ _ _ h=>h) (.inl ⟨by rfl,?_⟩) (by assumption) ?_;rotate_left
      .intro w jI;(try dsimp only at jI);go_simp;(try with_reducible rfl)
      try simp only[Act.put,zAM,zAW,zAU]
      refine wpAnyH_take (i:=11) (oi:=⟨some 55,_,_,_,_,_⟩) (v:=?_) rfl (by kernel_rfl) (by kernel_rfl) (by kernel_rfl) (λ_ _ _ h=>h) (.inl ⟨by rfl,?_⟩) (by assumption) ?_;rotate_left
      .intro w jI;(try dsimp only at jI);go_simp;(try with_reducible rfl)
      try simp only[Act.put,zAM,zAW,zAU]
      refine wpAnyH_take (i:=12) (oi:=⟨some 56,_,_,_,_,_⟩) (v:=?_) rfl (by kernel_rfl) (by kernel_rfl) (by kernel_rfl) (λ_ _ _ h=>h) (.inl ⟨by rfl,?_⟩) (by assumption) ?_;rotate_left
      .intro w jI;(try dsimp only at jI);go_simp;(try with_reducible rfl)
      try simp only[Act.put,zAM,zAW,zAU]
      refine wpAnyH_take (i:=13) (oi:=⟨some 57,_,_,_,_,_⟩) (v:=?_) rfl (by kernel_rfl) (by kernel_rfl) (by kernel_rfl) (λ_ _ _ h=>h) (.inl ⟨by rfl,?_⟩) (by assumption) ?_;rotate_left
      .intro w jI;(try dsimp only at jI);go_simp;(try with_reducible rfl)
      try simp only[Act.put,zAM,zAW,zAU]
      refine wpAnyH_take (i:=14) (oi:=⟨some 58,_,_,_,_,_⟩) (v:=?_) rfl (by kernel_rfl) (by kernel_rfl) (by kernel_rfl) (λ_ _ _ h=>h) (.inl ⟨by rfl,?_⟩) (by assumption) ?_;rotate_left
      .intro w jI;(try dsimp only at jI);go_simp;(try with_reducible rfl)
      try simp only[Act.put,zAM,zAW,zAU]
      refine wpAnyH_ready (rs:=[15]) (by kernel_rfl) (by simp) ?_;refine AllReadyH.cons (o:=⟨some 59,_,_,_,_,_⟩) rfl (λK hK=>?_) AllReadyH.nil;go_simp;go_at_call 30
      refine(wC w7 _ _ vm b (ck b t) q U4 (HB.o.later (Kp.of (DX.o _ mF.o).2.2)) (Mc.o.later (Kp.of mF.o)) HKN.o (HC.o.later (DX.o _ mF.o).2.2) HX.o.2 (HM4.o _ (DX.o _ mF.o).1)).mono ?_;rintro e w8 ⟨rfl,YL⟩;have ug:=mF.t YL;clear YL tY;go_wp2_with fail
      refine hK.out _ _ (HS.o _ ug.o) (λtY=>?_);clear hK K;try simp only[Act.put,zAM,zAW,zAU]
      refine wpAnyH_take (i:=16) (oi:=⟨some 60,_,_,_,_,_⟩) (v:=?_) rfl (by kernel_rfl) (by kernel_rfl) (by kernel_rfl) (λ_ _ _ h=>h) (.inl ⟨by rfl,?_⟩) (by assumption) ?_;rotate_left
      .intro w jI;(try dsimp only at jI);go_simp;(try with_reducible rfl)
      try simp only[Act.put,zAM,zAW,zAU]
      refine wpAnyH_take (i:=17) (oi:=⟨some 61,_,_,_,_,_⟩) (v:=?_) rfl (by kernel_rfl) (by kernel_rfl) (by kernel_rfl) (λ_ _ _ h=>h) (.inl ⟨by rfl,?_⟩) (by assumption) ?_;rotate_left
      .intro w jI;(try dsimp only at jI);go_simp;(try with_reducible rfl)
      try simp only[Act.put,zAM,zAW,zAU]
      refine wpAnyH_take (i:=18) (oi:=⟨some 62,_,_,_,_,_⟩) (v:=?_) rfl (by kernel_rfl) (by kernel_rfl) (by kernel_rfl) (λ_ _ _ h=>h) (.inl ⟨by rfl,?_⟩) (by assumption) ?_;rotate_left
      .intro w jI;(try dsimp only at jI);go_simp;(try with_reducible rfl)
      try simp only[Act.put,zAM,zAW,zAU]
      refine wpAnyH_take (i:=19) (oi:=⟨some 63,_,_,_,_,_⟩) (v:=?_) rfl (by kernel_rfl) (by kernel_rfl) (by kernel_rfl) (λ_ _ _ h=>h) (.inl ⟨by rfl,?_⟩) (by assumption) ?_;rotate_left
      .intro w jI;(try dsimp only at jI);go_simp;(try with_reducible rfl)
      try simp only[Act.put,zAM,zAW,zAU]
      refine wpAnyH_take (i:=20) (oi:=⟨some 64,_,_,_,_,_⟩) (v:=?_) rfl (by kernel_rfl) (by kernel_rfl) (by kernel_rfl) (λ_ _ _ h=>h) (.inl ⟨by rfl,?_⟩) (by assumption) ?_;rotate_left
      .intro w jI;(try dsimp only at jI);go_simp;(try with_reducible rfl)
      try simp only[Act.put,zAM,zAW,zAU]
      refine wpAnyH_take (i:=21) (oi:=⟨some 65,_,_,_,_,_⟩) (v:=?_) rfl (by kernel_rfl) (by kernel_rfl) (by kernel_rfl) (λ_ _ _ h=>h) (.inl ⟨by rfl,?_⟩) (by assumption) ?_;rotate_left
      .intro w jI;(try dsimp only at jI);go_simp;(try with_reducible rfl)
      try simp only[Act.put,zAM,zAW,zAU]
      refine wpAnyH_take (i:=22) (oi:=⟨some 66,_,_,_,_,_⟩) (v:=?_) rfl (by kernel_rfl) (by kernel_rfl) (by kernel_rfl) (λ_ _ _ h=>h) (.inl ⟨by rfl,?_⟩) (by assumption) ?_;rotate_left
      .intro w jI;(try dsimp only at jI);go_simp;(try with_reducible rfl)
      try simp only[Act.put,zAM,zAW,zAU]
      refine wpAnyH_take (i:=23) (oi:=⟨some 67,_,_,_,_,_⟩) (v:=undef) rfl (by kernel_rfl) (by kernel_rfl) (by kernel_rfl) (λ_ _ _ h=>h) (.inr ⟨by rfl,rfl⟩) (by assumption) ?_;try simp only[Act.put,zAM,zAW,zAU]
      refine wpAnyH_take (i:=24) (oi:=⟨some 68,_,_,_,_,_⟩) (v:=undef) rfl (by kernel_rfl) (by kernel_rfl) (by kernel_rfl) (λ_ _ _ h=>h) (.inr ⟨by rfl,rfl⟩) (by assumption) ?_;try simp only[Act.put,zAM,zAW,zAU]
      refine wpAnyH_take (i:=25) (oi:=⟨some 69,_,_,_,_,_⟩) (v:=undef) rfl (by kernel_rfl) (by kernel_rfl) (by kernel_rfl) (λ_ _ _ h=>h) (.inr ⟨by rfl,rfl⟩) (by assumption) ?_;try simp only[Act.put,zAM,zAW,zAU]
      refine wpAnyH_take (i:=26) (oi:=⟨some 70,_,_,_,_,_⟩) (v:=undef) rfl (by kernel_rfl) (by kernel_rfl) (by kernel_rfl) (λ_ _ _ h=>h) (.inr ⟨by rfl,rfl⟩) (by assumption) ?_;try simp only[Act.put,zAM,zAW,zAU]
      refine wpAnyH_take (i:=27) (oi:=⟨some 71,_,_,_,_,_⟩) (v:=?_) rfl (by kernel_rfl) (by kernel_rfl) (by kernel_rfl) (λ_ _ _ h=>h) (.inl ⟨by rfl,?_⟩) (by assumption) ?_;rotate_left
      .intro w jI;(try dsimp only at jI);go_simp;(try with_reducible rfl)
      try simp only[Act.put,zAM,zAW,zAU]
      refine wpAnyH_take (i:=28) (oi:=⟨some 72,_,_,_,_,_⟩) (v:=?_) rfl (by kernel_rfl) (by kernel_rfl) (by kernel_rfl) (λ_ _ _ h=>h) (.inl ⟨by rfl,?_⟩) (by assumption) ?_;rotate_left
      .intro w jI;(try dsimp only at jI);go_simp;(try with_reducible rfl)
      try simp only[Act.put,zAM,zAW,zAU]
      refine wpAnyH_done (by kernel_rfl) ?_ _;all_goals go_wp2_with fail
      all_goals go_meet
      all_goals exact⟨rfl,ug⟩
    case rest=>
     obtain⟨rfl,mO⟩:=hcut;obtain⟨w6,YX⟩:∃w6,w6=wc:=⟨wc,rfl⟩
     rw[<-YX]at mO⊢
     have HGX:Hid (∃c0 c1 c2 c3 c4,aA w6 g 26 #[c0,c1,c2,c3,c4]):=by
      rcases OA.o with⟨_,yx⟩|⟨_,_,p2,n2,k2,p3,n3,k3,p4,n4,k4,yx,_⟩
      .exact⟨_,_,_,_,_,yx.below mO.o yx.lt⟩
      .exact⟨_,_,_,_,_,yx.below mO.o yx.lt⟩
     obtain⟨h64,Qc,YI⟩:=DX.o w6 mO.o;have YY:=hid h64;clear YX JW z0 z1 z2 z3 z4 y0 y1 y2 x0 x1 OA;obtain⟨⟨z0,z1,z2,z3,z4⟩,⟨y0,y1,y2⟩,⟨x0,x1⟩,_⟩:=HZ.o w6 Qc;have hTm:=Ho w6 _ b q x l2 h2 (HB.o.later (Kp.of YI)) HV.o (HC.o.later YI) HX.o.1;obtain⟨c0,c1,Oj,Rm,TY,YZ⟩:=HGX.o;obtain⟨cc,ry⟩:=ex1 (max x.lo l2);obtain⟨dd,QW⟩:=ex1 (min x.hi h2);rw[ry,QW]at hTm;clear h64 Qc ry QW;go_upto_region 8 with fail
     go_cut [15]from 73 to 80 (λss wx=>∃sv:Int,ss=.int .i64 sv/\Hid (Below w4.heap.size w4 wx)/\Hid (qh wx g b (dK b q cc dd) sv (sv=1\/sv=9)))
     case first=>
      go_wp2_with(go_at_call 31
                  refine hTm.mono ?_;rintro e w7 ⟨⟨x0,x1,p2,n2,k2,p3,n3,k3,p4,n4,k4,s7,rfl,pl⟩,qa⟩;have mF:=hid qa;have KY:Hid (_\/_):=pl;have Iq:Hid (aA w7 g 26 #[c0,c1,Oj,Rm,TY]/\g<w6.heap.size):=⟨YZ.below qa YZ.lt,YZ.lt⟩
                  have q0:=Iq.o.1.cell 0 rfl;have q1:=Iq.o.1.cell 1 rfl;have q2:=Iq.o.1.cell 2 rfl;have q3:=Iq.o.1.cell 3 rfl;have q4:=Iq.o.1.cell 4 rfl;have f0:=Iq.o.1.aL 0;have f1:=Iq.o.1.aL 1;have f2:=Iq.o.1.aL 2;have f3:=Iq.o.1.aL 3;have f4:=Iq.o.1.aL 4;clear qa pl hTm YZ)
      go_meet
      obtain⟨oW,uh⟩:=K6 (.int .i64 x0) (.int .i64 x1) (.slice p2 n2 k2) (.slice p3 n3 k3) (.slice p4 n4 k4) Iq.o.1;have h74:=YY.o.trans (mF.o.mono YY.o.size);refine⟨s7,rfl,h74.trans (uh.below (λk hk=>by obtain rfl:=zDO.1 hk;exact HG.o) h74.size),qh.mk oW (KY.o.imp id λ⟨h1,h2,h3⟩=>⟨h1,h2,h3 _ [g] (λo ho=>by obtain rfl:=zDO.1 ho;exact Iq.o.2) uh⟩)⟩
     case rest=>
      obtain⟨sv8,rfl,ug,Y6⟩:=hcut;obtain⟨w8,Ls⟩:∃w8,w8=wc:=⟨wc,rfl⟩
      rw[<-Ls]at ug Y6⊢;obtain⟨h83,YM⟩:=TZ.o w8 ug.o;clear Ls YI z0 z1 z2 z3 z4 y0 y1 y2 x0 x1 hTm YZ;obtain⟨⟨z0,z1,z2,z3,z4⟩,_,_,_⟩:=HZ.o w8 h83;clear h83;rcases Y6.o with⟨Qz,yx⟩|⟨rfl,qq,p2,n2,k2,p3,n3,k3,p4,n4,k4,yx,U5⟩
      .obtain⟨⟨o0,o1,o2,o3,o4⟩,_⟩:=qN yx;have ML:=tX w8 (.agg i7) (.agg i7) DW (mM _) (mM _);clear yx;rcases Qz with rfl|rfl
       all_goals
        go_wp2_with(first
         |(go_at_call 28;refine ML.mono ?_;rintro e w9 ⟨rfl,_⟩)
         |(go_at_call 7;refine(mL _).mono ?_;rintro e w9 ⟨rfl,_⟩))
        go_ret;rfl
      .have BL:=hid yx;have Mc:=hid U5;have HKN:=hid qq;have o0:=BL.o.cell 0 rfl;have o1:=BL.o.cell 1 rfl;have o2:=BL.o.cell 2 rfl;have o3:=BL.o.cell 3 rfl;have o4:=BL.o.cell 4 rfl;have hRC:=oP w8 _ _ U5 (Bt HSH.o q cc dd);clear yx U5 qq
       go_wp2_with(first
        |(go_at_call 32
          refine hRC.mono ?_;rintro e w9 ⟨⟨r,rfl,hr⟩,TW⟩;obtain rfl:r=0:=hr.2 HKN.o.ij;have YO:=hid TW;have OT:=ug.t TW;have PK:=BL.o.below TW BL.o.lt;clear hr TW o0 o1 o2 o3 o4 z0 z1 z2 z3 z4 hRC;have o0:=PK.cell 0 rfl;have o1:=PK.cell 1 rfl;have o2:=PK.cell 2 rfl;have o3:=PK.cell 3 rfl;have o4:=PK.cell 4 rfl;obtain⟨⟨z0,z1,z2,z3,z4⟩,_,_,_⟩:=HZ.o w9 (TZ.o w9 OT.o).1;clear PK)
        |(go_at_call 30
          refine(wC w9 _ _ vm b (dK b q cc dd) q U4 (HB.o.later (Kp.of (TZ.o w9 OT.o).2)) (Mc.o.later (Kp.of YO.o)) HKN.o (HC.o.later (TZ.o w9 OT.o).2) HX.o.2 (HM4.o _ OT.o)).mono ?_;rintro e Dc ⟨rfl,_⟩)
        |(go_at_call 7;refine(mL _).mono ?_;rintro e SL ⟨rfl,_⟩))
       go_ret;rfl
end Go.Proofs.Cz
namespace Go.Proofs.Cz
open Go.Conc Go.aC
def S1 (n:Nat):Bool:=(Nat.blt n 168&&!([0,1,2,3,7,37,11,85,46,139,140,141,142,143,144,145,146,147,148,149,150,151,152,153,154,163,164,165].contains n))||Nat.beq n JK||Nat.beq n (JK+8)
theorem Ub:be ZP:=λt i v h1 h2=>Cw.ip t i v h1 h2
theorem Lx:aK ZP:=λt i u h=>Cw.dQ t i u h
noncomputable def oI (lo n:Nat):Bool:=(List.range n).all λi=>!S1 (lo+i)||(match Tryz.funcs[lo+i]? with
 |some fn=>(match fn.body with|some c=>codeOk ZP S1 c&&!(fn.name== "runtime.NumGoroutine")|none=>false)
 |none=>false)
theorem ok0:oI 0 40=true:=by kernel_rfl
theorem ok1:oI 40 60=true:=by kernel_rfl
theorem ok2:oI 100 67=true:=by kernel_rfl
theorem sS {lo n i:Nat} (h:oI lo n=true) (h1:lo<=i) (h2:i<lo+n) (hs:S1 i=true):∃fn c,Tryz.funcs[i]? =some fn/\fn.body=some c/\codeOk ZP S1 c=true/\fn.name≠ "runtime.NumGoroutine" :=by
 have:=zCQ.1 h (i-lo) (by simp;omega);rw[show lo+(i-lo)=i by omega,hs]at this;simp only[zEB,zEA]at this;cases hf:Tryz.funcs[i]? with
 |none=>rw[hf]at this;cases this
 |some fn=>
  rw[hf]at this;simp only at this;cases uz:fn.body with
  |none=>rw[uz]at this;cases this
  |some c=>
   rw[uz]at this;simp only[zAE,zCF,zEJ]at this;exact⟨fn,c,rfl,uz,this.1,this.2⟩
theorem Fq {f:Nat} (h:S1 f=true):f<168\/f=JK\/f=JK+8:=by
 simp only[S1,zBN,zAE]at h;rcases h with(⟨h,_⟩|h)|h
 .exact .inl (by simpa using h)
 .exact .inr (.inl (zAL h))
 .exact .inr (.inr (zAL h))
theorem QB {f:Nat} (h1:168<=f) (h2:f≠JK) (h3:f≠JK+8):S1 f=false:=by
 cases h:S1 f with
 |false=>rfl
 |true=>rcases Fq h with h|h|h<;>omega
theorem wD:ZP.funcs.size=167:=by rw[Tz.sZ];unfold Tz.funcs;rw[zEG,Tz.size]
theorem tZ:ZP.globals.size=1:=by kernel_rfl
theorem Fr:Closed ZP Tryz.funcs S1 LS where
 ip:=Ub
 dQ:=Lx
 Vc:=λ_=>by kernel_rfl
 size:=by rw[wD,Tz.size]
 Bz:=λf hf=>by
  rw[wD,tZ];refine⟨λ_=>?_,λ_ a b h=>h⟩;have hJ:JK=1000000:=rfl;rcases Fq hf with h|h|h<;>refine QB ?_ ?_ ?_<;>omega
 body:=λf hf=>by
  have hJ:JK=1000000:=rfl;rcases Fq hf with h|h|h
  .by_cases h9:f=167
   .subst h9;exact .inl ⟨zAZ (by rw[wD];omega),zAZ (by rw[Tz.size];omega)⟩
   .obtain⟨fn,c,h1,h2,h3,h4⟩:∃fn c,Tryz.funcs[f]? =some fn/\fn.body=some c/\codeOk ZP S1 c=true/\fn.name≠ "runtime.NumGoroutine" :=by
     by_cases l1:f<40
     .exact sS ok0 (by omega) (by omega) hf
     .by_cases l2:f<100
      .exact sS ok1 (by omega) (by omega) hf
      .exact sS ok2 (by omega) (by omega) hf
    have q7:7≠f:=λe=>by subst e;cases hf
    exact .inr ⟨fn,fn,c,c,(Tz.same f q7).trans h1,h1,h2,h2,.same h3 (.inr λ_ _ hh=>hh),h4,h4,rfl,rfl⟩
  .exact .inl ⟨zAZ (by rw[wD];omega),zAZ (by rw[Tz.size];omega)⟩
  .exact .inl ⟨zAZ (by rw[wD];omega),zAZ (by rw[Tz.size];omega)⟩
theorem OU:S1 (ZP.funcs.size+ZP.globals.size)=false:=by rw[wD,tZ];exact QB (by omega) (by decide) (by decide)
theorem Y7:ae ZP Tryz.funcs=Tryz.prog:=rfl
end Go.Proofs.Cz
