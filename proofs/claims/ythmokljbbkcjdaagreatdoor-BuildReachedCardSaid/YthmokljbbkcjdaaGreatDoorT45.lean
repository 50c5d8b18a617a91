/- A part. Conditions: none. -/
import Derived.Test.YthmokljbbkcjdaaGreatDoorT42
import Derived.Test.YthmokljbbkcjdaaGreatDoorT44
set_option linter.all false
set_option maxHeartbeats 8000000
set_option maxRecDepth 100000
namespace Go.Proofs.Cz
open Go.RowKit
theorem we (w:World) (v v':Value) (b:aS) (hb:ar w v b) (Bm:ar w v' b):Calls ZP 28 #[v,v'] w (eX w (.bool true)):=by
 obtain⟨v2,v3,v4,rfl,⟨a2,c2,h2,f2⟩,⟨a3,c3,h3,f3⟩,⟨a4,c4,h4,f4⟩⟩:=hb;obtain⟨Xn,v3',v4',rfl,⟨Mx,LX,kr,BW⟩,⟨RC,Ms,XT,XU⟩,⟨RD,M1,XV,XW⟩⟩:=Bm;have H2:Hid (bS w v2 b.parts.length a2 c2/\_):=⟨h2,f2⟩
 have H3:Hid (bS w v3 b.apart.length a3 c3/\_):=⟨h3,f3⟩
 have H4:Hid (bS w v4 b.aa.length a4 c4/\_):=⟨h4,f4⟩
 have MB:Hid (bS w Xn b.parts.length Mx LX/\_):=⟨kr,BW⟩
 have XX:Hid (bS w v3' b.apart.length RC Ms/\_):=⟨XT,XU⟩
 have XY:Hid (bS w v4' b.aa.length RD M1/\_):=⟨XV,XW⟩
 obtain⟨rfl,l2,m2,n2,r2⟩:=h2;obtain⟨rfl,l3,m3,n3,r3⟩:=h3;obtain⟨rfl,l4,m4,n4,r4⟩:=h4;obtain⟨rfl,l2',m2',XQ,nN⟩:=kr;obtain⟨rfl,l3',m3',XR,r3'⟩:=XT;obtain⟨rfl,l4',m4',XS,r4'⟩:=XV;unfold maxLen at m2 m3 m4 m2' m3' m4';clear f2 n2 r2 f3 n3 r3 f4 n4 r4 BW XQ nN XU XR r3' XW XS r4';obtain⟨A1,dv⟩:∃A,w.alloc (.cells #[.int .i64 b.am,.int .i64 b.places,.slice a2 b.parts.length c2,.slice a3 b.apart.length c3,.slice a4 b.aa.length c4] 26)=A:=⟨_,rfl⟩
 obtain⟨A2,eB⟩:∃A,A1.alloc (.cells #[.int .i64 b.am,.int .i64 b.places,.slice Mx b.parts.length LX,.slice RC b.apart.length Ms,.slice RD b.aa.length M1] 26)=A:=⟨_,rfl⟩
 have jj:A1.heap.size=w.heap.size+1:=by rw[<-dv];simp
 have B1:Hid (aJ A2 w.heap.size 26 #[.int .i64 b.am,.int .i64 b.places,.slice a2 b.parts.length c2,.slice a3 b.apart.length c3,.slice a4 b.aa.length c4]):=by
  rw[<-eB];refine(aj.alloc [] _ _).box ?_ (by simp);rw[<-dv];exact aJ.new _ _ _
 have B2:Hid (aJ A2 (w.heap.size+1) 26 #[.int .i64 b.am,.int .i64 b.places,.slice Mx b.parts.length LX,.slice RC b.apart.length Ms,.slice RD b.aa.length M1]):=by rw[<-eB,<-jj];exact aJ.new _ _ _
 have HW:Hid (Below w.heap.size w A2):=by rw[<-eB,<-dv];exact((aj.alloc [] _ _).lj _).below (by simp) (Nat.le_refl _)
 have HZ:Hid (∀W,Below A2.heap.size A2 W->(W.cell? ⟨w.heap.size,0,none⟩=some (.int .i64 b.am)/\W.cell? ⟨w.heap.size,1,none⟩=some (.int .i64 b.places)/\W.cell? ⟨w.heap.size,2,none⟩=some (.slice a2 b.parts.length c2)/\W.cell? ⟨w.heap.size,3,none⟩=some (.slice a3 b.apart.length c3)/\W.cell? ⟨w.heap.size,4,none⟩=some (.slice a4 b.aa.length c4))/\
  W.cell? ⟨w.heap.size+1,0,none⟩=some (.int .i64 b.am)/\W.cell? ⟨w.heap.size+1,1,none⟩=some (.int .i64 b.places)/\W.cell? ⟨w.heap.size+1,2,none⟩=some (.slice Mx b.parts.length LX)/\W.cell? ⟨w.heap.size+1,3,none⟩=some (.slice RC b.apart.length Ms)/\W.cell? ⟨w.heap.size+1,4,none⟩=some (.slice RD b.aa.length M1)):=fun W hW=>by
  have X1:=B1.out.below hW B1.out.lt;have X2:=B2.out.below hW B2.out.lt;exact⟨⟨X1.cell 0 rfl,X1.cell 1 rfl,X1.cell 2 rfl,X1.cell 3 rfl,X1.cell 4 rfl⟩,X2.cell 0 rfl,X2.cell 1 rfl,X2.cell 2 rfl,X2.cell 3 rfl,X2.cell 4 rfl⟩
 obtain⟨⟨z0,z1,z2,z3,z4⟩,y0,y1,y2,y3,y4⟩:=HZ.out A2 (Below.refl _ _);have hG:=rF;go_enter ZF28,Tryz.ntmps28
 go_wp2
 clear z0 z1 z2 z3 z4 y0 y1 y2 y3 y4 dv eB jj;go_loopw [5] (fun i wr=>∃k:Nat,k<=b.parts.length/\i=.int .i64 k/\Hid (Below A2.heap.size A2 wr)) (fun i _=>b.parts.length-(intOf i).toNat)
 case atStart=>exact⟨0,Nat.zero_le _,rfl,Below.refl _ _⟩
 case round=>
  obtain⟨k,hk,rfl,hB⟩:=hrel;have nK:Hid (Below w.heap.size w wr):=HW.out.trans (hB.out.mono HW.out.size);obtain⟨⟨z0,z1,z2,z3,z4⟩,y0,y1,y2,y3,y4⟩:=HZ.out wr hB.out;by_cases ap:k<b.parts.length
  .obtain⟨⟨blk,off,sp⟩,x,rfl,hx,x0,x1,x2,x3,x4,vf,x5,x6⟩:=H2.out.1.elem H2.out.2 ap;obtain⟨⟨fK,fL,BO⟩,x',rfl,kg,EE,JL,P8,P9,XZ,yK,X7,Rf⟩:=MB.out.1.elem MB.out.2 ap;obtain rfl:sp=none:=x0.1;obtain rfl:BO=none:=EE.1;rw[hx]at kg;obtain rfl:x=x':=Option.some.inj kg
   have HQ:Hid (∀W,Below wr.heap.size wr W->(W.cell? ⟨blk,off+k*6,none⟩=some (.string x.name)/\W.cell? ⟨blk,off+k*6+1,none⟩=some (.int .i64 x.cost)/\W.cell? ⟨blk,off+k*6+2,none⟩=some (.int .i64 x.cm)/\W.cell? ⟨blk,off+k*6+3,none⟩=some (.int .i64 x.lo)/\W.cell? ⟨blk,off+k*6+4,none⟩=some (.int .i64 x.hi)/\W.cell? ⟨blk,off+k*6+5,none⟩=some vf)/\
    (W.cell? ⟨fK,fL+k*6,none⟩=some (.string x.name)/\W.cell? ⟨fK,fL+k*6+1,none⟩=some (.int .i64 x.cost)/\W.cell? ⟨fK,fL+k*6+2,none⟩=some (.int .i64 x.cm)/\W.cell? ⟨fK,fL+k*6+3,none⟩=some (.int .i64 x.lo)/\W.cell? ⟨fK,fL+k*6+4,none⟩=some (.int .i64 x.hi)/\W.cell? ⟨fK,fL+k*6+5,none⟩=some yK)/\
    (W.cell? ⟨w.heap.size,2,none⟩=some (.slice (some ⟨blk,off,none⟩) b.parts.length c2)/\W.cell? ⟨w.heap.size+1,2,none⟩=some (.slice (some ⟨fK,fL,none⟩) b.parts.length LX))/\Below wr.heap.size wr W):=fun W hW=>by
    have tU:=nK.out.trans (hW.mono nK.out.size);have q:=(HZ.out W (hB.out.trans (hW.mono hB.out.size)))
    exact⟨⟨(x0.later (Kp.of tU)).2,(x1.later (Kp.of tU)).2,(x2.later (Kp.of tU)).2,(x3.later (Kp.of tU)).2,(x4.later (Kp.of tU)).2,(x5.later (Kp.of tU)).2⟩,
     ⟨(EE.later (Kp.of tU)).2,(JL.later (Kp.of tU)).2,(P8.later (Kp.of tU)).2,(P9.later (Kp.of tU)).2,(XZ.later (Kp.of tU)).2,(X7.later (Kp.of tU)).2⟩,⟨q.1.2.2.1,q.2.2.2.1⟩,hW⟩
   have HC:Hid (∀W,Below wr.heap.size wr W->Calls ZP 73 #[.agg #[.string x.name,.int .i64 x.cost,.int .i64 x.cm,.int .i64 x.lo,.int .i64 x.hi,vf],.agg #[.string x.name,.int .i64 x.cost,.int .i64 x.cm,.int .i64 x.lo,.int .i64 x.hi,yK]] W (eX W (.bool true))):=fun W hW=>
    tT W x vf yK (x6.later (Kp.of (nK.out.trans (hW.mono nK.out.size)))) (Rf.later (Kp.of (nK.out.trans (hW.mono nK.out.size))))
   have lY:(k:Int)<(b.parts.length:Int):=by omega
   clear x0 x1 x2 x3 x4 x5 x6 EE JL P8 P9 XZ X7 Rf hx kg;go_wp2_with fail
   go_region_held3 (fun W:World=>(W.cell? ⟨blk,off+k*6,none⟩=some (.string x.name)/\W.cell? ⟨blk,off+k*6+1,none⟩=some (.int .i64 x.cost)/\W.cell? ⟨blk,off+k*6+2,none⟩=some (.int .i64 x.cm)/\W.cell? ⟨blk,off+k*6+3,none⟩=some (.int .i64 x.lo)/\W.cell? ⟨blk,off+k*6+4,none⟩=some (.int .i64 x.hi)/\W.cell? ⟨blk,off+k*6+5,none⟩=some vf)/\
    (W.cell? ⟨fK,fL+k*6,none⟩=some (.string x.name)/\W.cell? ⟨fK,fL+k*6+1,none⟩=some (.int .i64 x.cost)/\W.cell? ⟨fK,fL+k*6+2,none⟩=some (.int .i64 x.cm)/\W.cell? ⟨fK,fL+k*6+3,none⟩=some (.int .i64 x.lo)/\W.cell? ⟨fK,fL+k*6+4,none⟩=some (.int .i64 x.hi)/\W.cell? ⟨fK,fL+k*6+5,none⟩=some yK)/\
    (W.cell? ⟨w.heap.size,2,none⟩=some (.slice (some ⟨blk,off,none⟩) b.parts.length c2)/\W.cell? ⟨w.heap.size+1,2,none⟩=some (.slice (some ⟨fK,fL,none⟩) b.parts.length LX))/\Below wr.heap.size wr W)
    (first|exact HQ.out _ Fh.out|exact HQ.out _ (Below.drewN (Below.refl wr.heap.size wr) 1))
    (first
      |(go_at_call 73
        refine(HC.out _ (Below.drewN (Below.refl wr.heap.size wr) 1)).mono ?_;rintro e w6 ⟨rfl,Hv⟩;have Fh:Hid (Below wr.heap.size wr w6):=(Below.drewN (Below.refl wr.heap.size wr) 1).trans Hv;clear Hv))
   go_wp2
   go_round
   case rel=>exact⟨k+1,by omega,by go_num,hB.out.trans (Fh.out.mono hB.out.size)⟩
   case measure=>simp[intOf];omega
  .have Vx:Hid (Below A2.heap.size A2 wr):=hB;go_wp2
   clear z0 z1 z2 z3 z4 y0 y1 y2 y3 y4 ap hk hB nK;obtain⟨wo,P1⟩:∃wo,wo=wr:=⟨wr,rfl⟩
   rw[<-P1]at Vx⊢;clear P1;go_loopw [6] (fun i wr=>∃k:Nat,k<=b.apart.length/\i=.int .i64 k/\Hid (Below A2.heap.size A2 wr)) (fun i _=>b.apart.length-(intOf i).toNat)
   case atStart=>exact⟨0,Nat.zero_le _,rfl,Vx⟩
   case round=>
    obtain⟨k,hk,rfl,hB⟩:=hrel;have nK:Hid (Below w.heap.size w wr):=HW.out.trans (hB.out.mono HW.out.size);obtain⟨⟨z0,z1,z2,z3,z4⟩,y0,y1,y2,y3,y4⟩:=HZ.out wr hB.out;by_cases ap:k<b.apart.length
    .obtain⟨⟨blk,off,sp⟩,⟨xa,xb⟩,rfl,hx,x0,x1⟩:=H3.out.1.elem H3.out.2 ap;obtain⟨⟨fK,fL,BO⟩,x',rfl,kg,EE,JL⟩:=XX.out.1.elem XX.out.2 ap;obtain rfl:sp=none:=x0.1;obtain rfl:BO=none:=EE.1;rw[hx]at kg;obtain rfl:(xa,xb)=x':=Option.some.inj kg;have lY:(k:Int)<(b.apart.length:Int):=by omega
     have q0:=(x0.later (Kp.of nK.out)).2;have q1:=(x1.later (Kp.of nK.out)).2;have q0':=(EE.later (Kp.of nK.out)).2;have q1':=(JL.later (Kp.of nK.out)).2;simp only[<-Nat.add_assoc]at q0 q1 q0' q1';clear x0 x1 EE JL hx kg;go_wp2
     go_quiet (fail)
     go_wp2
     go_round
     case rel=>exact⟨k+1,by omega,by go_num,Below.drewN hB.out _⟩
     case measure=>simp[intOf];omega
    .have Ya:Hid (Below A2.heap.size A2 wr):=hB;go_wp2
     clear z0 z1 z2 z3 z4 y0 y1 y2 y3 y4 ap hk hB nK Vx;obtain⟨wp,Yb⟩:∃wp,wp=wr:=⟨wr,rfl⟩
     rw[<-Yb]at Ya⊢;clear Yb;go_loopw [7] (fun i wr=>∃k:Nat,k<=b.aa.length/\i=.int .i64 k/\Hid (Below A2.heap.size A2 wr)) (fun i _=>b.aa.length-(intOf i).toNat)
     case atStart=>exact⟨0,Nat.zero_le _,rfl,Ya⟩
     case round=>
      obtain⟨k,hk,rfl,hB⟩:=hrel;have nK:Hid (Below w.heap.size w wr):=HW.out.trans (hB.out.mono HW.out.size);obtain⟨⟨z0,z1,z2,z3,z4⟩,y0,y1,y2,y3,y4⟩:=HZ.out wr hB.out;by_cases ap:k<b.aa.length
      .obtain⟨⟨blk,off,sp⟩,x,rfl,hx,⟨vf,x0,x3⟩,x1,x2⟩:=H4.out.1.elem H4.out.2 ap;obtain⟨⟨fK,fL,BO⟩,x',rfl,kg,⟨yK,EE,P9⟩,JL,P8⟩:=XY.out.1.elem XY.out.2 ap;obtain rfl:sp=none:=x0.1;obtain rfl:BO=none:=EE.1;rw[hx]at kg;obtain rfl:x=x':=Option.some.inj kg
       have HQ:Hid (∀W,Below wr.heap.size wr W->(W.cell? ⟨blk,off+k*3,none⟩=some vf/\W.cell? ⟨blk,off+k*3+1,none⟩=some (.int .i64 x.lo)/\W.cell? ⟨blk,off+k*3+2,none⟩=some (.int .i64 x.hi))/\
        (W.cell? ⟨fK,fL+k*3,none⟩=some yK/\W.cell? ⟨fK,fL+k*3+1,none⟩=some (.int .i64 x.lo)/\W.cell? ⟨fK,fL+k*3+2,none⟩=some (.int .i64 x.hi))/\
        (W.cell? ⟨w.heap.size,4,none⟩=some (.slice (some ⟨blk,off,none⟩) b.aa.length c4)/\W.cell? ⟨w.heap.size+1,4,none⟩=some (.slice (some ⟨fK,fL,none⟩) b.aa.length M1))/\Below wr.heap.size wr W):=fun W hW=>by
        have tU:=nK.out.trans (hW.mono nK.out.size);have q:=(HZ.out W (hB.out.trans (hW.mono hB.out.size)))
        exact⟨⟨(x0.later (Kp.of tU)).2,(x1.later (Kp.of tU)).2,(x2.later (Kp.of tU)).2⟩,⟨(EE.later (Kp.of tU)).2,(JL.later (Kp.of tU)).2,(P8.later (Kp.of tU)).2⟩,⟨q.1.2.2.2.2,q.2.2.2.2.2⟩,hW⟩
       have HC:Hid (∀W,Below wr.heap.size wr W->Calls ZP 74 #[vf,yK] W (eX W (.bool true))):=fun W hW=>
        iX W vf yK x.parts (x3.later (Kp.of (nK.out.trans (hW.mono nK.out.size)))) (P9.later (Kp.of (nK.out.trans (hW.mono nK.out.size))))
       have lY:(k:Int)<(b.aa.length:Int):=by omega
       clear x0 x1 x2 x3 EE JL P8 P9 hx kg;go_wp2_with fail
       go_region_held3 (fun W:World=>(W.cell? ⟨blk,off+k*3,none⟩=some vf/\W.cell? ⟨blk,off+k*3+1,none⟩=some (.int .i64 x.lo)/\W.cell? ⟨blk,off+k*3+2,none⟩=some (.int .i64 x.hi))/\
        (W.cell? ⟨fK,fL+k*3,none⟩=some yK/\W.cell? ⟨fK,fL+k*3+1,none⟩=some (.int .i64 x.lo)/\W.cell? ⟨fK,fL+k*3+2,none⟩=some (.int .i64 x.hi))/\
        (W.cell? ⟨w.heap.size,4,none⟩=some (.slice (some ⟨blk,off,none⟩) b.aa.length c4)/\W.cell? ⟨w.heap.size+1,4,none⟩=some (.slice (some ⟨fK,fL,none⟩) b.aa.length M1))/\Below wr.heap.size wr W)
        (first|exact HQ.out _ Fh.out|exact HQ.out _ (Below.drewN (Below.refl wr.heap.size wr) 1))
        (first
          |(go_at_call 74
            refine(HC.out _ (Below.drewN (Below.refl wr.heap.size wr) 1)).mono ?_;rintro e w6 ⟨rfl,Hv⟩;have Fh:Hid (Below wr.heap.size wr w6):=(Below.drewN (Below.refl wr.heap.size wr) 1).trans Hv;clear Hv))
       go_wp2
       go_round
       case rel=>exact⟨k+1,by omega,by go_num,hB.out.trans (Fh.out.mono hB.out.size)⟩
       case measure=>simp[intOf];omega
      .go_wp2
       go_ret;exact⟨rfl,nK.out⟩
def tV (w:World) (L:List (Nat->Int)) (e:Ending) (w':World):Prop:=e=.returned (.tuple #[.int .i64 L.length,.int .i64 0])/\Below w.heap.size w w'
theorem Mg (w:World) (a b:Int):Calls ZP 46 #[.int .i64 a,.int .i64 b] w (eX w (.agg #[.int .i64 a,.int .i64 b])):=by
 obtain⟨A1,dv⟩:∃A,w.alloc (.cells #[.int .i64 a,.int .i64 b] 31)=A:=⟨_,rfl⟩
 have B1:=dh dv;have HW:Hid (Below w.heap.size w A1):=(bG dv).below (by simp) (Nat.le_refl _);have z0:A1.cell? ⟨w.heap.size,0,none⟩=some (.int .i64 a):=B1.cell 0 rfl;have z1:A1.cell? ⟨w.heap.size,1,none⟩=some (.int .i64 b):=B1.cell 1 rfl;clear B1;go_enter ZF46,Tryz.ntmps46
 go_wp2
 refine bodyPost_ret (v:=.agg #[.int .i64 a,.int .i64 b]) ?_ rfl ⟨rfl,HW.out⟩;rw[fT rfl];go_simp
theorem zW (w:World) (a:Int):Calls ZP 27 #[.int .i64 a] w (eX w (.agg #[.int .i64 a,.int .i64 a])):=by
 obtain⟨A1,dv⟩:∃A,w.alloc (.cells #[.int .i64 0,.int .i64 0] 31)=A:=⟨_,rfl⟩
 have B1:Hid (aJ A1 w.heap.size 31 #[.int .i64 0,.int .i64 0]):=dh dv;have HW:Hid (Below w.heap.size w A1):=(bG dv).below (by simp) (Nat.le_refl _);go_enter ZF27,Tryz.ntmps27
 go_wp2_with
  (go_at_call 46
   refine(Mg _ _ _).mono ?_;rintro e w2 ⟨rfl,iN⟩;have jM:Hid (Below w.heap.size w w2):=HW.out.trans (iN.mono HW.out.size);have B2:Hid (aJ w2 w.heap.size 31 #[.int .i64 0,.int .i64 0]):=B1.out.below iN B1.out.lt;have z0:w2.cell? ⟨w.heap.size,0,none⟩=some (.int .i64 0):=B2.out.cell 0 rfl;have z1:w2.cell? ⟨w.heap.size,1,none⟩=some (.int .i64 0):=B2.out.cell 1 rfl;have f0:=B2.out.cr 0;have f1:=B2.out.cr 1;clear iN dv)
 obtain⟨WF,qq⟩:∃V,(w2.setCell ⟨w.heap.size,0,none⟩ (.int .i64 a)).setCell ⟨w.heap.size,1,none⟩ (.int .i64 a)=V:=⟨_,rfl⟩
 have lq:aJ WF w.heap.size 31 #[.int .i64 a,.int .i64 a]:=by rw[<-qq];exact(B2.out.set 0 _).set 1 _
 have Em:aj [w.heap.size] w2 WF:=by rw[<-qq];exact(aj.set w2 (by simp) _).trans' (aj.set _ (by simp) _)
 have Hn:Hid (Below w.heap.size w WF):=jM.out.trans (Em.below (by simp) jM.out.size);have u0:WF.cell? ⟨w.heap.size,0,none⟩=some (.int .i64 a):=lq.cell 0 rfl;have u1:WF.cell? ⟨w.heap.size,1,none⟩=some (.int .i64 a):=lq.cell 1 rfl;rw[qq];clear qq lq Em z0 z1 f0 f1;refine bodyPost_ret (v:=.agg #[.int .i64 a,.int .i64 a]) ?_ rfl ⟨rfl,Hn.out⟩;rw[fT rfl];go_simp
theorem BG (w:World) (v v':Value) (l:List Int) (h:ao w v l) (h':ao w v' l):Calls ZP 29 #[v,v'] w (eX w (.bool true)):=by
 have hC:=iX w v v' l h h';clear h h';go_enter ZF29,Tryz.ntmps29
 go_wp2_with(go_at_call 74;refine hC.mono ?_;rintro e w' ⟨rfl,hb⟩)
 go_ret;exact⟨rfl,hb⟩
theorem kE (w:World) (v:Value) (b:aS) (hb:ar w v b) (hv:Valid b) (hc:nH w):Calls ZP 22 #[v] w (tV w (bI b (aF b))):=by
 have HB:Hid (ar w v b):=hb;have HV:Hid (Valid b):=hv;have HC:Hid (nH w):=hc;have LY:Hid (tC w v (aF b)):=jN hb hv;obtain⟨a2,c2,a3,c3,a4,c4,rfl⟩:=hb.ls;obtain⟨A1,dv⟩:∃A,w.alloc (.cells #[.int .i64 b.am,.int .i64 b.places,.slice a2 b.parts.length c2,.slice a3 b.apart.length c3,.slice a4 b.aa.length c4] 26)=A:=⟨_,rfl⟩
 have B1:Hid (aJ A1 w.heap.size 26 #[.int .i64 b.am,.int .i64 b.places,.slice a2 b.parts.length c2,.slice a3 b.apart.length c3,.slice a4 b.aa.length c4]):=dh dv;have HW:Hid (Below w.heap.size w A1):=(bG dv).below (by simp) (Nat.le_refl _);have z0:=B1.out.cell 0 rfl;have z1:=B1.out.cell 1 rfl;have z2:=B1.out.cell 2 rfl;have z3:=B1.out.cell 3 rfl;have z4:=B1.out.cell 4 rfl;clear hb hv hc;go_enter ZF22,Tryz.ntmps22
 go_wp2_with(first
  |(go_at_call 47
    refine(li A1 _ b (HB.out.later (Kp.of HW.out)) HV.out (HC.out.later HW.out)).mono ?_;rintro e w1 ⟨⟨r,rfl,rfl⟩,cW⟩;have kB:Hid (Below A1.heap.size A1 w1):=cW;have BF:Hid (Below w.heap.size w w1):=HW.out.trans (cW.mono HW.out.size);clear cW z0 z1 z2 z3 z4;have X1:=B1.out.below kB.out B1.out.lt;have z0:=X1.cell 0 rfl;have z1:=X1.cell 1 rfl;have z2:=X1.cell 2 rfl;have z3:=X1.cell 3 rfl;have z4:=X1.cell 4 rfl;clear X1)
  |(go_at_call 60
    refine(zP _ b a2 c2 _ _ (aF b) (HB.out.later (Kp.of BF.out)) HV.out (fun X t hX=>LY.out X t (BF.out.trans (hX.mono BF.out.size)))).mono ?_;rintro e w2 ⟨⟨r,rfl,hr⟩,iN⟩;obtain⟨a,cap,rfl⟩:=cQ hr;have jM:Hid (Below w.heap.size w w2):=BF.out.trans (iN.mono BF.out.size);clear hr iN))
 go_ret2;exact⟨rfl,jM.out⟩
end Go.Proofs.Cz
