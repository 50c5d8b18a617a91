/- A part. Conditions: none. -/
import Derived.Test.YtehbindidbgacaaGreatDoorT46
set_option linter.all false
set_option maxHeartbeats 8000000
set_option maxRecDepth 100000
namespace Go.Proofs.Cz
open Go.RowKit
theorem tX (w:World) (v v':Value) (b:ap) (hb:ar w v b) (yX:ar w v' b):Calls ZP 28 #[v,v'] w (di w (.bool true)):=by
 obtain⟨v2,v3,v4,rfl,⟨a2,c2,h2,f2⟩,⟨a3,c3,h3,f3⟩,⟨a4,c4,h4,f4⟩⟩:=hb;obtain⟨v2',v3',v4',rfl,⟨Uq,Oj,qm,Ic⟩,⟨a3',Rm,h3',f3'⟩,⟨a4',TY,h4',f4'⟩⟩:=yX;have H2:Hid (bA w v2 b.parts.length a2 c2/\_):=⟨h2,f2⟩
 have H3:Hid (bA w v3 b.apart.length a3 c3/\_):=⟨h3,f3⟩
 have H4:Hid (bA w v4 b.aa.length a4 c4/\_):=⟨h4,f4⟩
 have Uu:Hid (bA w v2' b.parts.length Uq Oj/\_):=⟨qm,Ic⟩
 have H3':Hid (bA w v3' b.apart.length a3' Rm/\_):=⟨h3',f3'⟩
 have H4':Hid (bA w v4' b.aa.length a4' TY/\_):=⟨h4',f4'⟩
 obtain⟨rfl,l2,m2,n2,r2⟩:=h2;obtain⟨rfl,l3,m3,n3,r3⟩:=h3;obtain⟨rfl,l4,m4,n4,r4⟩:=h4;obtain⟨rfl,l2',m2',n2',FF⟩:=qm;obtain⟨rfl,l3',m3',n3',r3'⟩:=h3';obtain⟨rfl,l4',m4',n4',r4'⟩:=h4';unfold maxLen at m2 m3 m4 m2' m3' m4';clear f2 n2 r2 f3 n3 r3 f4 n4 r4 Ic n2' FF f3' n3' r3' f4' n4' r4';obtain⟨A1,aV⟩:=ex1 (w.alloc (.cells #[.int .i64 b.ac,.int .i64 b.places,.slice a2 b.parts.length c2,.slice a3 b.apart.length c3,.slice a4 b.aa.length c4] 26));obtain⟨A2,bc⟩:=ex1 (A1.alloc (.cells #[.int .i64 b.ac,.int .i64 b.places,.slice Uq b.parts.length Oj,.slice a3' b.apart.length Rm,.slice a4' b.aa.length TY] 26));have cS:=snew aV;have B1:=bnewk aV bc;have B2:=bnew2 bc cS;have HW:=wnew2 aV bc
 have HZ:Hid (∀W,Below A2.heap.size A2 W->(W.cell? ⟨w.heap.size,0,none⟩=some (.int .i64 b.ac)/\W.cell? ⟨w.heap.size,1,none⟩=some (.int .i64 b.places)/\W.cell? ⟨w.heap.size,2,none⟩=some (.slice a2 b.parts.length c2)/\W.cell? ⟨w.heap.size,3,none⟩=some (.slice a3 b.apart.length c3)/\W.cell? ⟨w.heap.size,4,none⟩=some (.slice a4 b.aa.length c4))/\
  W.cell? ⟨w.heap.size+1,0,none⟩=some (.int .i64 b.ac)/\W.cell? ⟨w.heap.size+1,1,none⟩=some (.int .i64 b.places)/\W.cell? ⟨w.heap.size+1,2,none⟩=some (.slice Uq b.parts.length Oj)/\W.cell? ⟨w.heap.size+1,3,none⟩=some (.slice a3' b.apart.length Rm)/\W.cell? ⟨w.heap.size+1,4,none⟩=some (.slice a4' b.aa.length TY)):=λW hW=>by
  have X1:=B1.o.below hW B1.o.lt;have X2:=B2.o.below hW B2.o.lt;exact⟨⟨X1.cell 0 rfl,X1.cell 1 rfl,X1.cell 2 rfl,X1.cell 3 rfl,X1.cell 4 rfl⟩,X2.cell 0 rfl,X2.cell 1 rfl,X2.cell 2 rfl,X2.cell 3 rfl,X2.cell 4 rfl⟩
 obtain⟨⟨z0,z1,z2,z3,z4⟩,y0,y1,y2,y3,y4⟩:=HZ.o A2 (Below.refl _ _);have hG:=wB;go_enter ZF28,Tryz.ntmps28
 go_wp2
 clear z0 z1 z2 z3 z4 y0 y1 y2 y3 y4 aV bc cS;go_loopw [5] (λi wr=>∃k:Nat,k<=b.parts.length/\i=.int .i64 k/\Hid (Below A2.heap.size A2 wr)) (λi _=>b.parts.length-(intOf i).toNat)
 case atStart=>exact⟨0,zAR _,rfl,Below.refl _ _⟩
 case round=>
  obtain⟨k,hk,rfl,hB⟩:=hrel;have mP:=HW.t hB.o;obtain⟨⟨z0,z1,z2,z3,z4⟩,y0,y1,y2,y3,y4⟩:=HZ.o wr hB.o;by_cases az:k<b.parts.length
  .obtain⟨⟨blk,off,sp⟩,x,rfl,hx,x0,x1,x2,x3,x4,vf,x5,x6⟩:=H2.o.1.elem H2.o.2 az;obtain⟨⟨ik,il,LM⟩,x',rfl,kW,Lv,Qy,YU,YV,x4',Fm,x5',ZZ⟩:=Uu.out.1.elem Uu.out.2 az;obtain rfl:sp=none:=x0.1;obtain rfl:LM=none:=Lv.1;rw[hx]at kW;obtain rfl:x=x':=zAY kW
   have HQ:Hid (∀W,Below wr.heap.size wr W->(W.cell? ⟨blk,off+k*6,none⟩=some (.string x.name)/\W.cell? ⟨blk,off+k*6+1,none⟩=some (.int .i64 x.cost)/\W.cell? ⟨blk,off+k*6+2,none⟩=some (.int .i64 x.bY)/\W.cell? ⟨blk,off+k*6+3,none⟩=some (.int .i64 x.lo)/\W.cell? ⟨blk,off+k*6+4,none⟩=some (.int .i64 x.hi)/\W.cell? ⟨blk,off+k*6+5,none⟩=some vf)/\
    (W.cell? ⟨ik,il+k*6,none⟩=some (.string x.name)/\W.cell? ⟨ik,il+k*6+1,none⟩=some (.int .i64 x.cost)/\W.cell? ⟨ik,il+k*6+2,none⟩=some (.int .i64 x.bY)/\W.cell? ⟨ik,il+k*6+3,none⟩=some (.int .i64 x.lo)/\W.cell? ⟨ik,il+k*6+4,none⟩=some (.int .i64 x.hi)/\W.cell? ⟨ik,il+k*6+5,none⟩=some Fm)/\
    (W.cell? ⟨w.heap.size,2,none⟩=some (.slice (some ⟨blk,off,none⟩) b.parts.length c2)/\W.cell? ⟨w.heap.size+1,2,none⟩=some (.slice (some ⟨ik,il,none⟩) b.parts.length Oj))/\Below wr.heap.size wr W):=λW hW=>by
    have rS:=mP.o.trans (hW.mono mP.o.size);have q:=(HZ.o W (hB.o.trans (hW.mono hB.o.size)))
    exact⟨⟨(x0.later (Kp.of rS)).2,(x1.later (Kp.of rS)).2,(x2.later (Kp.of rS)).2,(x3.later (Kp.of rS)).2,(x4.later (Kp.of rS)).2,(x5.later (Kp.of rS)).2⟩,
     ⟨(Lv.later (Kp.of rS)).2,(Qy.later (Kp.of rS)).2,(YU.later (Kp.of rS)).2,(YV.later (Kp.of rS)).2,(x4'.later (Kp.of rS)).2,(x5'.later (Kp.of rS)).2⟩,⟨q.1.2.2.1,q.2.2.2.1⟩,hW⟩
   have HC:Hid (∀W,Below wr.heap.size wr W->Calls ZP 74 #[.agg #[.string x.name,.int .i64 x.cost,.int .i64 x.bY,.int .i64 x.lo,.int .i64 x.hi,vf],.agg #[.string x.name,.int .i64 x.cost,.int .i64 x.bY,.int .i64 x.lo,.int .i64 x.hi,Fm]] W (di W (.bool true))):=λW hW=>
    yI W x vf Fm (x6.later (Kp.of (mP.o.trans (hW.mono mP.o.size)))) (ZZ.later (Kp.of (mP.o.trans (hW.mono mP.o.size))))
   have j0:(k:Int)<(b.parts.length:Int):=by omega
   clear x0 x1 x2 x3 x4 x5 x6 Lv Qy YU YV x4' x5' ZZ hx kW;go_wp2_with fail
   go_region_held3 (λW:World=>(W.cell? ⟨blk,off+k*6,none⟩=some (.string x.name)/\W.cell? ⟨blk,off+k*6+1,none⟩=some (.int .i64 x.cost)/\W.cell? ⟨blk,off+k*6+2,none⟩=some (.int .i64 x.bY)/\W.cell? ⟨blk,off+k*6+3,none⟩=some (.int .i64 x.lo)/\W.cell? ⟨blk,off+k*6+4,none⟩=some (.int .i64 x.hi)/\W.cell? ⟨blk,off+k*6+5,none⟩=some vf)/\
    (W.cell? ⟨ik,il+k*6,none⟩=some (.string x.name)/\W.cell? ⟨ik,il+k*6+1,none⟩=some (.int .i64 x.cost)/\W.cell? ⟨ik,il+k*6+2,none⟩=some (.int .i64 x.bY)/\W.cell? ⟨ik,il+k*6+3,none⟩=some (.int .i64 x.lo)/\W.cell? ⟨ik,il+k*6+4,none⟩=some (.int .i64 x.hi)/\W.cell? ⟨ik,il+k*6+5,none⟩=some Fm)/\
    (W.cell? ⟨w.heap.size,2,none⟩=some (.slice (some ⟨blk,off,none⟩) b.parts.length c2)/\W.cell? ⟨w.heap.size+1,2,none⟩=some (.slice (some ⟨ik,il,none⟩) b.parts.length Oj))/\Below wr.heap.size wr W)
    (first|exact HQ.o _ mO.o|exact HQ.o _ (Below.drewN (Below.refl wr.heap.size wr) 1))
    (first
      |(go_at_call 74
        refine(HC.o _ (Below.drewN (Below.refl wr.heap.size wr) 1)).mono ?_;rintro e w6 ⟨rfl,tJ⟩;have mO:Hid (Below wr.heap.size wr w6):=(Below.drewN (Below.refl wr.heap.size wr) 1).trans tJ;clear tJ))
   go_wp2
   go_round
   case rel=>exact⟨k+1,by omega,by go_num,hB.o.trans (mO.o.mono hB.o.size)⟩
   case measure=>simp[intOf];omega
  .have HBa:=hid hB;go_wp2
   clear z0 z1 z2 z3 z4 y0 y1 y2 y3 y4 az hk hB mP;obtain⟨wo,La⟩:∃wo,wo=wr:=⟨wr,rfl⟩
   rw[<-La]at HBa⊢;clear La;go_loopw [6] (λi wr=>∃k:Nat,k<=b.apart.length/\i=.int .i64 k/\Hid (Below A2.heap.size A2 wr)) (λi _=>b.apart.length-(intOf i).toNat)
   case atStart=>exact⟨0,zAR _,rfl,HBa⟩
   case round=>
    obtain⟨k,hk,rfl,hB⟩:=hrel;have mP:=HW.t hB.o;obtain⟨⟨z0,z1,z2,z3,z4⟩,y0,y1,y2,y3,y4⟩:=HZ.o wr hB.o;by_cases az:k<b.apart.length
    .obtain⟨⟨blk,off,sp⟩,⟨xa,xb⟩,rfl,hx,x0,x1⟩:=H3.o.1.elem H3.o.2 az;obtain⟨⟨ik,il,LM⟩,x',rfl,kW,Lv,Qy⟩:=H3'.out.1.elem H3'.out.2 az;obtain rfl:sp=none:=x0.1;obtain rfl:LM=none:=Lv.1;rw[hx]at kW;obtain rfl:(xa,xb)=x':=zAY kW;have j0:(k:Int)<(b.apart.length:Int):=by omega
     have q0:=(x0.later (Kp.of mP.o)).2;have q1:=(x1.later (Kp.of mP.o)).2;have q0':=(Lv.later (Kp.of mP.o)).2;have q1':=(Qy.later (Kp.of mP.o)).2;simp only[<-zBE]at q0 q1 q0' q1';clear x0 x1 Lv Qy hx kW;go_wp2
     go_quiet (fail)
     go_wp2
     go_round
     case rel=>exact⟨k+1,by omega,by go_num,Below.drewN hB.o _⟩
     case measure=>simp[intOf];omega
    .have HBb:=hid hB;go_wp2
     clear z0 z1 z2 z3 z4 y0 y1 y2 y3 y4 az hk hB mP HBa;obtain⟨wp,hwp⟩:∃wp,wp=wr:=⟨wr,rfl⟩
     rw[<-hwp]at HBb⊢;clear hwp;go_loopw [7] (λi wr=>∃k:Nat,k<=b.aa.length/\i=.int .i64 k/\Hid (Below A2.heap.size A2 wr)) (λi _=>b.aa.length-(intOf i).toNat)
     case atStart=>exact⟨0,zAR _,rfl,HBb⟩
     case round=>
      obtain⟨k,hk,rfl,hB⟩:=hrel;have mP:=HW.t hB.o;obtain⟨⟨z0,z1,z2,z3,z4⟩,y0,y1,y2,y3,y4⟩:=HZ.o wr hB.o;by_cases az:k<b.aa.length
      .obtain⟨⟨blk,off,sp⟩,x,rfl,hx,⟨vf,x0,x3⟩,x1,x2⟩:=H4.o.1.elem H4.o.2 az;obtain⟨⟨ik,il,LM⟩,x',rfl,kW,⟨Fm,Lv,YV⟩,Qy,YU⟩:=H4'.out.1.elem H4'.out.2 az;obtain rfl:sp=none:=x0.1;obtain rfl:LM=none:=Lv.1;rw[hx]at kW;obtain rfl:x=x':=zAY kW
       have HQ:Hid (∀W,Below wr.heap.size wr W->(W.cell? ⟨blk,off+k*3,none⟩=some vf/\W.cell? ⟨blk,off+k*3+1,none⟩=some (.int .i64 x.lo)/\W.cell? ⟨blk,off+k*3+2,none⟩=some (.int .i64 x.hi))/\
        (W.cell? ⟨ik,il+k*3,none⟩=some Fm/\W.cell? ⟨ik,il+k*3+1,none⟩=some (.int .i64 x.lo)/\W.cell? ⟨ik,il+k*3+2,none⟩=some (.int .i64 x.hi))/\
        (W.cell? ⟨w.heap.size,4,none⟩=some (.slice (some ⟨blk,off,none⟩) b.aa.length c4)/\W.cell? ⟨w.heap.size+1,4,none⟩=some (.slice (some ⟨ik,il,none⟩) b.aa.length TY))/\Below wr.heap.size wr W):=λW hW=>by
        have rS:=mP.o.trans (hW.mono mP.o.size);have q:=(HZ.o W (hB.o.trans (hW.mono hB.o.size)))
        exact⟨⟨(x0.later (Kp.of rS)).2,(x1.later (Kp.of rS)).2,(x2.later (Kp.of rS)).2⟩,⟨(Lv.later (Kp.of rS)).2,(Qy.later (Kp.of rS)).2,(YU.later (Kp.of rS)).2⟩,⟨q.1.2.2.2.2,q.2.2.2.2.2⟩,hW⟩
       have HC:Hid (∀W,Below wr.heap.size wr W->Calls ZP 75 #[vf,Fm] W (di W (.bool true))):=λW hW=>
        pa W vf Fm x.parts (x3.later (Kp.of (mP.o.trans (hW.mono mP.o.size)))) (YV.later (Kp.of (mP.o.trans (hW.mono mP.o.size))))
       have j0:(k:Int)<(b.aa.length:Int):=by omega
       clear x0 x1 x2 x3 Lv Qy YU YV hx kW;go_wp2_with fail
       go_region_held3 (λW:World=>(W.cell? ⟨blk,off+k*3,none⟩=some vf/\W.cell? ⟨blk,off+k*3+1,none⟩=some (.int .i64 x.lo)/\W.cell? ⟨blk,off+k*3+2,none⟩=some (.int .i64 x.hi))/\
        (W.cell? ⟨ik,il+k*3,none⟩=some Fm/\W.cell? ⟨ik,il+k*3+1,none⟩=some (.int .i64 x.lo)/\W.cell? ⟨ik,il+k*3+2,none⟩=some (.int .i64 x.hi))/\
        (W.cell? ⟨w.heap.size,4,none⟩=some (.slice (some ⟨blk,off,none⟩) b.aa.length c4)/\W.cell? ⟨w.heap.size+1,4,none⟩=some (.slice (some ⟨ik,il,none⟩) b.aa.length TY))/\Below wr.heap.size wr W)
        (first|exact HQ.o _ mO.o|exact HQ.o _ (Below.drewN (Below.refl wr.heap.size wr) 1))
        (first
          |(go_at_call 75
            refine(HC.o _ (Below.drewN (Below.refl wr.heap.size wr) 1)).mono ?_;rintro e w6 ⟨rfl,tJ⟩;have mO:Hid (Below wr.heap.size wr w6):=(Below.drewN (Below.refl wr.heap.size wr) 1).trans tJ;clear tJ))
       go_wp2
       go_round
       case rel=>exact⟨k+1,by omega,by go_num,hB.o.trans (mO.o.mono hB.o.size)⟩
       case measure=>simp[intOf];omega
      .go_wp2
       go_ret;exact⟨rfl,mP.o⟩
end Go.Proofs.Cz
