/- A part. Conditions: none. -/
import Derived.Test.YtehbindidbgacaaGreatDoorT42
import Derived.Test.YtehbindidbgacaaGreatDoorT44
set_option linter.all false
set_option maxHeartbeats 8000000
set_option maxRecDepth 100000
namespace Go.Proofs.Cz
open Go.RowKit
theorem choice_any (w:World) (v:Value) (l:List Int) (k:Nat) (h:WordsAt w v l) (hk:k<1000):Calls ZP 43 #[v,.int .i64 k] w (fun e w'=>(e=.returned (.int .i64 (pickOf l k))/\0<=pickOf l k/\pickOf l k<65536)/\w'=w):=by
 obtain⟨a,c,h1,h2⟩:=h;have H:Hid (bA w v l.length a c/\_):=⟨h1,h2⟩
 obtain⟨rfl,l1,m1,n1,r1⟩:=h1;unfold maxLen at m1;clear h2 n1 r1;go_enter ZF43,Tryz.ntmps43
 by_cases au:k<l.length
 .obtain⟨⟨blk,off,sp⟩,y,rfl,hy,y0,Wp,hy1⟩:=H.out.1.elem H.out.2 au;obtain rfl:sp=none:=y0.1;have g0:=y0.2;simp only at g0;have HY:Hid (pickOf l k=y):=(by unfold pickOf;rw[hy];rfl:pickOf l k=y)
  have hi:(k:Int)<(l.length:Int):=by omega
  have hy2:wrap64 y=y:=by unfold wrap64;omega
  clear y0 hy;go_wp2
  go_ret;exact⟨⟨congrArg (fun z=>Ending.returned (.int .i64 z)) HY.out.symm,by rw[HY.out];exact Wp,by rw[HY.out];exact hy1⟩,rfl⟩
 .have HY:Hid (pickOf l k=0):=(by unfold pickOf;rw[List.getElem?_eq_none (by omega)];rfl:pickOf l k=0)
  have hi:¬(k:Int)<(l.length:Int):=by omega
  go_wp2
  go_ret;exact⟨⟨congrArg (fun z=>Ending.returned (.int .i64 z)) HY.out.symm,by rw[HY.out];omega,by rw[HY.out];omega⟩,rfl⟩
theorem num_any (w:World) (lo hi n:Int) (h0:0<=lo) (h1:lo<=hi) (h2:hi<=20) (h3:0<=n) (h4:n<65536):Calls ZP 42 #[.agg #[.int .i64 lo,.int .i64 hi],.int .i64 n] w (cD w (.int .i64 (numOf lo hi n))):=by
 obtain⟨A1,ba⟩:∃A,w.alloc (.cells #[.int .i64 lo,.int .i64 hi] 43)=A:=⟨_,rfl⟩
 have B1:=gq ba;have HW:Hid (Below w.heap.size w A1):=(dV ba).below (by simp) (Nat.le_refl _);have z0:A1.cell? ⟨w.heap.size,0,none⟩=some (.int .i64 lo):=B1.cell 0 rfl;have z1:A1.cell? ⟨w.heap.size,1,none⟩=some (.int .i64 hi):=B1.cell 1 rfl;have e1:wrap64 (hi-lo)=hi-lo:=by unfold wrap64;omega
 have e2:wrap64 (hi-lo+1)=hi-lo+1:=by unfold wrap64;omega
 have e3:¬hi-lo+1=0:=by omega
 have e5:=numOf_in (n:=n) h1;obtain⟨r,hr⟩:∃r,numOf lo hi n=r:=⟨_,rfl⟩
 have mL:n%(hi-lo+1)=r-lo:=by rw[<-hr];unfold numOf;omega
 rw[hr]at e5⊢;have HR:Hid (n%(hi-lo+1)=r-lo):=mL;clear B1 hr mL;go_enter ZF42,Tryz.ntmps42
 go_wp2
 go_quiet (fail)
 go_wp2
 go_ret;refine⟨congrArg (fun z=>Ending.returned (.int .i64 z)) (show wrap64 (lo+n%(hi-lo+1))=r from ?_),Below.drewN HW.out _⟩;rw[HR.out];unfold wrap64;omega
theorem drawn_any (w:World) (v vp:Value) (b:an) (l:List Int) (hb:ap w v b) (hv:Valid b) (hp:WordsAt w vp l):Calls ZP 8 #[v,vp] w (QO w (listT b.parts.length (timeOf b l))):=by
 have HB:Hid (ap w v b):=hb;have HV:Hid (Valid b):=hv;have HP:Hid (WordsAt w vp l):=hp;have IE:=hv.parts.many;obtain⟨v2,v3,v4,rfl,⟨a2,c2,h2,f2⟩,⟨a3,c3,⟨rfl,_,_,_,_⟩,_⟩,⟨a4,c4,⟨rfl,_,_,_,_⟩,_⟩⟩:=hb;have H2:Hid (bA w v2 b.parts.length a2 c2/\_):=⟨h2,f2⟩
 obtain⟨rfl,l2,m2,n2,r2⟩:=h2;unfold maxLen at m2;clear r2 f2 n2 hv hp;obtain⟨i0,hi,pl,kM,mT⟩:=info_parts lD;obtain⟨A1,ba⟩:∃A,w.alloc (.cells #[.int .i64 b.ah,.int .i64 b.places,.slice a2 b.parts.length c2,.slice a3 b.apart.length c3,.slice a4 b.aa.length c4] 26)=A:=⟨_,rfl⟩
 have B1:Hid (aC A1 w.heap.size 26 #[.int .i64 b.ah,.int .i64 b.places,.slice a2 b.parts.length c2,.slice a3 b.apart.length c3,.slice a4 b.aa.length c4]):=gq ba;have HW:Hid (Below w.heap.size w A1):=(dV ba).below (by simp) (Nat.le_refl _);have z2:A1.cell? ⟨w.heap.size,2,none⟩=some (.slice a2 b.parts.length c2):=B1.out.cell 2 rfl;go_enter ZF8,Tryz.ntmps8
 go_wp2
 clear ba z2;go_loopw [5,6] (fun v i wr=>∃k:Nat,k<=b.parts.length/\i=.int .i64 k/\Hid (wr.ownsRow A1.heap.size 3 1 v k ((listT k (timeOf b l)).map (Value.int .i64)))/\Hid (Below A1.heap.size A1 wr)) (fun _ i _=>b.parts.length-(intOf i).toNat)
 case atStart=>exact⟨0,Nat.zero_le _,rfl,World.ownsRow_nil _ _ _ _,Below.refl _ _⟩
 case round=>
  obtain⟨k,hk,rfl,hO,hB⟩:=hrel;have Fw:Hid (Below w.heap.size w wr):=HW.out.trans (hB.out.mono HW.out.size);have z2:wr.cell? ⟨w.heap.size,2,none⟩=some (.slice a2 b.parts.length c2):=(B1.out.below hB.out B1.out.lt).cell 2 rfl;by_cases au:k<b.parts.length
  .obtain⟨⟨blk,off,sp⟩,x,rfl,hx,x0,x1,x2,x3,x4,vf,x5,x6⟩:=H2.out.1.elem H2.out.2 au;obtain rfl:sp=none:=x0.1;have Px:=(HV.out.parts.all k x au hx).1.time;have Ff:timeOf b l k=numOf x.lo x.hi (pickOf l k):=by unfold timeOf;rw[hx]
   have HKT:Hid (timeOf b l k=numOf x.lo x.hi (pickOf l k)):=Ff;have VC:Hid (0<=x.lo/\x.lo<=x.hi/\x.hi<=20):=⟨by omega,by omega,by omega⟩
   have I0:Hid (∀X:World,Below A1.heap.size A1 X->X.cell? ⟨blk,off+k*6+3,none⟩=some (.int .i64 x.lo)/\X.cell? ⟨blk,off+k*6+3+1,none⟩=some (.int .i64 x.hi)/\X.cell? ⟨w.heap.size,2,none⟩=some (.slice (some ⟨blk,off,none⟩) b.parts.length c2)):=fun X hX=>by
    have hw:=HW.out.trans (hX.mono HW.out.size);have y3:=(x3.later (Kp.of hw)).2;have y4:=(x4.later (Kp.of hw)).2;simp only[<-Nat.add_assoc]at y3 y4;exact⟨y3,y4,(B1.out.below hX B1.out.lt).cell 2 rfl⟩
   obtain⟨y3,y4,_⟩:=I0.out wr hB.out;have iO:(k:Int)<(b.parts.length:Int):=by omega
   have HCH:Hid (∀X:World,Below A1.heap.size A1 X->Calls ZP 43 #[vp,.int .i64 k] X (fun e w'=>(e=.returned (.int .i64 (pickOf l k))/\0<=pickOf l k/\pickOf l k<65536)/\w'=X)):=fun X hX=>choice_any X vp l k (HP.out.later (Kp.of (HW.out.trans (hX.mono HW.out.size)))) (by omega);obtain⟨pk,Xc⟩:∃pk,pickOf l k=pk:=⟨_,rfl⟩
   rw[Xc]at HCH HKT Ff;clear x0 x1 x2 x3 x4 x5 x6 hx Px Ff Xc;have bV:=hB.out.size;go_upto_region 5 with fail
   go_region_held3 (fun X:World=>(X.cell? ⟨blk,off+k*6+3,none⟩=some (.int .i64 x.lo)/\X.cell? ⟨blk,off+k*6+3+1,none⟩=some (.int .i64 x.hi)/\X.cell? ⟨w.heap.size,2,none⟩=some (.slice (some ⟨blk,off,none⟩) b.parts.length c2))/\Below A1.heap.size A1 X)
    (first
      |exact⟨I0.out _ Q0.out,Q0.out⟩
      |exact⟨I0.out _ (ng.out.alloc ng.out.size _),ng.out.alloc ng.out.size _⟩
      |exact⟨I0.out _ ng.out,ng.out⟩
      |exact⟨I0.out _ (Below.drewN hB.out 1),Below.drewN hB.out 1⟩)
    (first
      |(go_at_call 43
        refine(HCH.out _ (Below.drewN hB.out 1)).mono ?_;rintro e w23 ⟨⟨rfl,Qr,Xs⟩,rfl⟩)
      |(go_at_call 42
        refine(num_any _ x.lo x.hi pk VC.out.1 VC.out.2.1 VC.out.2.2 Qr Xs).mono ?_;rintro e Mx ⟨rfl,FO⟩;have ng:Hid (Below A1.heap.size A1 Mx):=(Below.drewN hB.out 1).trans (FO.mono hB.out.size);have VO:Hid (Mx.ownsRow A1.heap.size 3 1 _ k ((listT k (timeOf b l)).map (Value.int .i64))):=aY hO.out fun j hj=>FO.block j (aE hO.out j hj).2;clear FO)
      |(refine eT rfl (.tmp 14) (.tmp 25) 31 rfl A1.heap.size 3 i0 (.int .i64 0) 1 8 fG hi pl kM mT rfl (by decide) _ k _ rfl (VO.out.alloc _) ⟨_,0,none⟩ 1 1 [.int .i64 (numOf x.lo x.hi pk)] rfl rfl (qU _ _ _) (ou _) (by unfold maxLen;omega) (by omega) (by have:=ng.out.size;simp;omega) ?_
        intro UL w26 VP VQ;have zb5:Hid (w26.ownsRow A1.heap.size 3 1 UL (k+1) ((listT (k+1) (timeOf b l)).map (Value.int .i64))):=(by rw[listT_succ,List.map_append,HKT.out];exact VP)
        have Q0:Hid (Below A1.heap.size A1 w26):=Below.grown (ng.out.alloc ng.out.size _) VQ (by have:=ng.out.size;simp;omega) (ig VO.out);clear VP VQ))
   all_goals
    go_wp2_with fail
    go_round
    case rel=>exact⟨k+1,by omega,by go_num,zb5,Q0⟩
    case measure=>simp[intOf];omega
  .have e:k=b.parts.length:=by omega
   subst e;go_wp2
   go_ret;exact⟨⟨_,rfl,by rw[listT_len];exact ij hO.out HW.out.size⟩,Fw.out⟩
section
variable {w W X:World} {b:an} {g2 k2 k3 k4 g4 d2 d4:Nat} {p3 p4:Option Addr} {L2:List (Part × Value)} {L4:List (dq × Value)}
end
end Go.Proofs.Cz
