/- A part. Conditions: none. -/
import Derived.Test.YtehbindidbgacaaGreatDoorT48
set_option linter.all false
set_option maxHeartbeats 8000000
set_option maxRecDepth 100000
namespace Go.Proofs.Cz
open Go.RowKit
def TrueAt (w0 w A4:World) (b:an) (t:Nat->Int) (v2 v3:Value) (i:Nat) (wr:World):Prop:=
 ∃(v4:Value) (L4:List (dq×Value)),aC wr (w.heap.size+1+1) 26 #[.int .i64 b.ah,.int .i64 b.places,v2,v3,v4]/\wr.ownsRow A4.heap.size 65 3 v4 i (L4.flatMap lK)/\L4.map Prod.fst=(b.aa.take i).map (eD b t)/\
  (∀x∈L4,ao w0 x.2 x.1.parts)/\ab [w.heap.size+1+1] A4 wr
def RetFirm (w0 w:World) (b:an) (e:Ending) (w':World):Prop:=
 (∃u,e=.returned u/\∀X:World,(∀k:Nat,k<w'.heap.size->k<w0.heap.size\/w.heap.size<=k->X.heap[k]?=w'.heap[k]?)->ap X u b)/\Below w.heap.size w w'
theorem truly_any (w0 w:World) (v vt:Value) (b:an) (t:Nat->Int) (hb:ap w0 v b) (h0:Below w0.heap.size w0 w) (hv:Valid b) (ht:sN b t) (hT:ao w vt (listT b.parts.length t)):
 Calls ZP 9 #[v,vt] w (RetFirm w0 w (qj b t)):=by
 have HB:Hid (ap w0 v b):=hb;have H0:Hid (Below w0.heap.size w0 w):=h0;have HV:Hid (Valid b):=hv;have HTR:Hid (∀i,0<=t i/\t i<=20):=ht.range hv;have Xb:=hv.many;have t8:=hv.places;obtain⟨a2,c2,a3,c3,a4,c4,rfl⟩:=hb.et;obtain⟨_,_,_,AB,_,_,a4',c4',h4,f4⟩:=hb;simp only[Value.agg.injEq,Array.mk.injEq,List.cons.injEq,true_and,and_true]at AB;obtain⟨rfl,rfl,rfl⟩:=AB;obtain⟨rfl,rfl⟩:a4=a4'/\c4=c4':=by have:=h4.eq;simpa using this
 have H4:Hid (bA w0 (.slice a4 b.aa.length c4) b.aa.length a4 c4/\∀d,a4=some d->∀(j:Nat) (x:dq),b.aa[j]?=some x->(∃vf,At w0 d (j*3) vf/\ao w0 vf x.parts)/\At w0 d (j*3+1) (.int .i64 x.lo)/\At w0 d (j*3+2) (.int .i64 x.hi)):=⟨h4,f4⟩
 obtain⟨ta,tc,sV,FQ⟩:=hT;obtain rfl:=sV.eq;rw[listT_len]at sV⊢;have HT:Hid (bA w (.slice ta b.parts.length tc) b.parts.length ta tc/\∀d,ta=some d->∀(j:Nat) (x:Int),(listT b.parts.length t)[j]?=some x->At w d j (.int .i64 x)):=⟨sV,FQ⟩
 obtain⟨A1,ba⟩:∃A,w.alloc (.cells #[.int .i64 b.ah,.int .i64 b.places,.slice a2 b.parts.length c2,.slice a3 b.apart.length c3,.slice a4 b.aa.length c4] 26)=A:=⟨_,rfl⟩
 obtain⟨A2,bN⟩:∃A,A1.alloc (.cells VD 26)=A:=⟨_,rfl⟩
 obtain⟨A3,ii⟩:∃A,A2.alloc (.cells #[.int .i64 b.ah,.int .i64 b.places,.slice a2 b.parts.length c2,.slice a3 b.apart.length c3,.slice a4 b.aa.length c4] 26)=A:=⟨_,rfl⟩
 have eR:=DH ba;have js:=DH bN;rw[eR]at js;have iO:=dV bN;have iN:=dV ii;have c1:aC A2 w.heap.size 26 #[.int .i64 b.ah,.int .i64 b.places,.slice a2 b.parts.length c2,.slice a3 b.apart.length c3,.slice a4 b.aa.length c4]:=iO.box (gq ba) (by simp);have Xw:aC A3 w.heap.size 26 #[.int .i64 b.ah,.int .i64 b.places,.slice a2 b.parts.length c2,.slice a3 b.apart.length c3,.slice a4 b.aa.length c4]:=iN.box c1 (by simp);have d2:aC A3 (w.heap.size+1) 26 VD:=by have:=iN.box (gq bN) (by simp);rw[eR]at this;exact this
 have d3:aC A3 (w.heap.size+1+1) 26 #[.int .i64 b.ah,.int .i64 b.places,.slice a2 b.parts.length c2,.slice a3 b.apart.length c3,.slice a4 b.aa.length c4]:=by have:=gq ii;rw[js]at this;exact this
 obtain⟨A4,tS⟩:∃A,A3.setCell ⟨w.heap.size+1+1,4,none⟩ (.slice none 0 0)=A:=⟨_,rfl⟩
 have kA:ab [w.heap.size+1+1] A3 A4:=by rw[<-tS];exact ab.set _ (by simp) _
 have B1:Hid (aC A4 w.heap.size 26 #[.int .i64 b.ah,.int .i64 b.places,.slice a2 b.parts.length c2,.slice a3 b.apart.length c3,.slice a4 b.aa.length c4]):=kA.box Xw (by simp;omega);have B2:Hid (aC A4 (w.heap.size+1) 26 VD):=kA.box d2 (by simp);have B3:Hid (aC A4 (w.heap.size+1+1) 26 #[.int .i64 b.ah,.int .i64 b.places,.slice a2 b.parts.length c2,.slice a3 b.apart.length c3,.slice none 0 0]):=by rw[<-tS];exact d3.set 4 _
 have HW:Hid (Below w.heap.size w A4):=((dV ba).trans' (iO.trans' iN)).below (by simp) (Nat.le_refl _)|>.trans (kA.below (by simp;omega) (by have:=d3.lt;omega));have z0:=c1.cell 0 rfl;have z1:=c1.cell 1 rfl;have z2:=c1.cell 2 rfl;have z3:=c1.cell 3 rfl;have z4:=c1.cell 4 rfl;have y4:=d3.cell 4 rfl;have y5:=d3.aI 4;obtain⟨i0,yd,pl,kM,mT⟩:=info_parts QT;clear hv ht h0 h4 f4 sV FQ iO iN kA c1 Xw d2 d3;go_enter ZF9,Tryz.ntmps9
 go_wp2_with fail
 clear z0 z1 z2 z3 z4 y4 y5 ba bN ii tS eR js;go_loopw [6] (fun i wr=>∃j:Nat,j<=b.aa.length/\i=.int .i64 j/\Hid (TrueAt w0 w A4 b t (.slice a2 b.parts.length c2) (.slice a3 b.apart.length c3) j wr)) (fun i _=>b.aa.length-(intOf i).toNat)
 case atStart=>exact⟨0,Nat.zero_le _,rfl,_,[],B3.out,World.ownsRow_nil _ _ _ _,rfl,(fun x h=>by cases h),ab.refl _ _⟩
 case round=>
  obtain⟨j,hj,rfl,hR⟩:=hrel;obtain⟨v4,L4,Fe,ho4,IM,Lo,kA⟩:=hR.out;have eM:Hid (aC wr (w.heap.size+1+1) 26 #[.int .i64 b.ah,.int .i64 b.places,.slice a2 b.parts.length c2,.slice a3 b.apart.length c3,v4]):=Fe;have VT:Hid (wr.ownsRow A4.heap.size 65 3 v4 j (L4.flatMap lK)):=ho4;have XO:Hid (L4.map Prod.fst=(b.aa.take j).map (eD b t)/\∀x∈L4,ao w0 x.2 x.1.parts):=⟨IM,Lo⟩
  have Ma:Hid (ab [w.heap.size+1+1] A4 wr):=kA;have Mc:Hid (Below w.heap.size w wr):=HW.out.trans (kA.below (by simp;omega) HW.out.size);have VU:Hid (Below w0.heap.size w0 wr):=H0.out.trans (Mc.out.mono H0.out.size);have HZ:Hid (w.heap.size+1+1<A4.heap.size):=B3.out.lt;have kF:=kA.box B1.out (by simp;omega);have z4:=kF.cell 4 rfl;clear Fe ho4 IM Lo kF hR;by_cases au:j<b.aa.length
  .obtain⟨⟨blk,off,sp⟩,y,rfl,hy,⟨vf,q0,qi⟩,q1,q2⟩:=H4.out.1.elem H4.out.2 au;obtain rfl:sp=none:=q0.1;have rk:=HV.out.aa j y au hy;obtain⟨fa,fc,DI,hfe⟩:=qi;obtain rfl:=DI.eq;have HFI:Hid (ao w0 (.slice fa y.parts.length fc) y.parts):=⟨fa,fc,DI,hfe⟩
   have HFS:Hid (bA w0 (.slice fa y.parts.length fc) y.parts.length fa fc/\∀d,fa=some d->∀(j:Nat) (x:Int),y.parts[j]?=some x->At w0 d j (.int .i64 x)):=⟨DI,hfe⟩
   have hlen:=rk.IA.len
   have HRN:Hid (∀(k:Nat) (x:Int),y.parts[k]?=some x->0<=x/\x<b.parts.length):=fun k x hx=>by
    have:=rk.IA.range k x (List.getElem?_eq_some_iff.1 hx).1 hx;omega
   have F8:Hid (0<=y.lo/\y.lo<=y.hi/\y.hi<=99):=rk.LP;have HY:Hid (b.aa[j]?=some y):=hy;have IM:y.parts.length<=4:=by omega
   have HNT:Hid (b.places.toNat=y.parts.length):=(by omega:b.places.toNat=y.parts.length)
   have y0:=(q0.later (Kp.of VU.out)).2;have y1:=(q1.later (Kp.of VU.out)).2;have y2:=(q2.later (Kp.of VU.out)).2;simp only[<-Nat.add_assoc]at y0 y1 y2;obtain⟨W1,zp⟩:∃W,wr.alloc (.cells #[.slice fa y.parts.length fc,.int .i64 y.lo,.int .i64 y.hi] 65)=W:=⟨_,rfl⟩
   have sA:=dV zp;have D1:Hid (aC W1 wr.heap.size 65 #[.slice fa y.parts.length fc,.int .i64 y.lo,.int .i64 y.hi]):=gq zp;have HKW:Hid (ab [] wr W1):=sA;have pv:Hid (Below w0.heap.size w0 W1):=VU.out.trans (sA.below (by simp) VU.out.size);have vi:Hid (Below w.heap.size w W1):=Mc.out.trans (sA.below (by simp) Mc.out.size);have d0:=D1.out.cell 0 rfl;have d1:=D1.out.cell 1 rfl;have d2:=D1.out.cell 2 rfl;have nk:(j:Int)<(b.aa.length:Int):=by omega
   have Kw:=DI.le;clear q0 q1 q2 DI hfe rk hy sA;go_upto_region 9 with fail
   go_loop [8,9] (fun a i=>∃k:Nat,k<=y.parts.length/\a=.int .i64 (aq (ac y.parts) t k)/\i=.int .i64 k) (fun _ i=>y.parts.length-(intOf i).toNat)
   case atStart=>exact⟨0,Nat.zero_le _,rfl,rfl⟩
   case round=>
    obtain⟨k,hk,rfl,rfl⟩:=hrel;have bi:=it (m:=ac y.parts) HTR.out k;by_cases hlk:k<y.parts.length
    .obtain⟨⟨fb,fo,fsp⟩,x,rfl,hx,x0⟩:=HFS.out.1.elem HFS.out.2 hlk;obtain rfl:fsp=none:=x0.1;have hx2:=HRN.out k x hx;obtain⟨xn,rfl⟩:∃xn:Nat,x=(xn:Int):=⟨x.toNat,by omega⟩
     have xh:xn<b.parts.length:=by omega
     have g0:=(x0.later (Kp.of pv.out)).2;have ia:ac y.parts k=(xn:Int):=by unfold ac;rw[hx];rfl
     have HS:Hid (aq (ac y.parts) t (k+1)=aq (ac y.parts) t k+t xn):=(by
      show aq (ac y.parts) t k+t (ac y.parts k).toNat=_;rw[ia,Int.toNat_natCast])
     obtain⟨VV,z,VW,hz,zz⟩:=bA.elem (l:=listT b.parts.length t) (by rw[listT_len];exact HT.out.1) HT.out.2 (show xn<(listT b.parts.length t).length by rw[listT_len];exact xh);subst VW;obtain⟨tb,Jr,ts⟩:=VV;obtain rfl:ts=none:=zz.1;have g1:=(zz.later (Kp.of vi.out)).2;rw[listT_get t xh]at hz;cases hz;simp only at g0 g1;have iO:(k:Int)<(y.parts.length:Int):=by omega
     have htx:=HTR.out xn;have hxi:(xn:Int)<(b.parts.length:Int):=by omega
     obtain⟨tk,sZ⟩:∃tk,aq (ac y.parts) t k=tk:=⟨_,rfl⟩
     have Q1:Hid (aq (ac y.parts) t k=tk):=sZ;rw[sZ]at bi⊢;clear x0 zz hx ia sZ;go_wp2
     go_round
     case rel=>exact⟨k+1,by omega,by rw[HS.out,Q1.out],by go_num⟩
     case measure=>simp[intOf];omega
    .have e:k=y.parts.length:=by omega
     subst e;obtain⟨tk,sZ⟩:∃tk,aq (ac y.parts) t y.parts.length=tk:=⟨_,rfl⟩
     have Q1:Hid (aq (ac y.parts) t b.places.toNat=tk):=by rw[HNT.out];exact sZ
     rw[sZ]at bi⊢;have e0:=D1.out.aI 1;have e1:=D1.out.aI 2;clear sZ
     go_upto_region 13 with(go_at_call 41
                            refine(QU _ _ _).mono ?_;rintro e w5 ⟨rfl,zf⟩;have te:Hid (ab [] W1 w5):=ab.of zf;have D5:Hid (aC w5 wr.heap.size 65 #[.slice fa y.parts.length fc,.int .i64 y.lo,.int .i64 y.hi]):=te.out.box D1.out (by simp);have e3:=D5.out.aI 1;have e4:=D5.out.aI 2;have e5:=D5.out.cell 1 rfl;have e6:=D5.out.cell 2 rfl;clear zf)
     obtain⟨W6,XP⟩:∃W,(w5.setCell ⟨wr.heap.size,1,none⟩ (.int .i64 (min tk y.lo))).setCell ⟨wr.heap.size,2,none⟩ (.int .i64 (max tk y.hi))=W:=⟨_,rfl⟩
     have D6:Hid (aC W6 wr.heap.size 65 #[.slice fa y.parts.length fc,.int .i64 (min tk y.lo),.int .i64 (max tk y.hi)]):=by rw[<-XP];exact(D5.out.set 1 _).set 2 _
     have hk6:ab [wr.heap.size] w5 W6:=by rw[<-XP];exact(ab.set _ (by simp) _).trans' (ab.set _ (by simp) _)
     have K6:Hid (ab [wr.heap.size] wr W6):=((HKW.out.trans' te.out).mono (by simp)).trans' hk6;have mj:Hid (aC W6 (w.heap.size+1+1) 26 #[.int .i64 b.ah,.int .i64 b.places,.slice a2 b.parts.length c2,.slice a3 b.apart.length c3,v4]):=K6.out.box eM.out (by have:=Ma.out.size;have:=HZ.out;simp;omega);have HO6:Hid (W6.ownsRow A4.heap.size 65 3 v4 j (L4.flatMap lK)):=aY VT.out fun i hi=>K6.out.block i (aE VT.out i hi).2 (by have:=(aE VT.out i hi).2;simp;omega);have VX:Hid (eD b t y=⟨y.parts,min tk y.lo,max tk y.hi⟩):=by unfold Hid eD;rw[Q1.out]
     rw[XP];have r0:=D6.out.cell 0 rfl;have r1:=D6.out.cell 1 rfl;have r2:=D6.out.cell 2 rfl;have s4:=mj.out.cell 4 rfl;clear XP hk6 e0 e1 e3 e4 e5 e6 d0 d1 d2 zp y0 y1 y2 z4
     go_wp2_with(at_builtin
                 refine wpList_append_own _ rfl (.tmp 54) (.tmp 56) 24 rfl A4.heap.size 65 i0 (.agg #[.slice none 0 0,.int .i64 0,.int .i64 0]) 3 40 Mo yd pl kM mT rfl (by decide) _ _ _ rfl (HO6.out.alloc _) ⟨W6.heap.size,0,none⟩ 1 1 [.slice fa y.parts.length fc,.int .i64 (min tk y.lo),.int .i64 (max tk y.hi)] rfl rfl (ov (aC.new W6 65 _)) (FP _ _ _ _ _) (by unfold maxLen;omega) (by omega) (by have:=Ma.out.size;have:=K6.out.size;simp;omega) ?_;intro v7 w7 ho7 hg7 _;obtain⟨g7,k7,rfl⟩:=ownsRow_succ ho7;have HO7:Hid (w7.ownsRow A4.heap.size 65 3 (.slice (some ⟨g7,0,none⟩) (j+1) k7) (j+1) (L4.flatMap lK++[.slice fa y.parts.length fc,.int .i64 (min tk y.lo),.int .i64 (max tk y.hi)])):=ho7;have kJ:Hid (aC w7 (w.heap.size+1+1) 26 #[.int .i64 b.ah,.int .i64 b.places,.slice a2 b.parts.length c2,.slice a3 b.apart.length c3,v4]):=(hg7.block _ (by have:=mj.out.lt;simp;omega) (fun e=>by have:=ig HO6.out _ e.symm;have:=HZ.out;omega)).trans ((ab.alloc [] W6 _).box mj.out (by simp));have Si:Hid (ab [w.heap.size+1+1] A4 w7):=ab.grow ((Ma.out.trans K6.out (by have:=Ma.out.size;simp;omega)).kj _) hg7 (fun i hi=>ig HO6.out i hi);have c7:=kJ.out.cell 4 rfl;have f7:=kJ.out.aI 4;clear ho7 hg7)
     have HN:Hid (TrueAt w0 w A4 b t (.slice a2 b.parts.length c2) (.slice a3 b.apart.length c3) (j+1) (w7.setCell ⟨w.heap.size+1+1,4,none⟩ (.slice (some ⟨g7,0,none⟩) (j+1) k7))):=by
      refine⟨_,L4++[(⟨y.parts,min tk y.lo,max tk y.hi⟩,.slice fa y.parts.length fc)],kJ.out.set 4 _,?_,?_,fun x hx=>?_,Si.out.trans' (ab.set _ (by simp) _)⟩
      .rw[List.flatMap_append];refine aY HO7.out fun i hi=>Below.heap_setCell _ _ _ _ ?_;have h1:=ig HO7.out i hi;have h2:=HZ.out;show i≠w.heap.size+1+1;omega
      .rw[List.map_append,XO.out.1,List.take_add_one,HY.out,List.map_append];simp[VX.out]
      .rcases List.mem_append.1 hx with hx|hx
       .exact XO.out.2 x hx
       .obtain rfl:=List.mem_singleton.1 hx;exact HFI.out
     clear c7 f7 r0 r1 r2 s4;go_round
     case rel=>exact⟨j+1,by omega,by go_num,HN⟩
     case measure=>simp[intOf];omega
  .have e:j=b.aa.length:=by omega
   subst e;have QR:Hid (wr.ownsRow A4.heap.size 65 3 v4 b.aa.length (L4.flatMap lK)/\L4.map Prod.fst=b.aa.map (eD b t)):=⟨VT.out,by rw[XO.out.1,List.take_length]⟩
   obtain⟨q4,k4,rfl⟩:=dM VT.out;have hP6:Hid (aC wr (w.heap.size+1) 26 VD):=Ma.out.box B2.out (by simp);have r0:=eM.out.cell 0 rfl;have r1:=eM.out.cell 1 rfl;have r2:=eM.out.cell 2 rfl;have r3:=eM.out.cell 3 rfl;have r4:=eM.out.cell 4 rfl;obtain⟨⟨s0,s1,s2,s3,s4⟩,f0,f1,f2,f3,f4⟩:=VS hP6.out;go_wp2_with fail
   obtain⟨WF,kC⟩:∃V,((((wr.setCell ⟨w.heap.size+1,0,none⟩ (.int .i64 b.ah)).setCell ⟨w.heap.size+1,1,none⟩ (.int .i64 b.places)).setCell ⟨w.heap.size+1,2,none⟩ (.slice a2 b.parts.length c2)).setCell ⟨w.heap.size+1,3,none⟩ (.slice a3 b.apart.length c3)).setCell ⟨w.heap.size+1,4,none⟩ (.slice q4 b.aa.length k4)=V:=⟨_,rfl⟩
   obtain⟨Js,Jt⟩:=VE (.int .i64 b.ah) (.int .i64 b.places) (.slice a2 b.parts.length c2) (.slice a3 b.apart.length c3) (.slice q4 b.aa.length k4) hP6.out;rw[kC]at Js Jt⊢;have iP:Hid (Below w.heap.size w WF):=Mc.out.trans (Jt.below (by simp) Mc.out.size)
   have XQ:Hid (∀X:World,(∀k:Nat,k<WF.heap.size->k<w0.heap.size\/w.heap.size<=k->X.heap[k]?=WF.heap[k]?)->ap X (.agg #[.int .i64 b.ah,.int .i64 b.places,.slice a2 b.parts.length c2,.slice a3 b.apart.length c3,.slice q4 b.aa.length k4]) (qj b t)):=fun X hX=>by
    have Xr:Kp w0 X:=fun k hk=>(hX k (Nat.lt_of_lt_of_le hk (Nat.le_trans H0.out.size iP.out.size)) (.inl hk)).trans ((iP.out.block k (Nat.lt_of_lt_of_le hk H0.out.size)).trans (H0.out.block k hk));obtain⟨v2,v3,v5,e,h2,h3,_⟩:=HB.out.later Xr;simp only[Value.agg.injEq,Array.mk.injEq,List.cons.injEq,true_and,and_true]at e;obtain⟨rfl,rfl,rfl⟩:=e;refine⟨_,_,_,rfl,h2,h3,?_⟩;have hlen:L4.length=b.aa.length:=by have:=congrArg List.length QR.out.2;simpa using this
    have h5:=dd.QS (w:=X) (L:=L4) (v:=.slice q4 b.aa.length k4) (e:=65) (B:=A4.heap.size)
     (by
       rw[hlen];refine aY QR.out.1 fun i hi=>?_;have h6:=aE QR.out.1 i hi;have h7:=HZ.out;exact(hX i (Nat.lt_of_lt_of_le h6.2 Jt.size) (.inr (by omega))).trans (Jt.block i h6.2 (by simp;omega)))
     (fun x hx=>(XO.out.2 x hx).later Xr)
    rw[QR.out.2]at h5;exact h5
   have w0':=Js.cell 0 rfl;have fN:=Js.cell 1 rfl;have JE:=Js.cell 2 rfl;have YE:=Js.cell 3 rfl;have w4':=Js.cell 4 rfl;clear Js Jt kC s0 s1 s2 s3 s4 f0 f1 f2 f3 f4 r0 r1 r2 r3 r4;refine bodyPost_ret (v:=.agg #[.int .i64 b.ah,.int .i64 b.places,.slice a2 b.parts.length c2,.slice a3 b.apart.length c3,.slice q4 b.aa.length k4]) ?_ rfl ⟨⟨_,rfl,XQ.out⟩,iP.out⟩;rw[dA rfl];go_simp
theorem clash_any (w:World) (v:Value) (b:an) (hb:ap w v b) (hv:Valid b) (hc:Chk w) (hL:aD b (aF b)≠ []):Calls ZP 11 #[v] w (fun e w'=>e=.returned (.tuple #[.slice none 0 0,.int .i64 0])/\Below w.heap.size w w'):=by
 have HB:Hid (ap w v b):=hb;have HV:Hid (Valid b):=hv;have HC:Hid (Chk w):=hc;have tV:Hid (gW w v (aF b)):=fk hb hv;obtain⟨L,me⟩:∃L,aD b (aF b)=L:=⟨_,rfl⟩
 have mi:Hid (aD b (aF b)=L):=me;have fp:(0:Int)<(L.length:Int):=by have:=List.length_pos_iff.2 hL;rw[me]at this;omega
 obtain⟨a2,c2,a3,c3,a4,c4,rfl⟩:=hb.et;obtain⟨A1,ba⟩:∃A,w.alloc (.cells #[.int .i64 b.ah,.int .i64 b.places,.slice a2 b.parts.length c2,.slice a3 b.apart.length c3,.slice a4 b.aa.length c4] 26)=A:=⟨_,rfl⟩
 have B1:Hid (aC A1 w.heap.size 26 #[.int .i64 b.ah,.int .i64 b.places,.slice a2 b.parts.length c2,.slice a3 b.apart.length c3,.slice a4 b.aa.length c4]):=gq ba;have HW:Hid (Below w.heap.size w A1):=(dV ba).below (by simp) (Nat.le_refl _);have z0:=B1.out.cell 0 rfl;have z1:=B1.out.cell 1 rfl;have z2:=B1.out.cell 2 rfl;have z3:=B1.out.cell 3 rfl;have z4:=B1.out.cell 4 rfl;clear hb hv hc hL me;go_enter ZF11,Tz.ntmps11
 simp only[Tryz.f11,Option.getD_some,Tz.cut]
 go_upto_region 4 with(go_at_call 44
                       refine(nf A1 _ b (HB.out.later (Kp.of HW.out)) HV.out (HC.out.later HW.out)).mono ?_;rintro e w1 ⟨⟨r,rfl,rfl⟩,bi⟩;have db:Hid (Below A1.heap.size A1 w1):=bi;have tT:Hid (Below w.heap.size w w1):=HW.out.trans (bi.mono HW.out.size);clear bi z0 z1 z2 z3 z4;have X1:=B1.out.below db.out B1.out.lt;have z0:=X1.cell 0 rfl;have z1:=X1.cell 1 rfl;have z2:=X1.cell 2 rfl;have z3:=X1.cell 3 rfl;have z4:=X1.cell 4 rfl;clear X1)
 obtain⟨A2,bN⟩:∃A,w1.alloc (.cells #[.int .i64 b.ah,.int .i64 b.places,.slice a2 b.parts.length c2,.slice a3 b.apart.length c3,.slice a4 b.aa.length c4] 84)=A:=⟨_,rfl⟩
 have B2:Hid (aC A2 w1.heap.size 84 #[.int .i64 b.ah,.int .i64 b.places,.slice a2 b.parts.length c2,.slice a3 b.apart.length c3,.slice a4 b.aa.length c4]):=gq bN;have qY:Hid (Below w.heap.size w A2):=tT.out.trans ((dV bN).below (by simp) tT.out.size);have y0:=B2.out.cell 0 rfl;have y1:=B2.out.cell 1 rfl;have y2:=B2.out.cell 2 rfl;have y3:=B2.out.cell 3 rfl;have y4:=B2.out.cell 4 rfl
 go_wp2_with(go_at_call 45
             refine(wS _ b a2 c2 _ _ (aF b) (HB.out.later (Kp.of qY.out)) HV.out (fun X t hX=>tV.out X t (qY.out.trans (hX.mono qY.out.size)))).mono ?_;rintro e w2 ⟨⟨r,rfl,hr⟩,fP⟩;have mL:w2.ownsRow A2.heap.size 99 5 r L.length (L.flatMap fun m=>(tick m).toList):=(by rw[<-mi.out];exact hr)
             obtain⟨a,cap,rfl⟩:=dM mL;have gE:Hid (Below w.heap.size w w2):=qY.out.trans (fP.mono qY.out.size);clear hr mL fP y0 y1 y2 y3 y4 z0 z1 z2 z3 z4)
 go_ret2;exact⟨rfl,gE.out⟩
theorem takes_any (w:World) (vt vm:Value) (n:Nat) (t:Nat->Int) (l:List Int) (ht:∀i,0<=t i/\t i<=20) (hT:ao w vt (listT n t)) (hM:ao w vm l) (hl:l.length<=4) (rU:∀(j:Nat) (x:Int),l[j]?=some x->0<=x/\x<n):
 Calls ZP 19 #[vt,vm] w (fS w (.int .i64 (aq (ac l) t l.length))):=by
 obtain⟨ta,tc,sV,FQ⟩:=hT;obtain rfl:=sV.eq;rw[listT_len]at sV⊢;have HT:Hid (bA w (.slice ta n tc) n ta tc/\∀d,ta=some d->∀(j:Nat) (x:Int),(listT n t)[j]?=some x->At w d j (.int .i64 x)):=⟨sV,FQ⟩
 obtain⟨ma,mc,N7,hme⟩:=hM;obtain rfl:=N7.eq;have HM:Hid (bA w (.slice ma l.length mc) l.length ma mc/\∀d,ma=some d->∀(j:Nat) (x:Int),l[j]?=some x->At w d j (.int .i64 x)):=⟨N7,hme⟩
 have Ql:Hid (∀(j:Nat) (x:Int),l[j]?=some x->0<=x/\x<n):=rU;have HR:Hid (∀i,0<=t i/\t i<=20):=ht;have F9:=sV.le;have Ue:=sV.Qb;have F6:=N7.le;unfold maxLen at Ue;clear sV FQ N7 hme rU ht;go_enter ZF19,Tryz.ntmps19
 go_wp2
 go_loop [5,6] (fun a i=>∃k:Nat,k<=l.length/\a=.int .i64 (aq (ac l) t k)/\i=.int .i64 k) (fun _ i=>l.length-(intOf i).toNat)
 case atStart=>exact⟨0,Nat.zero_le _,rfl,rfl⟩
 case round=>
  obtain⟨k,hk,rfl,rfl⟩:=hrel;have bi:=it (m:=ac l) HR.out k;by_cases au:k<l.length
  .obtain⟨⟨blk,off,sp⟩,x,rfl,hx,x0⟩:=HM.out.1.elem HM.out.2 au;obtain rfl:sp=none:=x0.1;have g0:=x0.2;simp only at g0;have hx2:=Ql.out k x hx;obtain⟨xn,rfl⟩:∃xn:Nat,x=(xn:Int):=⟨x.toNat,by omega⟩
   have xh:xn<n:=by omega
   have ia:ac l k=(xn:Int):=by unfold ac;rw[hx];rfl
   have HS:Hid (aq (ac l) t (k+1)=aq (ac l) t k+t xn):=(by
    show aq (ac l) t k+t (ac l k).toNat=_;rw[ia,Int.toNat_natCast])
   obtain⟨VV,y,VW,hy,y0⟩:=bA.elem (l:=listT n t) (by rw[listT_len];exact HT.out.1) HT.out.2 (show xn<(listT n t).length by rw[listT_len];exact xh);subst VW;obtain⟨tb,Jr,ts⟩:=VV;obtain rfl:ts=none:=y0.1;have g1:=y0.2;rw[listT_get t xh]at hy;cases hy;simp only at g1;have iO:(k:Int)<(l.length:Int):=by omega
   have htx:=HR.out xn;have hxi:(xn:Int)<(n:Int):=by omega
   clear x0 y0 hx ia;obtain⟨tk,sZ⟩:∃tk,aq (ac l) t k=tk:=⟨_,rfl⟩
   have F8:Hid (aq (ac l) t k=tk):=sZ;rw[sZ]at bi⊢;clear sZ;go_wp2
   go_round
   case rel=>exact⟨k+1,by omega,by rw[HS.out,F8.out],by go_num⟩
   case measure=>simp[intOf];omega
  .have e:k=l.length:=by omega
   subst e;go_wp2
   go_ret;exact fS.of _ rfl
theorem fits_any (w:World) (p:Int) (r:Bool) (h1:p=1->r=true) (h2:p=2->r=false):Calls ZP 24 #[.int .i64 p,.bool r] w (fS w (.bool true)):=by
 go_enter ZF24,Tryz.ntmps24
 by_cases e1:p=1
 .obtain rfl:=h1 e1;subst e1;clear h1 h2;go_wp2
  go_ret;exact fS.of _ rfl
 .by_cases e2:p=2
  .obtain rfl:=h2 e2;subst e2;clear h1 h2;go_wp2
   go_ret;exact fS.of _ rfl
  .clear h1 h2;go_wp2
   go_ret;exact fS.of _ rfl
end Go.Proofs.Cz
