/- A part. Conditions: none. -/
import Derived.Test.YtboiakcocelkmaaGreatDoorT45
set_option linter.all false
set_option maxHeartbeats 8000000
set_option maxRecDepth 100000
namespace Go.Proofs.Cz
open Go.RowKit
theorem xv (w:World) (v v':Value) (l:List Int) (h:an w v l) (h':an w v' l):Calls ZP 11 #[v,v'] w (bK w (.bool true)):=by
 obtain⟨a,c,h1,h2⟩:=h;obtain⟨a',c',x9,rr⟩:=h';have H:Hid (bH w v l.length a c/\_):=⟨h1,h2⟩
 have H':Hid (bH w v' l.length a' c'/\_):=⟨x9,rr⟩
 obtain⟨rfl,l1,m1,n1,r1⟩:=h1;obtain⟨rfl,Yi,m1',n1',Oa⟩:=x9;unfold maxLen at m1 m1';clear h2 n1 r1 rr n1' Oa;go_enter ZF11,Tryz.ntmps11
 go_wp2
 go_loopw [5] (fun i wr=>∃k:Nat,k<=l.length/\i=.int .i64 k/\∃n,wr=w.drewN n) (fun i _=>l.length-(intOf i).toNat)
 case atStart=>exact⟨0,Nat.zero_le _,rfl,0,rfl⟩
 case round=>
  obtain⟨k,hk,rfl,n,rfl⟩:=hrel;by_cases az:k<l.length
  .obtain⟨⟨blk,off,sp⟩,y,rfl,hy,y0⟩:=H.o.1.elem H.o.2 az;obtain⟨⟨zhA,zhB,Wi⟩,y',rfl,O8,y0'⟩:=H'.out.1.elem H'.out.2 az;obtain rfl:sp=none:=y0.1;obtain rfl:Wi=none:=y0'.1;rw[hy]at O8;obtain rfl:y=y':=Option.some.inj O8;have g0:=y0.2;have g0':=y0'.2;simp only at g0 g0';clear y0 y0' hy O8;go_wp2
   go_quiet (fail)
   go_wp2
   go_round
   case rel=>exact⟨k+1,by omega,by go_num,_,rfl⟩
   case measure=>simp[intOf];omega
  .have e:k=l.length:=by omega
   subst e;go_wp2
   go_ret;exact⟨rfl,Below.drewN (Below.refl _ _) _⟩
theorem Gg:ZP.eqGuardType ZP.depth 37=false:=by kernel_rfl
def Nb (w:World) (L:List (Nat->Int)) (e:Ending) (w':World):Prop:=e=.returned (.tuple #[.int .i64 L.length,.int .i64 0])/\Below w.heap.size w w'
theorem uc (w:World) (v:Value) (b:ao) (hb:au w v b) (hv:Valid b) (hc:jH w):Calls ZP 7 #[v] w (Nb w (aM b (aq b))):=by
 have HB:=hid hb;have HV:Hid (Valid b):=hv;have HC:Hid (jH w):=hc;have Jv:Hid (pw w v (aq b)):=gG hb hv;obtain⟨a2,c2,a3,c3,a4,c4,rfl⟩:=hb.cj;obtain⟨A1,aV⟩:=ex1 (w.alloc (.cells #[.int .i64 b.ak,.int .i64 b.places,.slice a2 b.parts.length c2,.slice a3 b.apart.length c3,.slice a4 b.ab.length c4] 26));have B1:Hid (aF A1 w.heap.size 26 #[.int .i64 b.ak,.int .i64 b.places,.slice a2 b.parts.length c2,.slice a3 b.apart.length c3,.slice a4 b.ab.length c4]):=cz aV;have HW:Hid (Below w.heap.size w A1):=(bh aV).below (by simp) (Nat.le_refl _);have z0:=B1.o.cell 0 rfl;have z1:=B1.o.cell 1 rfl;have z2:=B1.o.cell 2 rfl;have z3:=B1.o.cell 3 rfl;have z4:=B1.o.cell 4 rfl;clear hb hv hc;go_enter ZF7,Tryz.ntmps7
 go_wp2_with(first
  |(go_at_call 20
    refine(mY A1 _ b (HB.o.later (Kp.of HW.o)) HV.o (HC.o.later HW.o)).mono ?_;rintro e w1 ⟨⟨r,rfl,rfl⟩,bj⟩;have eI:=hid bj;have kE:=HW.t bj;clear bj z0 z1 z2 z3 z4;have X1:=B1.o.below eI.o B1.o.lt;have z0:=X1.cell 0 rfl;have z1:=X1.cell 1 rfl;have z2:=X1.cell 2 rfl;have z3:=X1.cell 3 rfl;have z4:=X1.cell 4 rfl;clear X1)
  |(go_at_call 43
    refine(Eb _ b a2 c2 _ _ (aq b) (HB.o.later (Kp.of kE.o)) HV.o (fun X t hX=>Jv.o X t (kE.o.trans (hX.mono kE.o.size)))).mono ?_;rintro e w2 ⟨⟨r,rfl,hr⟩,fk⟩;obtain⟨a,cap,rfl⟩:=jl hr;have eJ:=kE.t fk;clear hr fk))
 go_ret2;exact⟨rfl,eJ.o⟩
theorem lD (f:Nat) (hf:∀(args:Array Value) (w:World),Sem.run ZP (Go.callFunc f args) w=.ok (.enter f args) w) (w:World) (b:ao) (v:Value) (a2:Option Addr) (c2:Nat) (v3 v4:Value) (GB:v=.agg #[.int .i64 b.ak,.int .i64 b.places,.slice a2 b.parts.length c2,v3,v4]) (hb:au w v b) (hv:Valid b) (hc:jH w)
 (cs:Array Value) (s:Int) (GA:s≠0)
 (bB:∀X,Below w.heap.size w X->Calls ZP f (#[v]++cs) X (bK X (.int .i64 s))):
 Calls ZP 45 #[v,.func (.func f) #[] cs] w (bK w (.tuple #[ku,.int .i64 s])):=by
 subst GB;have HB:=hid hb;have HV:Hid (Valid b):=hv;obtain⟨_,_,_,Ba,_,⟨a3,c3,⟨e3,_,_,_,_⟩,_⟩,⟨a4,c4,⟨e4,_,_,_,_⟩,_⟩⟩:=hb;simp only[Value.agg.injEq,Array.mk.injEq,List.cons.injEq,true_and,and_true]at Ba;obtain⟨rfl,rfl,rfl⟩:=Ba;subst e3 e4;obtain⟨A1,aV⟩:=ex1 (w.alloc (.cells #[.int .i64 b.ak,.int .i64 b.places,.slice a2 b.parts.length c2,.slice a3 b.apart.length c3,.slice a4 b.ab.length c4] 26));obtain⟨A2,bY⟩:=ex1 (A1.alloc (.cells #[.int .i64 0,.int .i64 0,.slice none 0 0,.slice none 0 0,.slice none 0 0,.slice none 0 0] 71));have eE:=snew aV;have mh:=snew2 bY eE;have xM:=bnewk aV bY;have Vq:=bnew2 bY eE;have zO:=wnew2 aV bY;have HC:Hid (jH w):=hc;obtain⟨z0,z1,z2,z3,z4⟩:=xM.o.c5;have QY:=hid bB;clear hv hc bB;go_enter ZF45,Tryz.ntmps45
 go_wp2_with fail
 refine(mY A2 _ b (HB.o.later (Kp.of zO.o)) HV.o (HC.o.later zO.o)).mono ?_;rintro e w1 ⟨⟨r,rfl,rfl⟩,bj⟩;have eI:=hid bj;clear z0 z1 z2 z3 z4 bj aV bY;obtain⟨z0,z1,z2,z3,z4⟩:=(hidb xM eI.o).o.c5;go_wp2_with fail
 obtain⟨A4,sF⟩:=ex1 (w1.alloc (.cells #[.int .i64 b.ak,.int .i64 b.places,.slice a2 b.parts.length c2,.slice a3 b.apart.length c3,.slice a4 b.ab.length c4] 66));rw[sF];have QU:=snew sF;have AO:=bnew sF;have Sq:Hid (Below A2.heap.size A2 A4):=by rw[<-sF];exact eI.o.alloc eI.o.size _
 refine(QY.o A4 (zO.o.trans (Sq.o.mono zO.o.size))).mono ?_;rintro e w2 ⟨rfl,fk⟩;have eJ:=hid fk;clear z0 z1 z2 z3 z4 fk sF;obtain⟨z0,z1,z2,z3,z4⟩:=(hidb AO eJ.o).o.c5;have qG:=Sq.t eJ.o;have Sr:=zO.t qG.o;have HR:=Vq.o.below qG.o Vq.o.lt;obtain⟨⟨t0,t1,t2,t3,t4,t5⟩,f0,f1,f2,f3,f4,f5⟩:=vr HR;have e0:=HR.same (i:=0) (v:=.int .i64 0) rfl;have e1:=HR.same (i:=1) (v:=.int .i64 0) rfl;have e2:=HR.same (i:=2) (v:=.slice none 0 0) rfl;have e3:=HR.same (i:=3) (v:=.slice none 0 0) rfl;have e4:=HR.same (i:=4) (v:=.slice none 0 0) rfl;have e5:=HR.same (i:=5) (v:=.slice none 0 0) rfl;clear z0 z1 z2 z3 z4 HR;go_wp2_with fail
 refine bodyPost_ret (v:=.tuple #[ku,.int .i64 s]) ?_ rfl ⟨rfl,Sr.o⟩;rw[results_cell_tmp rfl];go_simp
theorem mw (w:World) (v:Value) (b:ao) (k sb:Int) (hb:au w v b) (GA:sb≠0)
 (lE:∀X g,Below w.heap.size w X->X.cell? ⟨g,0,none⟩=some (.int .i64 k)->Calls ZP 45 #[v,.func (.func 101) #[] #[ptr g]] X (bK X (.tuple #[ku,.int .i64 sb]))):
 Calls ZP 9 #[v,.int .i64 k] w (bK w (.tuple #[.slice none 0 0,.int .i64 sb])):=by
 obtain⟨a2,c2,a3,c3,a4,c4,rfl⟩:=hb.cj;obtain⟨A1,aV⟩:=ex1 (w.alloc (.cells #[.int .i64 b.ak,.int .i64 b.places,.slice a2 b.parts.length c2,.slice a3 b.apart.length c3,.slice a4 b.ab.length c4] 26));have B1:Hid (aF A1 w.heap.size 26 #[.int .i64 b.ak,.int .i64 b.places,.slice a2 b.parts.length c2,.slice a3 b.apart.length c3,.slice a4 b.ab.length c4]):=cz aV;have HW:Hid (Below w.heap.size w A1):=(bh aV).below (by simp) (Nat.le_refl _)
 have HS:Hid (∀W:World,Below A1.heap.size A1 W->(W.cell? ⟨w.heap.size,0,none⟩=some (.int .i64 b.ak)/\W.cell? ⟨w.heap.size,1,none⟩=some (.int .i64 b.places)/\W.cell? ⟨w.heap.size,2,none⟩=some (.slice a2 b.parts.length c2)/\W.cell? ⟨w.heap.size,3,none⟩=some (.slice a3 b.apart.length c3)/\W.cell? ⟨w.heap.size,4,none⟩=some (.slice a4 b.ab.length c4))/\Below A1.heap.size A1 W):=fun W hW=>by
  have BX:=B1.o.below hW B1.o.lt;exact⟨⟨BX.cell 0 rfl,BX.cell 1 rfl,BX.cell 2 rfl,BX.cell 3 rfl,BX.cell 4 rfl⟩,hW⟩
 have HO:Hid (∀X g,Below A1.heap.size A1 X->X.cell? ⟨g,0,none⟩=some (.int .i64 k)->Calls ZP 45 #[.agg #[.int .i64 b.ak,.int .i64 b.places,.slice a2 b.parts.length c2,.slice a3 b.apart.length c3,.slice a4 b.ab.length c4],.func (.func 101) #[] #[ptr g]] X (bK X (.tuple #[ku,.int .i64 sb]))):=fun X g hX hg=>lE X g (HW.o.trans (hX.mono HW.o.size)) hg;clear hb lE;go_enter ZF9,Tryz.ntmps9
 go_upto_region 1 with fail
 clear aV;go_cut [6,7]from 11 (fun p s wx=>Hid (Below A1.heap.size A1 wx)/\s=.int .i64 sb)
 case first=>
  have tq:Hid (∀W:World,((W.cell? ⟨w.heap.size,0,none⟩=some (.int .i64 b.ak)/\W.cell? ⟨w.heap.size,1,none⟩=some (.int .i64 b.places)/\W.cell? ⟨w.heap.size,2,none⟩=some (.slice a2 b.parts.length c2)/\W.cell? ⟨w.heap.size,3,none⟩=some (.slice a3 b.apart.length c3)/\W.cell? ⟨w.heap.size,4,none⟩=some (.slice a4 b.ab.length c4))/\Below A1.heap.size A1 W)->Below A1.heap.size A1 W):=fun _ h=>h.2
  go_region_held3 (fun W:World=>(W.cell? ⟨w.heap.size,0,none⟩=some (.int .i64 b.ak)/\W.cell? ⟨w.heap.size,1,none⟩=some (.int .i64 b.places)/\W.cell? ⟨w.heap.size,2,none⟩=some (.slice a2 b.parts.length c2)/\W.cell? ⟨w.heap.size,3,none⟩=some (.slice a3 b.apart.length c3)/\W.cell? ⟨w.heap.size,4,none⟩=some (.slice a4 b.ab.length c4))/\Below A1.heap.size A1 W)
   (first
     |with_reducible exact HS.o _ mr.o
     |with_reducible exact HS.o _ oh.o
     |with_reducible exact HS.o _ (OD.o _ _ _ _ _ _)
     |with_reducible exact HS.o _ (mr.o.alloc mr.o.size _)
     |with_reducible exact HS.o _ (oh.o.alloc oh.o.size _)
     |exact HS.o _ (Below.drewN (Below.refl A1.heap.size A1) 1)
     |exact HS.o _ (Below.drewN ((Below.refl A1.heap.size A1).alloc (Nat.le_refl _) _) 1)
     |fail)
   (first
     |(go_at_call 46
       have hh:=tq.o _ (by assumption);refine(Ac _ _).mono ?_;rintro e w6 ⟨⟨gk,rfl,VH,Jw⟩,tu⟩;have oh:Hid (Below A1.heap.size A1 w6):=hh.trans (tu.mono hh.size);have Rp:Hid (w6.cell? ⟨gk,0,none⟩=some (.int .i64 k)/\gk<w6.heap.size):=⟨VH,Jw⟩
       (first|(have SE:Hid (aF w6 A1.heap.size 71 JO):=(aF.new (A1.drewN 1) 71 JO).below tu (by simp))|skip)
       clear VH Jw tu hh)
     |(go_at_call 45
       have hh:=tq.o _ (by assumption);refine(HO.o _ gk hh (by first|exact Rp.o.1|exact(dI Rp.o.2 _).trans Rp.o.1)).mono ?_;rintro e w7 ⟨rfl,xk⟩;have mr:Hid (Below A1.heap.size A1 w7):=hh.trans (xk.mono hh.size)
       (first
         |(have CP:Hid (aF w7 A1.heap.size 71 JO):=SE.o.below xk SE.o.lt
           have OD:Hid (∀v0 v1 v2 v3 v4 v5,Below A1.heap.size A1 ((((((w7.setCell ⟨A1.heap.size,0,none⟩ v0).setCell ⟨A1.heap.size,1,none⟩ v1).setCell ⟨A1.heap.size,2,none⟩ v2).setCell ⟨A1.heap.size,3,none⟩ v3).setCell ⟨A1.heap.size,4,none⟩ v4).setCell ⟨A1.heap.size,5,none⟩ v5)):=(fun v0 v1 v2 v3 v4 v5=>mr.o.trans ((tY v0 v1 v2 v3 v4 v5 CP.o).2.below (by simp) mr.o.size))
           obtain⟨⟨u0,u1,u2',u3',u4',u5'⟩,f0,f1,f2,f3,f4,f5⟩:=vr CP.o)
         |(have CP:Hid (aF w7 w6.heap.size 71 JO):=(aF.new w6 71 JO).below xk (by simp)
           have OD:Hid (∀v0 v1 v2 v3 v4 v5,Below A1.heap.size A1 ((((((w7.setCell ⟨w6.heap.size,0,none⟩ v0).setCell ⟨w6.heap.size,1,none⟩ v1).setCell ⟨w6.heap.size,2,none⟩ v2).setCell ⟨w6.heap.size,3,none⟩ v3).setCell ⟨w6.heap.size,4,none⟩ v4).setCell ⟨w6.heap.size,5,none⟩ v5)):=(fun v0 v1 v2 v3 v4 v5=>mr.o.trans ((tY v0 v1 v2 v3 v4 v5 CP.o).2.below (by simp;exact oh.o.size) mr.o.size))
           obtain⟨⟨u0,u1,u2',u3',u4',u5'⟩,f0,f1,f2,f3,f4,f5⟩:=vr CP.o)
         |skip)
       clear xk hh))
  all_goals go_wp2_with fail
  all_goals go_meet
  all_goals
   first
    |exact⟨OD.o _ _ _ _ _ _,rfl⟩
    |exact⟨mr.o.alloc mr.o.size _,rfl⟩
 case rest=>
  obtain⟨rf,rfl⟩:=hcut;have qJ:=HW.t rf.o;go_wp2_with fail
  go_ret2;exact⟨rfl,qJ.o⟩
theorem xw (w:World) (v:Value) (b:ao) (k:Int) (g:Nat) (hb:au w v b) (hv:Valid b) (hk:¬(0<=k/\k<=(b.parts.length:Int)-1)) (hg:w.cell? ⟨g,0,none⟩=some (.int .i64 k)):
 Calls ZP 101 #[v,ptr g] w (bK w (.int .i64 6)):=by
 obtain⟨a2,c2,a3,c3,a4,c4,rfl⟩:=hb.cj;have hm:=hv.parts.many;obtain⟨A1,aV⟩:=ex1 (w.alloc (.cells #[.int .i64 b.ak,.int .i64 b.places,.slice a2 b.parts.length c2,.slice a3 b.apart.length c3,.slice a4 b.ab.length c4] 66));have B1:=cz aV;have HW:Hid (Below w.heap.size w A1):=(bh aV).below (by simp) (Nat.le_refl _);obtain⟨-,-,x2⟩:=B1.c3;have y0:A1.cell? ⟨g,0,none⟩=some (.int .i64 k):=ai.cell ⟨A1,HW.o⟩ hg;have kd:wrap64 ((b.parts.length:Int)-1)=b.parts.length-1:=by unfold wrap64;omega
 have hC:Calls ZP 66 #[.int .i64 k,.int .i64 0,.int .i64 (b.parts.length-1)] A1 (gD A1 (.bool false)):=(bZ _ _ _ _).mono fun e w' h=>⟨by rw[h.1];simp;omega,h.2⟩
 clear hb hv hg B1 hk hm;go_enter ZF101,Tryz.ntmps101
 go_wp2_with(go_at_call 66;refine hC.mono ?_;rintro e w1 ⟨rfl,rfl⟩)
 go_ret;exact⟨rfl,HW.o⟩
theorem As {b:ao} (h:aO b=0):lC b=(aM b (aq b)).length:=by unfold lC;rw[if_pos h,ff,List.length_map]
theorem fp {b:ao}:aM b (aq b)=[]↔cw b=[]:=by rw[ff,List.map_eq_nil_iff]
theorem Gh (w:World) (v:Value) (b:ao) (hb:au w v b) (hs:de b) (hc:jH w):Calls ZP 7 #[v] w (bK w (.tuple #[.int .i64 (lC b:Nat),.int .i64 (aO b)])):=by
 by_cases h0:aO b=0
 .refine(uc w v b hb (cF.1 h0) hc).mono fun e w' h=>⟨?_,h.2⟩
  rw[h.1,h0,As h0]
 .have HB:=hid hb;obtain⟨a2,c2,a3,c3,a4,c4,rfl⟩:=hb.cj;obtain⟨A1,aV⟩:=ex1 (w.alloc (.cells #[.int .i64 b.ak,.int .i64 b.places,.slice a2 b.parts.length c2,.slice a3 b.apart.length c3,.slice a4 b.ab.length c4] 26));have B1:Hid (aF A1 w.heap.size 26 #[.int .i64 b.ak,.int .i64 b.places,.slice a2 b.parts.length c2,.slice a3 b.apart.length c3,.slice a4 b.ab.length c4]):=cz aV;have HW:Hid (Below w.heap.size w A1):=(bh aV).below (by simp) (Nat.le_refl _);have z0:=B1.o.cell 0 rfl;have z1:=B1.o.cell 1 rfl;have z2:=B1.o.cell 2 rfl;have z3:=B1.o.cell 3 rfl;have z4:=B1.o.cell 4 rfl;have hC:=lA A1 _ b (HB.o.later (Kp.of HW.o)) hs (hc.later HW.o);have HN:Hid (lC b=0):=by unfold Hid lC;rw[if_neg h0]
  obtain⟨s,Ei⟩:=ex1 (aO b);have KN:=hid Ei;rw[Ei]at hC h0⊢;clear hb hs hc Ei;go_enter ZF7,Tryz.ntmps7
  go_wp2_with fail
  refine hC.mono ?_;rintro e w1 ⟨⟨r,rfl,rfl⟩,bj⟩;have kE:=HW.t bj;clear bj aV z0 z1 z2 z3 z4 hC;go_wp2_with fail
  go_ret2;exact⟨congrArg (fun z:Nat=>Ending.returned (.tuple #[.int .i64 z,.int .i64 r])) HN.o.symm,kE.o⟩
theorem C6 (w:World) (v:Value) (b:ao) (k:Int) (hb:au w v b) (hs:de b) (hc:jH w):
 Calls ZP 9 #[v,.int .i64 k] w (fun e w'=>(∃u r,e=.returned (.tuple #[u,.int .i64 (ah b (bD b k))])/\an w' u r/\ka b k r)/\Below w.heap.size w w'):=by
 have Gc:∀X:World,an X (.slice none 0 0) []:=fun X=>⟨none,0,⟨rfl,Nat.le_refl _,Nat.zero_le _,fun _=>rfl,fun b hb=>by cases hb⟩,fun b hb=>by cases hb⟩
 by_cases h0:aO b=0
 .have hv:=cF.1 h0;by_cases hk:0<=k/\k<=(b.parts.length:Int)-1
  .have ha:bD b k=0:=by unfold bD;rw[if_pos hk]
   obtain⟨kn,rfl⟩:∃kn:Nat,k=(kn:Int):=⟨k.toNat,by omega⟩
   refine(F6 w v b kn hb hv hc (by omega)).mono ?_;rintro e w' ⟨⟨hL,rfl⟩|⟨hL,u,rfl,hu⟩,hB⟩
   .have ho:ah b (bD b kn)=9:=by unfold ah;rw[if_pos h0,ha,if_pos rfl,if_pos (fp.1 hL)]
    refine⟨⟨_,[],by rw[ho],Gc _,fun h=>?_,fun _=>rfl⟩,hB⟩;rw[ho]at h;cases h
   .have ho:ah b (bD b kn)=0:=by unfold ah;rw[if_pos h0,ha,if_pos rfl,if_neg (fun h=>hL (fp.2 h))]
    refine⟨⟨u,_,by rw[ho],hu,fun _=>?_,fun h=>absurd ho h⟩,hB⟩;have h1:=CW (aM b (aq b)) kn
    have h2:((aM b (aq b)).map fun t=>t kn)=(cw b).map fun o=>aa o (kn:Int).toNat:=by
     rw[ff,List.map_map,Int.toNat_natCast];rfl
    rw[h2]at h1;exact h1
  .have ha:bD b k=6:=by unfold bD;rw[if_neg hk]
   have ho:ah b (bD b k)=6:=by unfold ah;rw[if_pos h0,ha,if_neg (by decide)]
   obtain⟨a2,c2,a3,c3,a4,c4,rfl⟩:=hb.cj
   refine(mw w _ b k 6 hb (by decide) fun X g hX hg=>lD 101 (fun args w=>ZC101 args w) X b _ a2 c2 _ _ rfl (hb.later (Kp.of hX)) hv (hc.later hX) #[ptr g] 6 (by decide) fun Y hY=>
    xw Y _ b k g (hb.later (Kp.of (hX.trans (hY.mono hX.size)))) hv hk (ai.cell ⟨Y,hY⟩ hg)).mono fun e w' h=>⟨⟨_,[],by rw[h.1,ho],Gc _,fun h=>?_,fun _=>rfl⟩,h.2⟩
   rw[ho]at h;cases h
 .have ho:ah b (bD b k)=aO b:=by unfold ah;rw[if_neg h0]
  refine(mw w v b k (aO b) hb h0 fun X g hX hg=>pC _ X v b (hb.later (Kp.of hX)) hs (hc.later hX) h0).mono fun e w' h=>⟨⟨_,[],by rw[h.1,ho],Gc _,fun h=>?_,fun _=>rfl⟩,h.2⟩
  rw[ho]at h;exact absurd h h0
theorem sY {w:World} {v:Value} {l:List Int} (h:an w v l):∃a n c,v=.slice a n c:=by
 obtain⟨a,c,⟨rfl,_,_,_,_⟩,_⟩:=h;exact⟨_,_,_,rfl⟩
theorem vx (w:World) (v vl:Value) (b:ao) (l:List Int) (g:Nat) (hb:au w v b) (hv:Valid b) (hl:an w vl l) (hg:w.cell? ⟨g,0,none⟩=some vl):
 Calls ZP 58 #[v,ptr g] w (bK w (.int .i64 (ar b l)))/\
 Calls ZP 52 #[v,ptr g] w (bK w (.int .i64 (ar b l))):=by
 have HB:=hid hb;obtain⟨a2,c2,a3,c3,a4,c4,rfl⟩:=hb.cj;obtain⟨la,lc,⟨rfl,ll,lm,ln,lr⟩,le⟩:=hl;have HL:Hid (an w (.slice la l.length lc) l):=⟨la,lc,⟨rfl,ll,lm,ln,lr⟩,le⟩
 obtain⟨A1,aV⟩:=ex1 (w.alloc (.cells #[.int .i64 b.ak,.int .i64 b.places,.slice a2 b.parts.length c2,.slice a3 b.apart.length c3,.slice a4 b.ab.length c4] 66));have B1:=(bnew aV).o;have HW:=wnew aV;obtain⟨x0,x1,x2,x3,x4⟩:=B1.c5;have y0:A1.cell? ⟨g,0,none⟩=some (.slice la l.length lc):=ai.cell ⟨A1,HW.o⟩ hg;have hC:=pq A1 _ _ b l (HB.o.later (Kp.of HW.o)) (HL.o.later (Kp.of HW.o)) hv.parts.many hv.jG;obtain⟨mb,Jb⟩:=ex1 (ar b l);rw[Jb]at hC⊢;clear ll lm ln lr le hb hv hg B1 Jb;refine⟨?x,?y⟩;case' x=>go_enter ZF58,Tryz.ntmps58
 case' y=>go_enter ZF52,Tryz.ntmps52
 all_goals
  go_wp2_with(go_at_call 53;refine hC.mono ?_;rintro e w1 ⟨⟨r,rfl,rfl⟩,bj⟩)
  go_ret;exact⟨rfl,HW.o.trans (bj.mono HW.o.size)⟩
theorem Au (w:World) (v vl:Value) (b:ao) (s:Int) (hb:au w v b) (hvl:∃la n lc,vl=.slice la n lc) (GA:s≠0)
 (lE:∀X,Below w.heap.size w X->X.cell? ⟨w.heap.size+1,0,none⟩=some vl->Calls ZP 45 #[v,.func (.func 58) #[] #[ptr (w.heap.size+1)]] X (bK X (.tuple #[ku,.int .i64 s]))):
 Calls ZP 14 #[v,vl] w (bK w (.tuple #[.int .i64 0,.int .i64 s])):=by
 obtain⟨la,n,lc,rfl⟩:=hvl;obtain⟨a2,c2,a3,c3,a4,c4,rfl⟩:=hb.cj;obtain⟨A1,aV⟩:=ex1 (w.alloc (.cells #[.int .i64 b.ak,.int .i64 b.places,.slice a2 b.parts.length c2,.slice a3 b.apart.length c3,.slice a4 b.ab.length c4] 26));obtain⟨A2,bY⟩:=ex1 (A1.alloc (.cells #[.slice la n lc] 27));have eE:=snew aV;have B1:=bnewk aV bY;have B2:=bnew2 bY eE;have HW:=wnew2 aV bY;obtain⟨z0,z1,z2,z3,z4⟩:=B1.o.c5;have hO:=lE A2 HW.o (B2.o.cell 0 rfl);clear hb lE;go_enter ZF14,Tryz.ntmps14
 go_wp2_with fail
 refine hO.mono ?_;rintro e w1 ⟨rfl,bj⟩;have eI:=HW.t bj;clear bj z0 z1 z2 z3 z4 hO aV bY eE;go_wp2_with fail
 go_ret2;exact⟨rfl,eI.o.alloc eI.o.size _⟩
theorem Av (w:World) (v:Value) (b:ao) (s:Int) (hb:au w v b) (GA:s≠0)
 (lE:∀X,Below w.heap.size w X->Calls ZP 45 #[v,.func (.func 64) #[] #[]] X (bK X (.tuple #[ku,.int .i64 s]))):
 Calls ZP 16 #[v] w (bK w (.tuple #[.int .i64 0,.int .i64 s])):=by
 obtain⟨a2,c2,a3,c3,a4,c4,rfl⟩:=hb.cj;obtain⟨A1,aV⟩:=ex1 (w.alloc (.cells #[.int .i64 b.ak,.int .i64 b.places,.slice a2 b.parts.length c2,.slice a3 b.apart.length c3,.slice a4 b.ab.length c4] 26));have B1:Hid (aF A1 w.heap.size 26 #[.int .i64 b.ak,.int .i64 b.places,.slice a2 b.parts.length c2,.slice a3 b.apart.length c3,.slice a4 b.ab.length c4]):=cz aV;have HW:Hid (Below w.heap.size w A1):=(bh aV).below (by simp) (Nat.le_refl _);have z0:=B1.o.cell 0 rfl;have z1:=B1.o.cell 1 rfl;have z2:=B1.o.cell 2 rfl;have z3:=B1.o.cell 3 rfl;have z4:=B1.o.cell 4 rfl;have hO:=lE A1 HW.o;clear hb lE;go_enter ZF16,Tryz.ntmps16
 go_wp2_with fail
 refine hO.mono ?_;rintro e w1 ⟨rfl,bj⟩;have eI:=HW.t bj;clear bj z0 z1 z2 z3 z4 hO aV;go_wp2_with fail
 go_ret2;exact⟨rfl,eI.o.alloc eI.o.size _⟩
theorem xx (w:World) (v vl:Value) (b:ao) (s:Int) (hb:au w v b) (hvl:∃la n lc,vl=.slice la n lc) (GA:s≠0)
 (lE:∀X,Below w.heap.size w X->X.cell? ⟨w.heap.size+1,0,none⟩=some vl->Calls ZP 45 #[v,.func (.func 52) #[] #[ptr (w.heap.size+1)]] X (bK X (.tuple #[ku,.int .i64 s]))):
 Calls ZP 12 #[v,vl] w (bK w (.tuple #[.agg #[.int .i64 0,.int .i64 0],.int .i64 s])):=by
 obtain⟨la,n,lc,rfl⟩:=hvl;obtain⟨a2,c2,a3,c3,a4,c4,rfl⟩:=hb.cj;obtain⟨A1,aV⟩:=ex1 (w.alloc (.cells #[.int .i64 b.ak,.int .i64 b.places,.slice a2 b.parts.length c2,.slice a3 b.apart.length c3,.slice a4 b.ab.length c4] 26));obtain⟨A0,tp⟩:=ex1 (A1.alloc (.cells #[.slice la n lc] 27));obtain⟨A2,bY⟩:=ex1 (A0.alloc (.cells #[.int .i64 0,.int .i64 0] 37));have eE:=snew aV;have VY:A0.heap.size=w.heap.size+1+1:=by rw[<-tp];simp[eE]
 have B1:Hid (aF A2 w.heap.size 26 #[.int .i64 b.ak,.int .i64 b.places,.slice a2 b.parts.length c2,.slice a3 b.apart.length c3,.slice a4 b.ab.length c4]):=by
  rw[<-bY];refine(ac.alloc [] _ _).box ?_ (by simp);rw[<-tp];refine(ac.alloc [] _ _).box ?_ (by simp);rw[<-aV];exact aF.new _ _ _
 have B2:Hid (aF A2 (w.heap.size+1) 27 #[.slice la n lc]):=by
  rw[<-bY];refine(ac.alloc [] _ _).box ?_ (by simp);rw[<-tp,<-eE];exact aF.new _ _ _
 have BR:Hid (aF A2 (w.heap.size+1+1) 37 #[.int .i64 0,.int .i64 0]):=by rw[<-bY,<-VY];exact aF.new _ _ _
 have HW:=wnew3 aV tp bY;obtain⟨z0,z1,z2,z3,z4⟩:=B1.o.c5;have hO:=lE A2 HW.o (B2.o.cell 0 rfl);clear hb lE;go_enter ZF12,Tryz.ntmps12
 go_wp2_with fail
 refine hO.mono ?_;rintro e w1 ⟨rfl,bj⟩;have eI:=HW.t bj;have sU:=hid bj;clear bj z0 z1 z2 z3 z4 hO aV tp bY eE VY;obtain⟨W,hW⟩:=ex1 (w1.alloc (.cells #[.int .i64 0,.int .i64 0,.slice none 0 0,.slice none 0 0,.slice none 0 0,.slice none 0 0] 71));have Rf:=knew hW;have HR:=Rf.box (BR.o.below sU.o BR.o.lt) (by simp);obtain⟨t0,t1⟩:=HR.c2;have f0:=HR.bM 0;have f1:=HR.bM 1;have d0:=HR.same (i:=0) (v:=.int .i64 0) rfl;have d1:=HR.same (i:=1) (v:=.int .i64 0) rfl;have tZ:Hid (Below w.heap.size w W):=(eI.o.trans (Rf.below (by simp) eI.o.size):Below w.heap.size w W)
 have j7:=(bnew hW).o;have s0:=j7.c1;have g0:=j7.bM 0;have e0:=j7.same (i:=0) (v:=.int .i64 0) rfl;obtain⟨-,s1⟩:=j7.c2;have g1:=j7.bM 1;have e1:=j7.same (i:=1) (v:=.int .i64 0) rfl;obtain⟨-,-,s2⟩:=j7.c3;have g2:=j7.bM 2;have e2:=j7.same (i:=2) (v:=.slice none 0 0) rfl;obtain⟨-,-,-,s3⟩:=j7.c4;have g3:=j7.bM 3;have e3:=j7.same (i:=3) (v:=.slice none 0 0) rfl;obtain⟨-,-,-,-,s4⟩:=j7.c5;have g4:=j7.bM 4;have e4:=j7.same (i:=4) (v:=.slice none 0 0) rfl;obtain⟨-,-,-,-,-,s5⟩:=j7.c6;have g5:=j7.bM 5;have e5:=j7.same (i:=5) (v:=.slice none 0 0) rfl;clear Rf HR j7;go_wp2_with fail
 refine bodyPost_ret (v:=.tuple #[.agg #[.int .i64 0,.int .i64 0],.int .i64 s]) ?_ rfl ⟨rfl,tZ.o⟩;rw[results_cell_tmp rfl];go_simp
theorem my (f:Nat) (hf:f=58\/f=52) (w:World) (v vl:Value) (b:ao) (l:List Int) (g:Nat) (hb:au w v b) (hs:de b) (hc:jH w) (hl:an w vl l) (hg:w.cell? ⟨g,0,none⟩=some vl) (hn:aO b≠0\/ar b l≠0):
 Calls ZP 45 #[v,.func (.func f) #[] #[ptr g]] w (bK w (.tuple #[ku,.int .i64 (ah b (ar b l))])):=by
 by_cases h0:aO b=0
 .have hv:=cF.1 h0;have hm:ar b l≠0:=hn.resolve_left fun h=>h h0;have ho:ah b (ar b l)=ar b l:=by unfold ah;rw[if_pos h0,if_neg hm]
  rw[ho];obtain⟨a2,c2,a3,c3,a4,c4,rfl⟩:=hb.cj;rcases hf with rfl|rfl
  .exact lD 58 (fun args w=>ZC58 args w) w b _ a2 c2 _ _ rfl hb hv hc #[ptr g] _ hm fun Y hY=>(vx Y _ _ b l g (hb.later (Kp.of hY)) hv (hl.later (Kp.of hY)) (ai.cell ⟨Y,hY⟩ hg)).1
  .exact lD 52 (fun args w=>ZC52 args w) w b _ a2 c2 _ _ rfl hb hv hc #[ptr g] _ hm fun Y hY=>(vx Y _ _ b l g (hb.later (Kp.of hY)) hv (hl.later (Kp.of hY)) (ai.cell ⟨Y,hY⟩ hg)).2
 .have ho:ah b (ar b l)=aO b:=by unfold ah;rw[if_neg h0]
  rw[ho];exact pC _ w v b hb hs hc h0
theorem Gi (w:World) (v vl:Value) (b:ao) (l:List Int) (hb:au w v b) (hs:de b) (hc:jH w) (hl:an w vl l):
 Calls ZP 14 #[v,vl] w (bK w (.tuple #[.int .i64 (jc b l),.int .i64 (ah b (ar b l))])):=by
 by_cases hn:aO b≠0\/ar b l≠0
 .have ho:ah b (ar b l)≠0:=by
   unfold ah;by_cases h0:aO b=0
   .rw[if_pos h0,if_neg (hn.resolve_left fun h=>h h0)];exact hn.resolve_left fun h=>h h0
   .rw[if_neg h0];exact h0
  have MX:jc b l=0:=by unfold jc;rw[if_neg ho]
  rw[MX];exact Au w v vl b _ hb (sY hl) ho fun X hX hg=>my 58 (.inl rfl) X v vl b l _ (hb.later (Kp.of hX)) hs (hc.later hX) (hl.later (Kp.of hX)) hg hn
 .have h0:aO b=0:=Decidable.byContradiction fun h=>hn (.inl h);have hm:ar b l=0:=Decidable.byContradiction fun h=>hn (.inr h);have hv:=cF.1 h0;refine(JA w v vl b l hb hv hc (bI.1 hm) hl).mono ?_;rintro e w' ⟨⟨hL,rfl⟩|⟨hL,rfl⟩,hB⟩
  .have ho:ah b (ar b l)=9:=by unfold ah;rw[if_pos h0,hm,if_pos rfl,if_pos (fp.1 hL)]
   exact⟨by unfold jc;rw[ho,if_neg (by decide)],hB⟩
  .have ho:ah b (ar b l)=0:=by unfold ah;rw[if_pos h0,hm,if_pos rfl,if_neg (fun h=>hL (fp.2 h))]
   exact⟨by unfold jc;rw[ho,if_pos rfl],hB⟩
theorem Aw (w:World) (v vl:Value) (b:ao) (l:List Int) (hb:au w v b) (hs:de b) (hc:jH w) (hl:an w vl l):
 Calls ZP 12 #[v,vl] w (bK w (.tuple #[gQ b l,.int .i64 (ah b (ar b l))])):=by
 by_cases hn:aO b≠0\/ar b l≠0
 .have ho:ah b (ar b l)≠0:=by
   unfold ah;by_cases h0:aO b=0
   .rw[if_pos h0,if_neg (hn.resolve_left fun h=>h h0)];exact hn.resolve_left fun h=>h h0
   .rw[if_neg h0];exact h0
  have MX:gQ b l=.agg #[.int .i64 0,.int .i64 0]:=by unfold gQ;rw[if_neg ho]
  rw[MX];exact xx w v vl b _ hb (sY hl) ho fun X hX hg=>my 52 (.inr rfl) X v vl b l _ (hb.later (Kp.of hX)) hs (hc.later hX) (hl.later (Kp.of hX)) hg hn
 .have h0:aO b=0:=Decidable.byContradiction fun h=>hn (.inl h);have hm:ar b l=0:=Decidable.byContradiction fun h=>hn (.inr h);have hv:=cF.1 h0;refine(CJ w v vl b l hb hv hc (bI.1 hm) hl).mono ?_;rintro e w' ⟨⟨hL,rfl⟩|⟨hL,rfl⟩,hB⟩
  .have ho:ah b (ar b l)=9:=by unfold ah;rw[if_pos h0,hm,if_pos rfl,if_pos (fp.1 hL)]
   exact⟨by unfold gQ;rw[ho,if_neg (by decide)],hB⟩
  .have ho:ah b (ar b l)=0:=by unfold ah;rw[if_pos h0,hm,if_pos rfl,if_neg (fun h=>hL (fp.2 h))]
   exact⟨by unfold gQ;rw[ho,if_pos rfl],hB⟩
theorem C7 (w:World) (v:Value) (b:ao) (hb:au w v b) (hs:de b) (hc:jH w):
 Calls ZP 16 #[v] w (bK w (.tuple #[.int .i64 (kx b:Nat),.int .i64 (ah b 0)])):=by
 by_cases h0:aO b=0
 .have hv:=cF.1 h0;refine(FQ w v b (aq b) hb hv hc (gG hb hv)).mono ?_;rintro e w' ⟨⟨hL,rfl⟩|⟨hL,rfl⟩,hB⟩
  .have ho:ah b 0=9:=by unfold ah;rw[if_pos h0,if_pos rfl,if_pos (fp.1 hL)]
   exact⟨by unfold kx;rw[ho,if_neg (by decide)];rfl,hB⟩
  .have ho:ah b 0=0:=by unfold ah;rw[if_pos h0,if_pos rfl,if_neg (fun h=>hL (fp.2 h))]
   exact⟨by unfold kx;rw[ho,if_pos rfl],hB⟩
 .have ho:ah b 0=aO b:=by unfold ah;rw[if_neg h0]
  have GA:kx b=0:=by unfold kx;rw[if_neg (by rw[ho];exact h0)]
  rw[GA,ho];exact Av w v b _ hb h0 fun X hX=>pC _ X v b (hb.later (Kp.of hX)) hs (hc.later hX) h0
end Go.Proofs.Cz
