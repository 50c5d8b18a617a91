/- A part. Conditions: none. -/
import Derived.Test.YtddlcmejelobdaaGreatDoorT49
set_option linter.all false
set_option maxHeartbeats 8000000
set_option maxRecDepth 100000
namespace Go.Proofs.Cz
open Go.RowKit
def AY (w:nq) (v v':fu) (l:List Int) (h:ao w v l) (h':ao w v' l):Calls ZP 18 #[v,v'] w (bK w (.bool true)):=by
 obtain⟨a,c,h1,h2⟩:=h;obtain⟨a',c',BF,uk⟩:=h';have H:Hid (bT w v l.length a c/\_):=⟨h1,h2⟩
 have H':Hid (bT w v' l.length a' c'/\_):=⟨BF,uk⟩
 obtain⟨rfl,l1,m1,n1,r1⟩:=h1;obtain⟨rfl,l1',m1',n1',TF⟩:=BF;unfold maxLen at m1 m1';clear h2 n1 r1 uk n1' TF;go_enter ZF18,Tryz.ntmps18
 go_wp2
 go_loopw [5] (λi wr=>∃k:Nat,k<=l.length/\i=.int .i64 k/\∃n,wr=w.drewN n) (λi _=>l.length-(intOf i).toNat)
 case atStart=>exact⟨0,zAM _,rfl,0,rfl⟩
 case round=>
  obtain⟨k,hk,rfl,n,rfl⟩:=hrel;by_cases av:k<l.length
  .obtain⟨⟨blk,off,sp⟩,y,rfl,hy,y0⟩:=H.o.1.elem H.o.2 av;obtain⟨⟨znX,znY,sp'⟩,y',rfl,UZ,y0'⟩:=H'.out.1.elem H'.out.2 av;obtain rfl:sp=none:=y0.1;obtain rfl:sp'=none:=y0'.1;rw[hy]at UZ;obtain rfl:y=y':=zAV UZ;have g0:=y0.2;have g0':=y0'.2;simp only at g0 g0';clear y0 y0' hy UZ;go_wp2
   go_quiet (fail)
   go_wp2
   go_round
   case rel=>exact⟨k+1,by omega,by go_num,_,rfl⟩
   case measure=>simp[intOf];omega
  .have e:k=l.length:=by omega
   subst e;go_wp2
   go_ret;exact⟨rfl,Below.drewN (Below.refl _ _) _⟩
def KL:ZP.eqGuardType ZP.depth 34=false:=by kernel_rfl
def Si (w:nq) (L:List (Nat->Int)) (e:Ending) (w':nq):Prop:=e=.returned (.tuple #[.int .i64 L.length,.int .i64 0])/\Below w.heap.size w w'
def xz (w:nq) (v:fu) (b:ab) (hb:ar w v b) (hv:Valid b) (hc:jh w):Calls ZP 11 #[v] w (Si w (an b (aj b))):=by
 have HB:=hid hb;have HV:Hid (Valid b):=hv;have HC:Hid (jh w):=hc;have Km:Hid (pl w v (aj b)):=iK hb hv;obtain⟨a2,c2,a3,c3,a4,c4,rfl⟩:=hb.dJ;obtain⟨A1,bh⟩:=ex1 (w.alloc (.cells #[.int .i64 b.ak,.int .i64 b.ah,.slice a2 b.ptz.length c2,.slice a3 b.aL.length c3,.slice a4 b.aX.length c4] 26));have B1:Hid (aA A1 w.heap.size 26 #[.int .i64 b.ak,.int .i64 b.ah,.slice a2 b.ptz.length c2,.slice a3 b.aL.length c3,.slice a4 b.aX.length c4]):=eC bh;have HW:Hid (Below w.heap.size w A1):=(dM bh).below (by simp) (zAB _);have z0:=B1.o.cell 0 rfl;have z1:=B1.o.cell 1 rfl;have z2:=B1.o.cell 2 rfl;have z3:=B1.o.cell 3 rfl;have z4:=B1.o.cell 4 rfl;clear hb hv hc;go_enter ZF11,Tryz.ntmps11
 go_wp2_with(first
  |(go_at_call 56
    refine(jz A1 _ b (HB.o.later (Kp.of HW.o)) HV.o (HC.o.later HW.o)).mono ?_;rintro e w1 ⟨⟨r,rfl,rfl⟩,bq⟩;have cV:=hid bq;have pf:=HW.t bq;clear bq z0 z1 z2 z3 z4;have X1:=B1.o.below cV.o B1.o.lt;have z0:=X1.cell 0 rfl;have z1:=X1.cell 1 rfl;have z2:=X1.cell 2 rfl;have z3:=X1.cell 3 rfl;have z4:=X1.cell 4 rfl;clear X1)
  |(go_at_call 57
    refine(IC _ b a2 c2 _ _ (aj b) (HB.o.later (Kp.of pf.o)) HV.o (λX t hX=>Km.o X t (pf.o.trans (hX.mono pf.o.size)))).mono ?_;rintro e w2 ⟨⟨r,rfl,hr⟩,eQ⟩;obtain⟨a,cap,rfl⟩:=fM hr;have gW:=pf.t eQ;clear hr eQ))
 go_ret2;exact⟨rfl,gW.o⟩
def sQ (f:Nat) (hf:∀(args:Array fu) (w:nq),Sem.run ZP (Go.callFunc f args) w=.ok (.enter f args) w) (w:nq) (b:ab) (v:fu) (a2:Option Addr) (c2:Nat) (v3 v4:fu) (Ph:v=.agg #[.int .i64 b.ak,.int .i64 b.ah,.slice a2 b.ptz.length c2,v3,v4]) (hb:ar w v b) (hv:Valid b) (hc:jh w)
 (cs:Array fu) (s:Int) (Kl:s≠0)
 (bQ:∀X,Below w.heap.size w X->Calls ZP f (#[v]++cs) X (bK X (.int .i64 s))):
 Calls ZP 51 #[v,.func (.func f) #[] cs] w (bK w (.tuple #[gX,.int .i64 s])):=by
 subst Ph;have HB:=hid hb;have HV:Hid (Valid b):=hv;obtain⟨_,_,_,Bj,_,⟨a3,c3,⟨e3,_,_,_,_⟩,_⟩,⟨a4,c4,⟨e4,_,_,_,_⟩,_⟩⟩:=hb;simp only[Value.agg.injEq,zCO,zCB,zCK,zEC]at Bj;obtain⟨rfl,rfl,rfl⟩:=Bj;subst e3 e4;obtain⟨A1,bh⟩:=ex1 (w.alloc (.cells #[.int .i64 b.ak,.int .i64 b.ah,.slice a2 b.ptz.length c2,.slice a3 b.aL.length c3,.slice a4 b.aX.length c4] 26));obtain⟨A2,bL⟩:=ex1 (A1.alloc (.cells #[.int .i64 0,.int .i64 0,.slice none 0 0,.slice none 0 0,.slice none 0 0,.slice none 0 0] 81));have eL:=snew bh;have j8:=snew2 bL eL;have Bv:=bnewk bh bL;have NV:=bnew2 bL eL;have qW:=wnew2 bh bL;have HC:Hid (jh w):=hc;obtain⟨z0,z1,z2,z3,z4⟩:=Bv.o.c5;have Ko:=hid bQ;clear hv hc bQ;go_enter ZF51,Tryz.ntmps51
 go_wp2_with fail
 refine(jz A2 _ b (HB.o.later (Kp.of qW.o)) HV.o (HC.o.later qW.o)).mono ?_;rintro e w1 ⟨⟨r,rfl,rfl⟩,bq⟩;have cV:=hid bq;clear z0 z1 z2 z3 z4 bq bh bL;obtain⟨z0,z1,z2,z3,z4⟩:=(hidb Bv cV.o).o.c5;go_wp2_with fail
 obtain⟨A4,pA⟩:=ex1 (w1.alloc (.cells #[.int .i64 b.ak,.int .i64 b.ah,.slice a2 b.ptz.length c2,.slice a3 b.aL.length c3,.slice a4 b.aX.length c4] 78));rw[pA];have Ub:=snew pA;have IF:=bnew pA;have RG:Hid (Below A2.heap.size A2 A4):=by rw[<-pA];exact cV.o.alloc cV.o.size _
 refine(Ko.o A4 (qW.o.trans (RG.o.mono qW.o.size))).mono ?_;rintro e w2 ⟨rfl,eQ⟩;have gW:=hid eQ;clear z0 z1 z2 z3 z4 eQ pA;obtain⟨z0,z1,z2,z3,z4⟩:=(hidb IF gW.o).o.c5;have AJ:=RG.t gW.o;have Yo:=qW.t AJ.o;have HR:=NV.o.below AJ.o NV.o.lt;obtain⟨⟨t0,t1,t2,t3,t4,t5⟩,f0,f1,f2,f3,f4,f5⟩:=Uk HR;have e0:=HR.same (i:=0) (v:=.int .i64 0) rfl;have e1:=HR.same (i:=1) (v:=.int .i64 0) rfl;have e2:=HR.same (i:=2) (v:=.slice none 0 0) rfl;have e3:=HR.same (i:=3) (v:=.slice none 0 0) rfl;have e4:=HR.same (i:=4) (v:=.slice none 0 0) rfl;have e5:=HR.same (i:=5) (v:=.slice none 0 0) rfl;clear z0 z1 z2 z3 z4 HR;go_wp2_with fail
 refine bodyPost_ret (v:=.tuple #[gX,.int .i64 s]) ?_ rfl ⟨rfl,Yo.o⟩;rw[results_cell_tmp rfl];go_simp
def ns {b:ab} (h:aU b=0):oA b=(an b (aj b)).length:=by unfold oA;rw[zAF h,vW,zDM]
def nQ {b:ab}:an b (aj b)=[]↔DV b=[]:=by rw[vW,List.map_eq_nil_iff]
def y8 (w:nq) (v:fu) (b:ab) (hb:ar w v b) (hs:d9 b) (hc:jh w):Calls ZP 11 #[v] w (bK w (.tuple #[.int .i64 (oA b:Nat),.int .i64 (aU b)])):=by
 by_cases h0:aU b=0
 .refine(xz w v b hb (bd.1 h0) hc).mono λe w' h=>⟨?_,h.2⟩
  rw[h.1,h0,ns h0]
 .have HB:=hid hb;obtain⟨a2,c2,a3,c3,a4,c4,rfl⟩:=hb.dJ;obtain⟨A1,bh⟩:=ex1 (w.alloc (.cells #[.int .i64 b.ak,.int .i64 b.ah,.slice a2 b.ptz.length c2,.slice a3 b.aL.length c3,.slice a4 b.aX.length c4] 26));have B1:Hid (aA A1 w.heap.size 26 #[.int .i64 b.ak,.int .i64 b.ah,.slice a2 b.ptz.length c2,.slice a3 b.aL.length c3,.slice a4 b.aX.length c4]):=eC bh;have HW:Hid (Below w.heap.size w A1):=(dM bh).below (by simp) (zAB _);have z0:=B1.o.cell 0 rfl;have z1:=B1.o.cell 1 rfl;have z2:=B1.o.cell 2 rfl;have z3:=B1.o.cell 3 rfl;have z4:=B1.o.cell 4 rfl;have hC:=iJ A1 _ b (HB.o.later (Kp.of HW.o)) hs (hc.later HW.o);have HN:Hid (oA b=0):=by unfold Hid oA;rw[zAG h0]
  obtain⟨s,LB⟩:=ex1 (aU b);have HSB:=hid LB;rw[LB]at hC h0⊢;clear hb hs hc LB;go_enter ZF11,Tryz.ntmps11
  go_wp2_with fail
  refine hC.mono ?_;rintro e w1 ⟨⟨r,rfl,rfl⟩,bq⟩;have pf:=HW.t bq;clear bq bh z0 z1 z2 z3 z4 hC;go_wp2_with fail
  go_ret2;exact⟨zBB (λz:Nat=>Ending.returned (.tuple #[.int .i64 z,.int .i64 r])) HN.o.symm,pf.o⟩
def pu {w:nq} {v:fu} {l:List Int} (h:ao w v l):∃a n c,v=.slice a n c:=by
 obtain⟨a,c,⟨rfl,_,_,_,_⟩,_⟩:=h;exact⟨_,_,_,rfl⟩
def y9 (w:nq) (v vl:fu) (b:ab) (l:List Int) (g:Nat) (hb:ar w v b) (hv:Valid b) (hl:ao w vl l) (hg:w.cell? ⟨g,0,none⟩=some vl):
 Calls ZP 59 #[v,ptr g] w (bK w (.int .i64 (aK b l)))/\
 Calls ZP 85 #[v,ptr g] w (bK w (.int .i64 (aK b l))):=by
 have HB:=hid hb;obtain⟨a2,c2,a3,c3,a4,c4,rfl⟩:=hb.dJ;obtain⟨la,lc,⟨rfl,ll,lm,ln,lr⟩,le⟩:=hl;have HL:Hid (ao w (.slice la l.length lc) l):=⟨la,lc,⟨rfl,ll,lm,ln,lr⟩,le⟩
 obtain⟨A1,bh⟩:=ex1 (w.alloc (.cells #[.int .i64 b.ak,.int .i64 b.ah,.slice a2 b.ptz.length c2,.slice a3 b.aL.length c3,.slice a4 b.aX.length c4] 78));have B1:=(bnew bh).o;have HW:=wnew bh;obtain⟨x0,x1,x2,x3,x4⟩:=B1.c5;have y0:A1.cell? ⟨g,0,none⟩=some (.slice la l.length lc):=am.cell ⟨A1,HW.o⟩ hg;have hC:=rG A1 _ _ b l (HB.o.later (Kp.of HW.o)) (HL.o.later (Kp.of HW.o)) hv.ptz.many hv.gJ;obtain⟨mb,Pc⟩:=ex1 (aK b l);rw[Pc]at hC⊢;clear ll lm ln lr le hb hv hg B1 Pc;refine⟨?x,?y⟩;case' x=>go_enter ZF59,Tryz.ntmps59
 case' y=>go_enter ZF85,Tryz.ntmps85
 all_goals
  go_wp2_with(go_at_call 60;refine hC.mono ?_;rintro e w1 ⟨⟨r,rfl,rfl⟩,bq⟩)
  go_ret;exact⟨rfl,HW.o.trans (bq.mono HW.o.size)⟩
def AZ (w:nq) (v vl:fu) (b:ab) (s:Int) (hb:ar w v b) (Xa:∃la n lc,vl=.slice la n lc) (Kl:s≠0)
 (jX:∀X,Below w.heap.size w X->X.cell? ⟨w.heap.size+1,0,none⟩=some vl->Calls ZP 51 #[v,.func (.func 85) #[] #[ptr (w.heap.size+1)]] X (bK X (.tuple #[gX,.int .i64 s]))):
 Calls ZP 29 #[v,vl] w (bK w (.tuple #[.agg #[.int .i64 0,.int .i64 0],.int .i64 s])):=by
 obtain⟨la,n,lc,rfl⟩:=Xa;obtain⟨a2,c2,a3,c3,a4,c4,rfl⟩:=hb.dJ;obtain⟨A1,bh⟩:=ex1 (w.alloc (.cells #[.int .i64 b.ak,.int .i64 b.ah,.slice a2 b.ptz.length c2,.slice a3 b.aL.length c3,.slice a4 b.aX.length c4] 26));obtain⟨A0,Dt⟩:=ex1 (A1.alloc (.cells #[.slice la n lc] 35));obtain⟨A2,bL⟩:=ex1 (A0.alloc (.cells #[.int .i64 0,.int .i64 0] 34));have eL:=snew bh;have zbP:A0.heap.size=w.heap.size+1+1:=by rw[<-Dt];simp[eL]
 have B1:Hid (aA A2 w.heap.size 26 #[.int .i64 b.ak,.int .i64 b.ah,.slice a2 b.ptz.length c2,.slice a3 b.aL.length c3,.slice a4 b.aX.length c4]):=by
  rw[<-bL];refine(aa.alloc [] _ _).box ?_ (by simp);rw[<-Dt];refine(aa.alloc [] _ _).box ?_ (by simp);rw[<-bh];exact aA.new _ _ _
 have B2:Hid (aA A2 (w.heap.size+1) 35 #[.slice la n lc]):=by
  rw[<-bL];refine(aa.alloc [] _ _).box ?_ (by simp);rw[<-Dt,<-eL];exact aA.new _ _ _
 have BR:Hid (aA A2 (w.heap.size+1+1) 34 #[.int .i64 0,.int .i64 0]):=by rw[<-bL,<-zbP];exact aA.new _ _ _
 have HW:=wnew3 bh Dt bL;obtain⟨z0,z1,z2,z3,z4⟩:=B1.o.c5;have hO:=jX A2 HW.o (B2.o.cell 0 rfl);clear hb jX;go_enter ZF29,Tryz.ntmps29
 go_wp2_with fail
 refine hO.mono ?_;rintro e w1 ⟨rfl,bq⟩;have cV:=HW.t bq;have N4:=hid bq;clear bq z0 z1 z2 z3 z4 hO bh Dt bL eL zbP;obtain⟨W,hW⟩:=ex1 (w1.alloc (.cells #[.int .i64 0,.int .i64 0,.slice none 0 0,.slice none 0 0,.slice none 0 0,.slice none 0 0] 81));have DD:=knew hW;have HR:=DD.box (BR.o.below N4.o BR.o.lt) (by simp);obtain⟨t0,t1⟩:=HR.c2;have f0:=HR.aH 0;have f1:=HR.aH 1;have d0:=HR.same (i:=0) (v:=.int .i64 0) rfl;have d1:=HR.same (i:=1) (v:=.int .i64 0) rfl;have xt:Hid (Below w.heap.size w W):=(cV.o.trans (DD.below (by simp) cV.o.size):Below w.heap.size w W)
 have eI:=(bnew hW).o;have s0:=eI.c1;have g0:=eI.aH 0;have e0:=eI.same (i:=0) (v:=.int .i64 0) rfl;obtain⟨-,s1⟩:=eI.c2;have g1:=eI.aH 1;have e1:=eI.same (i:=1) (v:=.int .i64 0) rfl;obtain⟨-,-,s2⟩:=eI.c3;have g2:=eI.aH 2;have e2:=eI.same (i:=2) (v:=.slice none 0 0) rfl;obtain⟨-,-,-,s3⟩:=eI.c4;have g3:=eI.aH 3;have e3:=eI.same (i:=3) (v:=.slice none 0 0) rfl;obtain⟨-,-,-,-,s4⟩:=eI.c5;have g4:=eI.aH 4;have e4:=eI.same (i:=4) (v:=.slice none 0 0) rfl;obtain⟨-,-,-,-,-,s5⟩:=eI.c6;have g5:=eI.aH 5;have e5:=eI.same (i:=5) (v:=.slice none 0 0) rfl;clear DD HR eI;go_wp2_with fail
 refine bodyPost_ret (v:=.tuple #[.agg #[.int .i64 0,.int .i64 0],.int .i64 s]) ?_ rfl ⟨rfl,xt.o⟩;rw[results_cell_tmp rfl];go_simp
def xA (f:Nat) (hf:f=59\/f=85) (w:nq) (v vl:fu) (b:ab) (l:List Int) (g:Nat) (hb:ar w v b) (hs:d9 b) (hc:jh w) (hl:ao w vl l) (hg:w.cell? ⟨g,0,none⟩=some vl) (hn:aU b≠0\/aK b l≠0):
 Calls ZP 51 #[v,.func (.func f) #[] #[ptr g]] w (bK w (.tuple #[gX,.int .i64 (aR b (aK b l))])):=by
 by_cases h0:aU b=0
 .have hv:=bd.1 h0;have hm:aK b l≠0:=hn.resolve_left λh=>h h0;have ho:aR b (aK b l)=aK b l:=by unfold aR;rw[zAF h0,zAG hm]
  rw[ho];obtain⟨a2,c2,a3,c3,a4,c4,rfl⟩:=hb.dJ;rcases hf with rfl|rfl
  .exact sQ 59 (λargs w=>ZC59 args w) w b _ a2 c2 _ _ rfl hb hv hc #[ptr g] _ hm λY hY=>(y9 Y _ _ b l g (hb.later (Kp.of hY)) hv (hl.later (Kp.of hY)) (am.cell ⟨Y,hY⟩ hg)).1
  .exact sQ 85 (λargs w=>ZC85 args w) w b _ a2 c2 _ _ rfl hb hv hc #[ptr g] _ hm λY hY=>(y9 Y _ _ b l g (hb.later (Kp.of hY)) hv (hl.later (Kp.of hY)) (am.cell ⟨Y,hY⟩ hg)).2
 .have ho:aR b (aK b l)=aU b:=by unfold aR;rw[zAG h0]
  rw[ho];exact nP _ w v b hb hs hc h0
def sR (w:nq) (v vl:fu) (b:ab) (l:List Int) (hb:ar w v b) (hs:d9 b) (hc:jh w) (hl:ao w vl l):
 Calls ZP 29 #[v,vl] w (bK w (.tuple #[jE b l,.int .i64 (aR b (aK b l))])):=by
 by_cases hn:aU b≠0\/aK b l≠0
 .have ho:aR b (aK b l)≠0:=by
   unfold aR;by_cases h0:aU b=0
   .rw[zAF h0,zAG (hn.resolve_left λh=>h h0)];exact hn.resolve_left λh=>h h0
   .rw[zAG h0];exact h0
  have Lz:jE b l=.agg #[.int .i64 0,.int .i64 0]:=by unfold jE;rw[zAG ho]
  rw[Lz];exact AZ w v vl b _ hb (pu hl) ho λX hX hg=>xA 85 (.inr rfl) X v vl b l _ (hb.later (Kp.of hX)) hs (hc.later hX) (hl.later (Kp.of hX)) hg hn
 .have h0:aU b=0:=Decidable.byContradiction λh=>hn (.inl h);have hm:aK b l=0:=Decidable.byContradiction λh=>hn (.inr h);have hv:=bd.1 h0;refine(Gv w v vl b l hb hv hc (bV.1 hm) hl).mono ?_;rintro e w' ⟨⟨hL,rfl⟩|⟨hL,rfl⟩,hB⟩
  .have ho:aR b (aK b l)=9:=by unfold aR;rw[zAF h0,hm,zAF rfl,zAF (nQ.1 hL)]
   exact⟨by unfold jE;rw[ho,zAG (by decide)],hB⟩
  .have ho:aR b (aK b l)=0:=by unfold aR;rw[zAF h0,hm,zAF rfl,zAG (λh=>hL (nQ.2 h))]
   exact⟨by unfold jE;rw[ho,zAF rfl],hB⟩
end Go.Proofs.Cz
