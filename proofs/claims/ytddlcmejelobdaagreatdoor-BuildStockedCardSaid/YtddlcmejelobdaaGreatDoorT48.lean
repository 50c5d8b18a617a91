/- A part. Conditions: none. -/
import Derived.Test.YtddlcmejelobdaaGreatDoorT47
set_option linter.all false
set_option maxHeartbeats 8000000
set_option maxRecDepth 100000
namespace Go.Proofs.Cz
open Go.RowKit
def Nk (w:World) (L:List (Nat->Int)) (e:Ending) (w':World):Prop:=e=.returned (.tuple #[.int .i64 L.length,.int .i64 0])/\Below w.heap.size w w'
theorem tY (w:World) (v:Value) (b:ai) (hb:au w v b) (hv:Valid b) (hc:me w):Calls ZP 11 #[v] w (Nk w (aP b (aB b))):=by
 have HB:=hid hb;have HV:Hid (Valid b):=hv;have HC:Hid (me w):=hc;have RF:Hid (xp w v (aB b)):=lF hb hv;obtain⟨a2,c2,a3,c3,a4,c4,rfl⟩:=hb.gi;obtain⟨A1,bI⟩:=ex1 (w.alloc (.cells #[.int .i64 b.ao,.int .i64 b.places,.slice a2 b.parts.length c2,.slice a3 b.apart.length c3,.slice a4 b.ab.length c4] 26));have B1:Hid (aD A1 w.heap.size 26 #[.int .i64 b.ao,.int .i64 b.places,.slice a2 b.parts.length c2,.slice a3 b.apart.length c3,.slice a4 b.ab.length c4]):=fe bI;have HW:Hid (Below w.heap.size w A1):=(dd bI).below (by simp) (Nat.le_refl _);have z0:=B1.o.cell 0 rfl;have z1:=B1.o.cell 1 rfl;have z2:=B1.o.cell 2 rfl;have z3:=B1.o.cell 3 rfl;have z4:=B1.o.cell 4 rfl;clear hb hv hc;go_enter ZF11,Tryz.ntmps11
 go_wp2_with(first
  |(go_at_call 56
    refine(nf A1 _ b (HB.o.later (Kp.of HW.o)) HV.o (HC.o.later HW.o)).mono ?_;rintro e w1 ⟨⟨r,rfl,rfl⟩,bE⟩;have fB:=hid bE;have xP:=HW.t bE;clear bE z0 z1 z2 z3 z4;have X1:=B1.o.below fB.o B1.o.lt;have z0:=X1.cell 0 rfl;have z1:=X1.cell 1 rfl;have z2:=X1.cell 2 rfl;have z3:=X1.cell 3 rfl;have z4:=X1.cell 4 rfl;clear X1)
  |(go_at_call 57
    refine(Ei _ b a2 c2 _ _ (aB b) (HB.o.later (Kp.of xP.o)) HV.o (fun X t hX=>RF.o X t (xP.o.trans (hX.mono xP.o.size)))).mono ?_;rintro e w2 ⟨⟨r,rfl,hr⟩,gz⟩;obtain⟨a,cap,rfl⟩:=mA hr;have iI:=xP.t gz;clear hr gz))
 go_ret2;exact⟨rfl,iI.o⟩
theorem qg (f:Nat) (hf:∀(args:Array Value) (w:World),Sem.run ZP (Go.callFunc f args) w=.ok (.enter f args) w) (w:World) (b:ai) (v:Value) (a2:Option Addr) (c2:Nat) (v3 v4:Value) (OS:v=.agg #[.int .i64 b.ao,.int .i64 b.places,.slice a2 b.parts.length c2,v3,v4]) (hb:au w v b) (hv:Valid b) (hc:me w)
 (cs:Array Value) (s:Int) (KU:s≠0)
 (bO:∀X,Below w.heap.size w X->Calls ZP f (#[v]++cs) X (dQ X (.int .i64 s))):
 Calls ZP 51 #[v,.func (.func f) #[] cs] w (dQ w (.tuple #[oC,.int .i64 s])):=by
 subst OS;have HB:=hid hb;have HV:Hid (Valid b):=hv;obtain⟨_,_,_,A9,_,⟨a3,c3,⟨e3,_,_,_,_⟩,_⟩,⟨a4,c4,⟨e4,_,_,_,_⟩,_⟩⟩:=hb;simp only[Value.agg.injEq,Array.mk.injEq,List.cons.injEq,true_and,and_true]at A9;obtain⟨rfl,rfl,rfl⟩:=A9;subst e3 e4;obtain⟨A1,bI⟩:=ex1 (w.alloc (.cells #[.int .i64 b.ao,.int .i64 b.places,.slice a2 b.parts.length c2,.slice a3 b.apart.length c3,.slice a4 b.ab.length c4] 26));obtain⟨A2,cF⟩:=ex1 (A1.alloc (.cells #[.int .i64 0,.int .i64 0,.slice none 0 0,.slice none 0 0,.slice none 0 0,.slice none 0 0] 81));have fW:=snew bI;have mt:=snew2 cF fW;have xQ:=bnewk bI cF;have VZ:=bnew2 cF fW;have xk:=wnew2 bI cF;have HC:Hid (me w):=hc;obtain⟨z0,z1,z2,z3,z4⟩:=xQ.o.c5;have F8:=hid bO;clear hv hc bO;go_enter ZF51,Tryz.ntmps51
 go_wp2_with fail
 refine(nf A2 _ b (HB.o.later (Kp.of xk.o)) HV.o (HC.o.later xk.o)).mono ?_;rintro e w1 ⟨⟨r,rfl,rfl⟩,bE⟩;have fB:=hid bE;clear z0 z1 z2 z3 z4 bE bI cF;obtain⟨z0,z1,z2,z3,z4⟩:=(hidb xQ fB.o).o.c5;go_wp2_with fail
 obtain⟨A4,kF⟩:=ex1 (w1.alloc (.cells #[.int .i64 b.ao,.int .i64 b.places,.slice a2 b.parts.length c2,.slice a3 b.apart.length c3,.slice a4 b.ab.length c4] 78));rw[kF];have CE:=snew kF;have AH:=bnew kF;have S0:Hid (Below A2.heap.size A2 A4):=by rw[<-kF];exact fB.o.alloc fB.o.size _
 refine(F8.o A4 (xk.o.trans (S0.o.mono xk.o.size))).mono ?_;rintro e w2 ⟨rfl,gz⟩;have iI:=hid gz;clear z0 z1 z2 z3 z4 gz kF;obtain⟨z0,z1,z2,z3,z4⟩:=(hidb AH iI.o).o.c5;have GX:=S0.t iI.o;have S3:=xk.t GX.o;have HR:=VZ.o.below GX.o VZ.o.lt;obtain⟨⟨t0,t1,t2,t3,t4,t5⟩,f0,f1,f2,f3,f4,f5⟩:=O0 HR;have e0:=HR.same (i:=0) (v:=.int .i64 0) rfl;have e1:=HR.same (i:=1) (v:=.int .i64 0) rfl;have e2:=HR.same (i:=2) (v:=.slice none 0 0) rfl;have e3:=HR.same (i:=3) (v:=.slice none 0 0) rfl;have e4:=HR.same (i:=4) (v:=.slice none 0 0) rfl;have e5:=HR.same (i:=5) (v:=.slice none 0 0) rfl;clear z0 z1 z2 z3 z4 HR;go_wp2_with fail
 refine bodyPost_ret (v:=.tuple #[oC,.int .i64 s]) ?_ rfl ⟨rfl,S3.o⟩;rw[results_cell_tmp rfl];go_simp
theorem lG {b:ai} (h:bt b=0):mC b=(aP b (aB b)).length:=by unfold mC;rw[if_pos h,sU,List.length_map]
theorem lX {b:ai}:aP b (aB b)=[]↔Aj b=[]:=by rw[sU,List.map_eq_nil_iff]
theorem vv (w:World) (v:Value) (b:ai) (hb:au w v b) (hs:fL b) (hc:me w):Calls ZP 11 #[v] w (dQ w (.tuple #[.int .i64 (mC b:Nat),.int .i64 (bt b)])):=by
 by_cases h0:bt b=0
 .refine(tY w v b hb (cX.1 h0) hc).mono fun e w' h=>⟨?_,h.2⟩
  rw[h.1,h0,lG h0]
 .have HB:=hid hb;obtain⟨a2,c2,a3,c3,a4,c4,rfl⟩:=hb.gi;obtain⟨A1,bI⟩:=ex1 (w.alloc (.cells #[.int .i64 b.ao,.int .i64 b.places,.slice a2 b.parts.length c2,.slice a3 b.apart.length c3,.slice a4 b.ab.length c4] 26));have B1:Hid (aD A1 w.heap.size 26 #[.int .i64 b.ao,.int .i64 b.places,.slice a2 b.parts.length c2,.slice a3 b.apart.length c3,.slice a4 b.ab.length c4]):=fe bI;have HW:Hid (Below w.heap.size w A1):=(dd bI).below (by simp) (Nat.le_refl _);have z0:=B1.o.cell 0 rfl;have z1:=B1.o.cell 1 rfl;have z2:=B1.o.cell 2 rfl;have z3:=B1.o.cell 3 rfl;have z4:=B1.o.cell 4 rfl;have hC:=lA A1 _ b (HB.o.later (Kp.of HW.o)) hs (hc.later HW.o);have HN:Hid (mC b=0):=by unfold Hid mC;rw[if_neg h0]
  obtain⟨s,Tf⟩:=ex1 (bt b);have HSB:=hid Tf;rw[Tf]at hC h0⊢;clear hb hs hc Tf;go_enter ZF11,Tryz.ntmps11
  go_wp2_with fail
  refine hC.mono ?_;rintro e w1 ⟨⟨r,rfl,rfl⟩,bE⟩;have xP:=HW.t bE;clear bE bI z0 z1 z2 z3 z4 hC;go_wp2_with fail
  go_ret2;exact⟨congrArg (fun z:Nat=>Ending.returned (.tuple #[.int .i64 z,.int .i64 r])) HN.o.symm,xP.o⟩
theorem CW {w:World} {v:Value} {l:List Int} (h:aC w v l):∃a n c,v=.slice a n c:=by
 obtain⟨a,c,⟨rfl,_,_,_,_⟩,_⟩:=h;exact⟨_,_,_,rfl⟩
theorem vw (w:World) (v vl:Value) (b:ai) (l:List Int) (g:Nat) (hb:au w v b) (hv:Valid b) (hl:aC w vl l) (hg:w.cell? ⟨g,0,none⟩=some vl):
 Calls ZP 59 #[v,ptr g] w (dQ w (.int .i64 (aJ b l)))/\
 Calls ZP 85 #[v,ptr g] w (dQ w (.int .i64 (aJ b l))):=by
 have HB:=hid hb;obtain⟨a2,c2,a3,c3,a4,c4,rfl⟩:=hb.gi;obtain⟨la,lc,⟨rfl,ll,lm,ln,lr⟩,le⟩:=hl;have HL:Hid (aC w (.slice la l.length lc) l):=⟨la,lc,⟨rfl,ll,lm,ln,lr⟩,le⟩
 obtain⟨A1,bI⟩:=ex1 (w.alloc (.cells #[.int .i64 b.ao,.int .i64 b.places,.slice a2 b.parts.length c2,.slice a3 b.apart.length c3,.slice a4 b.ab.length c4] 78));have B1:=(bnew bI).o;have HW:=wnew bI;obtain⟨x0,x1,x2,x3,x4⟩:=B1.c5;have y0:A1.cell? ⟨g,0,none⟩=some (.slice la l.length lc):=ah.cell ⟨A1,HW.o⟩ hg;have hC:=px A1 _ _ b l (HB.o.later (Kp.of HW.o)) (HL.o.later (Kp.of HW.o)) hv.parts.many hv.ic;obtain⟨mb,D0⟩:=ex1 (aJ b l);rw[D0]at hC⊢;clear ll lm ln lr le hb hv hg B1 D0;refine⟨?x,?y⟩;case' x=>go_enter ZF59,Tryz.ntmps59
 case' y=>go_enter ZF85,Tryz.ntmps85
 all_goals
  go_wp2_with(go_at_call 60;refine hC.mono ?_;rintro e w1 ⟨⟨r,rfl,rfl⟩,bE⟩)
  go_ret;exact⟨rfl,HW.o.trans (bE.mono HW.o.size)⟩
theorem Ak (w:World) (v vl:Value) (b:ai) (s:Int) (hb:au w v b) (X7:∃la n lc,vl=.slice la n lc) (KU:s≠0)
 (Al:∀X,Below w.heap.size w X->X.cell? ⟨w.heap.size+1,0,none⟩=some vl->Calls ZP 51 #[v,.func (.func 59) #[] #[ptr (w.heap.size+1)]] X (dQ X (.tuple #[oC,.int .i64 s]))):
 Calls ZP 14 #[v,vl] w (dQ w (.tuple #[.int .i64 0,.int .i64 s])):=by
 obtain⟨la,n,lc,rfl⟩:=X7;obtain⟨a2,c2,a3,c3,a4,c4,rfl⟩:=hb.gi;obtain⟨A1,bI⟩:=ex1 (w.alloc (.cells #[.int .i64 b.ao,.int .i64 b.places,.slice a2 b.parts.length c2,.slice a3 b.apart.length c3,.slice a4 b.ab.length c4] 26));obtain⟨A2,cF⟩:=ex1 (A1.alloc (.cells #[.slice la n lc] 35));have fW:=snew bI;have B1:=bnewk bI cF;have B2:=bnew2 cF fW;have HW:=wnew2 bI cF;obtain⟨z0,z1,z2,z3,z4⟩:=B1.o.c5;have hO:=Al A2 HW.o (B2.o.cell 0 rfl);clear hb Al;go_enter ZF14,Tryz.ntmps14
 go_wp2_with fail
 refine hO.mono ?_;rintro e w1 ⟨rfl,bE⟩;have fB:=HW.t bE;clear bE z0 z1 z2 z3 z4 hO bI cF fW;go_wp2_with fail
 go_ret2;exact⟨rfl,fB.o.alloc fB.o.size _⟩
theorem tZ (f:Nat) (hf:f=59\/f=85) (w:World) (v vl:Value) (b:ai) (l:List Int) (g:Nat) (hb:au w v b) (hs:fL b) (hc:me w) (hl:aC w vl l) (hg:w.cell? ⟨g,0,none⟩=some vl) (hn:bt b≠0\/aJ b l≠0):
 Calls ZP 51 #[v,.func (.func f) #[] #[ptr g]] w (dQ w (.tuple #[oC,.int .i64 (a9 b (aJ b l))])):=by
 by_cases h0:bt b=0
 .have hv:=cX.1 h0;have hm:aJ b l≠0:=hn.resolve_left fun h=>h h0;have ho:a9 b (aJ b l)=aJ b l:=by unfold a9;rw[if_pos h0,if_neg hm]
  rw[ho];obtain⟨a2,c2,a3,c3,a4,c4,rfl⟩:=hb.gi;rcases hf with rfl|rfl
  .exact qg 59 (fun args w=>ZC59 args w) w b _ a2 c2 _ _ rfl hb hv hc #[ptr g] _ hm fun Y hY=>(vw Y _ _ b l g (hb.later (Kp.of hY)) hv (hl.later (Kp.of hY)) (ah.cell ⟨Y,hY⟩ hg)).1
  .exact qg 85 (fun args w=>ZC85 args w) w b _ a2 c2 _ _ rfl hb hv hc #[ptr g] _ hm fun Y hY=>(vw Y _ _ b l g (hb.later (Kp.of hY)) hv (hl.later (Kp.of hY)) (ah.cell ⟨Y,hY⟩ hg)).2
 .have ho:a9 b (aJ b l)=bt b:=by unfold a9;rw[if_neg h0]
  rw[ho];exact vu _ w v b hb hs hc h0
theorem Gq (w:World) (v vl:Value) (b:ai) (l:List Int) (hb:au w v b) (hs:fL b) (hc:me w) (hl:aC w vl l):
 Calls ZP 14 #[v,vl] w (dQ w (.tuple #[.int .i64 (sV b l),.int .i64 (a9 b (aJ b l))])):=by
 by_cases hn:bt b≠0\/aJ b l≠0
 .have ho:a9 b (aJ b l)≠0:=by
   unfold a9;by_cases h0:bt b=0
   .rw[if_pos h0,if_neg (hn.resolve_left fun h=>h h0)];exact hn.resolve_left fun h=>h h0
   .rw[if_neg h0];exact h0
  have OU:sV b l=0:=by unfold sV;rw[if_neg ho]
  rw[OU];exact Ak w v vl b _ hb (CW hl) ho fun X hX hg=>tZ 59 (.inl rfl) X v vl b l _ (hb.later (Kp.of hX)) hs (hc.later hX) (hl.later (Kp.of hX)) hg hn
 .have h0:bt b=0:=Decidable.byContradiction fun h=>hn (.inl h);have hm:aJ b l=0:=Decidable.byContradiction fun h=>hn (.inr h);have hv:=cX.1 h0;refine(JY w v vl b l hb hv hc (bZ.1 hm) hl).mono ?_;rintro e w' ⟨⟨hL,rfl⟩|⟨hL,rfl⟩,hB⟩
  .have ho:a9 b (aJ b l)=9:=by unfold a9;rw[if_pos h0,hm,if_pos rfl,if_pos (lX.1 hL)]
   exact⟨by unfold sV;rw[ho,if_neg (by decide)],hB⟩
  .have ho:a9 b (aJ b l)=0:=by unfold a9;rw[if_pos h0,hm,if_pos rfl,if_neg (fun h=>hL (lX.2 h))]
   exact⟨by unfold sV;rw[ho,if_pos rfl],hB⟩
end Go.Proofs.Cz
