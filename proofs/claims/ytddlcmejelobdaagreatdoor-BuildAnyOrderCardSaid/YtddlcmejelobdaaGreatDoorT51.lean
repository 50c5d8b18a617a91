/- A part. Conditions: none. -/
import Derived.Test.YtddlcmejelobdaaGreatDoorT50
set_option linter.all false
set_option maxHeartbeats 8000000
set_option maxRecDepth 100000
noncomputable section
namespace Go.Proofs.Cz
open Go.RowKit
variable {b:ab}
open Classical in
def nt (b:ab):Nat:=if aU b=0 then(aB b).length else 0
def A9 (b:ab) (r:List Int):Prop:=(aU b≠0->r=[])/\(aU b=0->aB b≠ []->r=[])/\(aU b=0->aB b=[]->∃m,Gm b m/\r=aQ m 4)
def iL (w:nq):ao w (.slice none 0 0) []:=⟨none,0,⟨rfl,zAB _,zAM _,λ_=>rfl,λb hb=>by cases hb⟩,λb hb=>by cases hb⟩
def tD (w:nq) (v:fu) (b:ab) (hb:ar w v b) (hs:d9 b) (hc:jh w) (h0:aU b≠0):Calls ZP 27 #[v] w (bK w (.tuple #[.int .i64 0,.int .i64 (aU b)])):=by
 have HB:=hid hb;obtain⟨a2,c2,a3,c3,a4,c4,rfl⟩:=hb.dJ;obtain⟨A1,bh⟩:=ex1 (w.alloc (.cells #[.int .i64 b.ak,.int .i64 b.ah,.slice a2 b.ptz.length c2,.slice a3 b.aL.length c3,.slice a4 b.aX.length c4] 26));have B1:Hid (aA A1 w.heap.size 26 #[.int .i64 b.ak,.int .i64 b.ah,.slice a2 b.ptz.length c2,.slice a3 b.aL.length c3,.slice a4 b.aX.length c4]):=eC bh;have HW:Hid (Below w.heap.size w A1):=(dM bh).below (by simp) (zAB _);have z0:=B1.o.cell 0 rfl;have z1:=B1.o.cell 1 rfl;have z2:=B1.o.cell 2 rfl;have z3:=B1.o.cell 3 rfl;have z4:=B1.o.cell 4 rfl;have hC:=iJ A1 _ b (HB.o.later (Kp.of HW.o)) hs (hc.later HW.o);obtain⟨s,LB⟩:=ex1 (aU b);rw[LB]at hC h0⊢;clear hb hs hc LB;go_enter ZF27,Tryz.ntmps27
 go_wp2_with fail
 refine hC.mono ?_;rintro e w1 ⟨⟨r,rfl,rfl⟩,bq⟩;have pf:=HW.t bq;clear bq bh z0 z1 z2 z3 z4 hC;go_wp2_with fail
 go_ret2;exact⟨rfl,pf.o⟩
def GJ (w:nq) (v:fu) (b:ab) (hb:ar w v b) (hs:d9 b) (hc:jh w) (h0:aU b≠0):Calls ZP 28 #[v] w (bK w (.tuple #[.slice none 0 0,.int .i64 (aU b)])):=by
 have HB:=hid hb;obtain⟨a2,c2,a3,c3,a4,c4,rfl⟩:=hb.dJ;obtain⟨A1,bh⟩:=ex1 (w.alloc (.cells #[.int .i64 b.ak,.int .i64 b.ah,.slice a2 b.ptz.length c2,.slice a3 b.aL.length c3,.slice a4 b.aX.length c4] 26));have B1:Hid (aA A1 w.heap.size 26 #[.int .i64 b.ak,.int .i64 b.ah,.slice a2 b.ptz.length c2,.slice a3 b.aL.length c3,.slice a4 b.aX.length c4]):=eC bh;have HW:Hid (Below w.heap.size w A1):=(dM bh).below (by simp) (zAB _);have z0:=B1.o.cell 0 rfl;have z1:=B1.o.cell 1 rfl;have z2:=B1.o.cell 2 rfl;have z3:=B1.o.cell 3 rfl;have z4:=B1.o.cell 4 rfl;have hC:=iJ A1 _ b (HB.o.later (Kp.of HW.o)) hs (hc.later HW.o);obtain⟨s,LB⟩:=ex1 (aU b);rw[LB]at hC h0⊢;clear hb hs hc LB;go_enter ZF28,Tryz.ntmps28
 go_wp2_with fail
 refine hC.mono ?_;rintro e w1 ⟨⟨r,rfl,rfl⟩,bq⟩;have pf:=HW.t bq;clear bq bh z0 z1 z2 z3 z4 hC;go_wp2_with fail
 go_ret2;exact⟨rfl,pf.o⟩
def nu (w:nq) (v:fu) (b:ab) (hb:ar w v b) (hs:d9 b) (hc:jh w):Calls ZP 27 #[v] w (bK w (.tuple #[.int .i64 (nt b:Nat),.int .i64 (aU b)])):=by
 by_cases h0:aU b=0
 .refine(xl w v b hb (bd.1 h0) hc).mono λe w' h=>⟨?_,h.2⟩
  have hm:nt b=(aB b).length:=by unfold nt;rw[zAF h0]
  rw[h.1,h0,hm]
 .have hm:nt b=0:=by unfold nt;rw[zAG h0]
  rw[hm];exact tD w v b hb hs hc h0
def za (w:nq) (v:fu) (b:ab) (hb:ar w v b) (hs:d9 b) (hc:jh w):
 Calls ZP 28 #[v] w (λe w'=>(∃u r,e=.returned (.tuple #[u,.int .i64 (aU b)])/\ao w' u r/\A9 b r)/\Below w.heap.size w w'):=by
 by_cases h0:aU b=0
 .refine(NL w v b hb (bd.1 h0) hc).mono ?_;rintro e w' ⟨⟨hM,rfl⟩|⟨hM,u,m,rfl,hu,hw⟩,hB⟩
  .exact⟨⟨_,[],by rw[h0],iL _,λ_=>rfl,λ_ _=>rfl,λ_ h=>absurd h hM⟩,hB⟩
  .exact⟨⟨u,_,by rw[h0],hu,λh=>absurd h0 h,λ_ h=>absurd hM h,λ_ _=>⟨m,hw,rfl⟩⟩,hB⟩
 .exact(GJ w v b hb hs hc h0).mono λe w' h=>⟨⟨_,[],h.1,iL _,λ_=>rfl,λh=>absurd h h0,λh=>absurd h h0⟩,h.2⟩
open Classical in
def bP (b:ab):Int:=if aR b 0=0 then if aV b (an b (aj b))=[]then 8 else 0 else aR b 0
def Oj (b:ab) (ks:List ((Nat->Int)->Int)):Nat->Int:=dW ks (aV b (an b (aj b)))
def oB (b:ab) (ks:List ((Nat->Int)->Int)):List Int:=if bP b=0 then bX b.ah.toNat (Oj b ks)else []
def fw (b:ab) (ks:List ((Nat->Int)->Int)) (val:(Nat->Int)->Int):Int:=if bP b=0 then val (Oj b ks)else 0
def gT (b:ab):Nat:=if aR b 0=0 then ci b.ah.toNat (aV b (an b (aj b))) (cB b b.ptz.length)else 0
def Up (w:nq) (l:List Int) (v:fu) (s:Int) (e:Ending) (w':nq):Prop:=(∃u,e=.returned (.tuple #[u,v,.int .i64 s])/\ao w' u l)/\Below w.heap.size w w'
def jY (h:aU b=0) (hL:an b (aj b)=[]):aR b 0=9:=by unfold aR;rw[zAF h,zAF rfl,zAF (nQ.1 hL)]
def iM (h:aU b=0) (hL:an b (aj b)≠ []):aR b 0=0:=by unfold aR;rw[zAF h,zAF rfl,zAG (λh=>hL (nQ.2 h))]
def D4 (h:aU b≠0):aR b 0=aU b:=by unfold aR;rw[zAG h]
def jF (h:aR b 0=9):bP b=9:=by unfold bP;rw[h,zAG (by decide)]
def we (h:aR b 0=0) (hS:aV b (an b (aj b))=[]):bP b=8:=by unfold bP;rw[zAF h,zAF hS]
def wg (h:aR b 0=0) (hS:aV b (an b (aj b))≠ []):bP b=0:=by unfold bP;rw[zAF h,zAG hS]
def qJ (h:aU b≠0):bP b=aU b:=by unfold bP;rw[D4 h,zAG h]
def nv (w:nq) (v:fu) (b:ab) (s:Int) (hb:ar w v b) (Kl:s≠0) (jX:∀X,Below w.heap.size w X->Calls ZP 51 #[v,.func (.func 52) #[] #[]] X (bK X (.tuple #[gX,.int .i64 s]))):
 Calls ZP 65 #[v] w (bK w (.tuple #[gX,.slice none 0 0,.int .i64 s])):=by
 obtain⟨a2,c2,a3,c3,a4,c4,rfl⟩:=hb.dJ;obtain⟨A1,bh⟩:=ex1 (w.alloc (.cells #[.int .i64 b.ak,.int .i64 b.ah,.slice a2 b.ptz.length c2,.slice a3 b.aL.length c3,.slice a4 b.aX.length c4] 26));obtain⟨A2,bL⟩:=ex1 (A1.alloc (.cells #[.int .i64 0,.int .i64 0,.slice none 0 0,.slice none 0 0,.slice none 0 0,.slice none 0 0] 81));have eL:=snew bh;have B1:=bnewk bh bL;have NV:=bnew2 bL eL;have HW:=wnew2 bh bL;have z0:=B1.o.cell 0 rfl;have z1:=B1.o.cell 1 rfl;have z2:=B1.o.cell 2 rfl;have z3:=B1.o.cell 3 rfl;have z4:=B1.o.cell 4 rfl;have hO:=jX A2 HW.o;clear hb jX;go_enter ZF65,Tryz.ntmps65
 go_wp2_with fail
 refine hO.mono ?_;rintro e w1 ⟨rfl,bq⟩;have cV:=HW.t bq;have Ui:=hidb NV bq;have zgq:w.heap.size+1<w1.heap.size:=Ui.o.lt;clear bq z0 z1 z2 z3 z4 bh bL hO;obtain⟨W,hW⟩:=ex1 (w1.alloc (.cells #[.int .i64 0,.int .i64 0,.slice none 0 0,.slice none 0 0,.slice none 0 0,.slice none 0 0] 81));have DD:=knew hW;have eI:=(bnew hW).o;have gD:=DD.box Ui.o (by simp);have t0:=gD.cell 0 rfl;have f0:=gD.aH 0;have s0:=eI.cell 0 rfl;have g0:=eI.aH 0;have e0:=eI.same (i:=0) (v:=.int .i64 0) rfl;have d0:=gD.same (i:=0) (v:=.int .i64 0) rfl;have t1:=gD.cell 1 rfl;have f1:=gD.aH 1;have s1:=eI.cell 1 rfl;have g1:=eI.aH 1;have e1:=eI.same (i:=1) (v:=.int .i64 0) rfl;have d1:=gD.same (i:=1) (v:=.int .i64 0) rfl;have t2:=gD.cell 2 rfl;have f2:=gD.aH 2;have s2:=eI.cell 2 rfl;have g2:=eI.aH 2;have e2:=eI.same (i:=2) (v:=.slice none 0 0) rfl;have d2:=gD.same (i:=2) (v:=.slice none 0 0) rfl;have t3:=gD.cell 3 rfl;have f3:=gD.aH 3;have s3:=eI.cell 3 rfl;have g3:=eI.aH 3;have e3:=eI.same (i:=3) (v:=.slice none 0 0) rfl;have d3:=gD.same (i:=3) (v:=.slice none 0 0) rfl;have t4:=gD.cell 4 rfl;have f4:=gD.aH 4;have s4:=eI.cell 4 rfl;have g4:=eI.aH 4;have e4:=eI.same (i:=4) (v:=.slice none 0 0) rfl;have d4:=gD.same (i:=4) (v:=.slice none 0 0) rfl;have t5:=gD.cell 5 rfl;have f5:=gD.aH 5;have s5:=eI.cell 5 rfl;have g5:=eI.aH 5;have e5:=eI.same (i:=5) (v:=.slice none 0 0) rfl;have d5:=gD.same (i:=5) (v:=.slice none 0 0) rfl;go_wp2
 refine bodyPost_ret (v:=.tuple #[gX,.slice none 0 0,.int .i64 s]) ?_ rfl ⟨rfl,cV.o.trans (DD.below (by simp) cV.o.size)⟩;rw[eT rfl];go_simp
def tE (w:nq) (v:fu) (b:ab) (s:Int) (hb:ar w v b) (Kl:s≠0) (jX:∀X,Below w.heap.size w X->Calls ZP 65 #[v] X (bK X (.tuple #[gX,.slice none 0 0,.int .i64 s]))):
 Calls ZP 19 #[v] w (bK w (.tuple #[.slice none 0 0,.int .i64 0,.int .i64 s])):=by
 obtain⟨a2,c2,a3,c3,a4,c4,rfl⟩:=hb.dJ;obtain⟨A1,bh⟩:=ex1 (w.alloc (.cells #[.int .i64 b.ak,.int .i64 b.ah,.slice a2 b.ptz.length c2,.slice a3 b.aL.length c3,.slice a4 b.aX.length c4] 26));have B1:Hid (aA A1 w.heap.size 26 #[.int .i64 b.ak,.int .i64 b.ah,.slice a2 b.ptz.length c2,.slice a3 b.aL.length c3,.slice a4 b.aX.length c4]):=eC bh;have HW:Hid (Below w.heap.size w A1):=(dM bh).below (by simp) (zAB _);have z0:=B1.o.cell 0 rfl;have z1:=B1.o.cell 1 rfl;have z2:=B1.o.cell 2 rfl;have z3:=B1.o.cell 3 rfl;have z4:=B1.o.cell 4 rfl;have hO:=jX A1 HW.o;clear hb jX;go_enter ZF19,Tryz.ntmps19
 go_wp2_with fail
 refine hO.mono ?_;rintro e w1 ⟨rfl,bq⟩;have cV:=HW.t bq;clear bq z0 z1 z2 z3 z4 hO bh;go_wp2_with fail
 refine bodyPost_ret (v:=.tuple #[.slice none 0 0,.int .i64 0,.int .i64 s]) ?_ rfl ⟨rfl,cV.o.alloc cV.o.size _⟩;rw[results_tmp3 rfl];rfl
def xB (w:nq) (v:fu) (b:ab) (s:Int) (hb:ar w v b) (Kl:s≠0) (jX:∀X,Below w.heap.size w X->Calls ZP 65 #[v] X (bK X (.tuple #[gX,.slice none 0 0,.int .i64 s]))):
 Calls ZP 16 #[v] w (bK w (.tuple #[.slice none 0 0,.int .i64 0,.int .i64 s])):=by
 obtain⟨a2,c2,a3,c3,a4,c4,rfl⟩:=hb.dJ;obtain⟨A1,bh⟩:=ex1 (w.alloc (.cells #[.int .i64 b.ak,.int .i64 b.ah,.slice a2 b.ptz.length c2,.slice a3 b.aL.length c3,.slice a4 b.aX.length c4] 26));have B1:Hid (aA A1 w.heap.size 26 #[.int .i64 b.ak,.int .i64 b.ah,.slice a2 b.ptz.length c2,.slice a3 b.aL.length c3,.slice a4 b.aX.length c4]):=eC bh;have HW:Hid (Below w.heap.size w A1):=(dM bh).below (by simp) (zAB _);have z0:=B1.o.cell 0 rfl;have z1:=B1.o.cell 1 rfl;have z2:=B1.o.cell 2 rfl;have z3:=B1.o.cell 3 rfl;have z4:=B1.o.cell 4 rfl;have hO:=jX A1 HW.o;clear hb jX;go_enter ZF16,Tryz.ntmps16
 go_wp2_with fail
 refine hO.mono ?_;rintro e w1 ⟨rfl,bq⟩;have cV:=HW.t bq;clear bq z0 z1 z2 z3 z4 hO bh;go_wp2_with fail
 refine bodyPost_ret (v:=.tuple #[.slice none 0 0,.int .i64 0,.int .i64 s]) ?_ rfl ⟨rfl,cV.o.alloc cV.o.size _⟩;rw[results_tmp3 rfl];rfl
def xC (w:nq) (v:fu) (b:ab) (s:Int) (hb:ar w v b) (Kl:s≠0) (jX:∀X,Below w.heap.size w X->Calls ZP 51 #[v,.func (.func 52) #[] #[]] X (bK X (.tuple #[gX,.int .i64 s]))):
 Calls ZP 10 #[v] w (bK w (.tuple #[.int .i64 0,.int .i64 s])):=by
 obtain⟨a2,c2,a3,c3,a4,c4,rfl⟩:=hb.dJ;obtain⟨A1,bh⟩:=ex1 (w.alloc (.cells #[.int .i64 b.ak,.int .i64 b.ah,.slice a2 b.ptz.length c2,.slice a3 b.aL.length c3,.slice a4 b.aX.length c4] 26));have B1:Hid (aA A1 w.heap.size 26 #[.int .i64 b.ak,.int .i64 b.ah,.slice a2 b.ptz.length c2,.slice a3 b.aL.length c3,.slice a4 b.aX.length c4]):=eC bh;have HW:Hid (Below w.heap.size w A1):=(dM bh).below (by simp) (zAB _);have z0:=B1.o.cell 0 rfl;have z1:=B1.o.cell 1 rfl;have z2:=B1.o.cell 2 rfl;have z3:=B1.o.cell 3 rfl;have z4:=B1.o.cell 4 rfl;have hO:=jX A1 HW.o;clear hb jX;go_enter ZF10,Tryz.ntmps10
 go_wp2_with fail
 refine hO.mono ?_;rintro e w1 ⟨rfl,bq⟩;have cV:=HW.t bq;clear bq z0 z1 z2 z3 z4 hO bh;go_wp2_with fail
 go_ret2;exact⟨rfl,cV.o.alloc cV.o.size _⟩
def sS (w:nq) (v:fu) (b:ab) (hb:ar w v b) (hs:d9 b) (hc:jh w):Calls ZP 16 #[v] w (Up w (oB b [dX b,cG b]) (.int .i64 (fw b [dX b,cG b] (dX b))) (bP b)):=by
 by_cases h0:aU b=0
 .have hv:=bd.1 h0;refine(GB w v b (aj b) hb hv hc (iK hb hv)).mono ?_;rintro e w' ⟨⟨hL,rfl⟩|⟨hL,hS,rfl⟩|⟨hL,hS,u,rfl,hu⟩,hB⟩
  .have h9:=jF (jY h0 hL);exact⟨⟨_,by simp only[fw,h9];first|done|rfl,by simp only[oB,h9];exact iL w'⟩,hB⟩
  .have h8:=we (iM h0 hL) hS;exact⟨⟨_,by simp only[fw,h8];first|done|rfl,by simp only[oB,h8];exact iL w'⟩,hB⟩
  .have h00:=wg (iM h0 hL) hS;exact⟨⟨u,by simp only[fw,h00,zAF];first|done|rfl,by simp only[oB,h00,zAF];exact hu⟩,hB⟩
 .have hp:=qJ h0;refine(xB w v b _ hb h0 λX hX=>nv X v b _ (hb.later (Kp.of hX)) h0 λY hY=>nP _ Y v b ((hb.later (Kp.of hX)).later (Kp.of hY)) hs ((hc.later hX).later hY) h0).mono ?_;rintro e w' ⟨rfl,hB⟩;exact⟨⟨_,by simp only[fw,hp,zAG h0];first|done|rfl,by simp only[oB,hp,zAG h0];exact iL w'⟩,hB⟩
def oC (w:nq) (v:fu) (b:ab) (hb:ar w v b) (hs:d9 b) (hc:jh w):Calls ZP 19 #[v] w (Up w (oB b [cG b]) (.int .i64 (fw b [cG b] (cG b))) (bP b)):=by
 by_cases h0:aU b=0
 .have hv:=bd.1 h0;refine(AT w v b (aj b) hb hv hc (iK hb hv)).mono ?_;rintro e w' ⟨⟨hL,rfl⟩|⟨hL,hS,rfl⟩|⟨hL,hS,u,rfl,hu⟩,hB⟩
  .have h9:=jF (jY h0 hL);exact⟨⟨_,by simp only[fw,h9];first|done|rfl,by simp only[oB,h9];exact iL w'⟩,hB⟩
  .have h8:=we (iM h0 hL) hS;exact⟨⟨_,by simp only[fw,h8];first|done|rfl,by simp only[oB,h8];exact iL w'⟩,hB⟩
  .have h00:=wg (iM h0 hL) hS;exact⟨⟨u,by simp only[fw,h00,zAF];first|done|rfl,by simp only[oB,h00,zAF];exact hu⟩,hB⟩
 .have hp:=qJ h0;refine(tE w v b _ hb h0 λX hX=>nv X v b _ (hb.later (Kp.of hX)) h0 λY hY=>nP _ Y v b ((hb.later (Kp.of hX)).later (Kp.of hY)) hs ((hc.later hX).later hY) h0).mono ?_;rintro e w' ⟨rfl,hB⟩;exact⟨⟨_,by simp only[fw,hp,zAG h0];first|done|rfl,by simp only[oB,hp,zAG h0];exact iL w'⟩,hB⟩
def sU (w:nq) (v:fu) (b:ab) (hb:ar w v b) (hs:d9 b) (hc:jh w):Calls ZP 10 #[v] w (bK w (.tuple #[.int .i64 (gT b:Nat),.int .i64 (aR b 0)])):=by
 by_cases h0:aU b=0
 .have hv:=bd.1 h0;refine(GI w v b (aj b) hb hv hc (iK hb hv)).mono ?_;rintro e w' ⟨⟨hL,rfl⟩|⟨hL,rfl⟩,hB⟩
  .have ho:=jY h0 hL;exact⟨by unfold gT;rw[ho,zAG (by decide)];rfl,hB⟩
  .have ho:=iM h0 hL;exact⟨by unfold gT;rw[ho,zAF rfl],hB⟩
 .have ho:=D4 h0;have Kl:gT b=0:=by unfold gT;rw[zAG (by rw[ho];exact h0)]
  rw[Kl,ho];exact xC w v b _ hb h0 λX hX=>nP _ X v b (hb.later (Kp.of hX)) hs (hc.later hX) h0
end Go.Proofs.Cz
namespace Go.Proofs.Cz
variable {b:ab} {l o:List Int} {n:Nat} {p q x:Int} {t:Nat->Int}
def lX (n:Nat) (x:Int):Int:=(n:Int)-1-x
def nR (n:Nat) (x:Int):lX n (lX n x)=x:=by unfold lX;omega
def Ey (n:Nat) (p:Int×Int):Int×Int:=(lX n p.2,lX n p.1)
def IQ (n:Nat) (p:Int×Int):Ey n (Ey n p)=p:=by unfold Ey;simp[nR]
def iN (n:Nat) (l:List Int):List Int:=l.map (lX n)
def t6 (n:Nat) (l:List Int):iN n (iN n l)=l:=by
 unfold iN;rw[List.map_map];have:(lX n∘lX n)=id:=funext λx=>nR n x;rw[this,List.map_id]
def Xv (n:Nat) (t:eH):eH:={t with ptz:=iN n t.ptz}
def aT (b:ab):ab:={b with ptz:=b.ptz.reverse,aL:=b.aL.reverse.map (Ey b.ptz.length),aX:=b.aX.reverse.map (Xv b.ptz.length)}
def eD (b:ab):(aT b).ptz.length=b.ptz.length:=by simp[aT]
def rev_rev (b:ab):aT (aT b)=b:=by
 unfold aT;simp only[List.length_reverse,List.reverse_reverse,<-List.map_reverse,List.map_map];have h1:(Ey b.ptz.length∘Ey b.ptz.length)=id:=funext λx=>IQ _ x;have h2:(Xv b.ptz.length∘Xv b.ptz.length)=id:=funext λx=>by simp[Xv,t6]
 rw[h1,h2];simp
def lK {i:Nat} (h:i<b.ptz.length):(aT b).ptz[i]?=b.ptz[b.ptz.length-1-i]?:=zFE h
def D9 (h:0<=x/\x<=(b.ptz.length:Int)-1):(aT b).ptz[(lX b.ptz.length x).toNat]?=b.ptz[x.toNat]?:=by
 rw[lK (by unfold lX;omega)];congr 1;unfold lX;omega
def Sj {k:Int}:k∈df (aT b) p->lX b.ptz.length k∈df b p:=by
 rw[nf,nf,eD];rintro⟨i,hi,rfl,x,hx,hp⟩;rw[lK hi]at hx;exact⟨b.ptz.length-1-i,by omega,by unfold lX;omega,x,hx,hp⟩
def zb:Apart (aT b).aL p q->Apart b.aL (lX b.ptz.length p) (lX b.ptz.length q):=by
 rintro⟨x,hx,h⟩;simp only[aT,zBO,List.mem_reverse]at hx;obtain⟨y,hy,rfl⟩:=hx;refine⟨y,hy,?_⟩;unfold vn Ey at*;unfold lX at*;simp only at h;omega
def GK (h:Apart b.aL (lX b.ptz.length p) (lX b.ptz.length q)):Apart (aT b).aL p q:=by
 have h2:=zb (b:=aT b) (p:=lX b.ptz.length p) (q:=lX b.ptz.length q) (by rw[rev_rev];exact h);rw[eD,nR,nR]at h2;exact h2
def lL (n:Nat) (l:List Int):(iN n l).length=l.length:=by simp[iN]
def Ba {j:Nat} (h:(iN n l)[j]?=some x):l[j]?=some (lX n x):=by
 unfold iN at h;rw[zCM]at h;cases hl:l[j]? with
 |none=>rw[hl]at h;cases h
 |some y=>
  rw[hl]at h;simp only[zBA,zAA]at h;rw[<-h,nR]
def wh (h:cO b o):cO (aT b) (iN b.ptz.length o):=by
 have hp:(aT b).ah=b.ah:=rfl;refine⟨by rw[lL,hp];exact h.len,λj x hj hx=>?_,λj x hj hx=>?_⟩
 .have h1:=Ba hx;have h2:=h.range j _ (zAT.1 h1).1 h1;rw[eD];unfold lX at h2;omega
 .have h1:=Ba hx;have XR:=(zAT.1 h1).1;have h2:=h.range j _ XR h1;have h3:=h.fit j _ XR h1;obtain⟨P,hP,hPf⟩:=h3.fits;refine⟨⟨P,?_,hPf⟩,λh0 y hy ha=>?_⟩
  .have:=D9 h2;rw[nR]at this;rw[this,hP]
  .have h4:=Ba hy;exact h3.Ux h0 _ h4 (zb ha)
def cT (hv:Valid b):Valid (aT b):=by
 refine⟨hv.ak,hv.ah,⟨by rw[eD];exact hv.ptz.many,?_⟩,⟨?_,?_⟩,?_,?_⟩
 .rw[eD];intro j x hj hx;rw[lK hj]at hx;refine⟨(hv.ptz.all _ x (by omega) hx).1,λi y hi hy=>?_⟩;rw[lK (by omega)]at hy;exact λe=>(hv.ptz.all _ y (by omega) hy).2 _ x (by omega) hx e.symm
 .have:=hv.gJ.many;simpa [aT]using this
 .rw[eD];intro j x hj hx;have hl:(aT b).aL.length=b.aL.length:=by simp[aT]
  rw[hl]at hj
  have hg:∀{i:Nat} {z:Int×Int},i<b.aL.length->(aT b).aL[i]?=some z->b.aL[b.aL.length-1-i]?=some (Ey b.ptz.length z):=λ{i z} hi hz=>by
   simp only[aT,zCM]at hz;rw[zFE hi]at hz;cases hc:b.aL[b.aL.length-1-i]? with
   |none=>rw[hc]at hz;cases hz
   |some y=>
    rw[hc]at hz;simp only[zBA,zAA]at hz;rw[<-hz,IQ]
  have h1:=hv.gJ.all _ _ (by omega) (hg hj hx);obtain⟨g1,g2,g3⟩:=h1.1;unfold Ey at g1 g2 g3;simp only[lX]at g1 g2 g3;refine⟨⟨by omega,by omega,by omega⟩,λi y hi hy e=>?_⟩;subst e;have h2:=hv.gJ.all _ _ (by omega) (hg (show i<b.aL.length by omega) hy);exact h2.2 (b.aL.length-1-j) _ (by omega) (hg hj hx) rfl
 .have:=hv.many;simpa [aT]using this
 .intro j t hj ht;have hl:(aT b).aX.length=b.aX.length:=by simp[aT]
  rw[hl]at hj;simp only[aT,zCM]at ht;rw[zFE hj]at ht;cases hc:b.aX[b.aX.length-1-j]? with
  |none=>rw[hc]at ht;cases ht
  |some y=>
   rw[hc]at ht;simp only[zBA,zAA]at ht;subst ht;have h1:=hv.aX _ y (by omega) hc;exact⟨wh h1.Nr,h1.WE⟩
def wi (hv:Valid b) (h:o∈aM b b.ah.toNat):iN b.ptz.length o∈aM (aT b) b.ah.toNat:=
 AW (b:=aT b) (cT hv) (wh (ik hv h))
def Bb (b:ab) (p:Nat):(aM b p).Nodup:=by
 have h:=kj b p;refine zFT (λ{x y} tH e=>?_) h;subst e;rw[AU]at tH;cases tH
def Sk {l':List Int} (h:iN n l=iN n l'):l=l':=by
 have:=zBB (iN n) h;rwa [t6,t6]at this
def zc (hv:Valid b):(aM b b.ah.toNat).length<=(aM (aT b) b.ah.toNat).length:=by
 have h1:((aM b b.ah.toNat).map (iN b.ptz.length)).Nodup:=List.Pairwise.map _ (λx y tH e=>tH (Sk e)) (Bb b _)
 have h2:=h1.length_le_of_subset (l₂:=aM (aT b) b.ah.toNat) λx hx=>by
  obtain⟨o,ho,rfl⟩:=zBO.1 hx;exact wi hv ho
 simpa using h2
def qK (hv:Valid b):(aB (aT b)).length=(aB b).length:=by
 rw[fp,fp,zDM,zDM];have h1:=zc hv;have h2:=zc (cT hv);rw[rev_rev]at h2;exact Nat.le_antisymm h2 h1
def pv (n:Nat) (t:Nat->Int):Nat->Int:=λi=>if i<n then t (n-1-i)else 0
def t7 (h:∀i,n<=i->t i=0):pv n (pv n t)=t:=by
 funext i;unfold pv;by_cases hi:i<n
 .rw[zAF hi,zAF (by omega)];congr 1;omega
 .rw[zAG hi,h i (by omega)]
def Ea:∀{N:Nat} {m:Nat->Int},(∀i,i<N->0<=m i/\m i<=(n:Int)-1)->aG (λi=>lX n (m i)) (pv n t) N=aG m t N
 |0,_,_=>rfl
 |N+1,m,h=>by
  have h1:=h N (by omega);rw[aG,aG,Ea λi hi=>h i (by omega)];congr 1;unfold pv lX;rw[zAF (by omega)];congr 1;omega
end Go.Proofs.Cz
namespace Go.Proofs.Cz
open Go.RowKit
variable {b:ab} {l:List Int} {m n:Nat} {r s:Nat->Int}
def wj {α:Type} {f:Nat->α->Nat} (hf:∀n x,n<=f n x):∀(l:List α) (n:Nat),n<=l.foldl f n
 | [],n=>zAB _
 |x::l,n=>by rw[zDA];exact zAP (hf n x) (wj hf l _)
def Eb (N:Nat) (S:List (Nat->Int)) (s:Nat->Int) (n:Nat) (m:Nat->Int):n<=dE N S s n m:=by
 unfold dE;split
 .exact zAB _
 .exact Nat.le_max_left _ _
def sV {N:Nat} {S:List (Nat->Int)} {m:Nat->Int} (hw:au s m N=some r):∀(l:List (Nat->Int)) (n:Nat),m∈l->1+ci N S r<=l.foldl (dE N S s) n
 |x::l,n,h=>by
  rw[zDA];rcases zAL.1 h with rfl|h
  .refine zAP ?_ (wj (Eb N S s) l _);unfold dE;rw[hw];exact Nat.le_max_right _ _
  .exact sV hw l _ h
def sW {N:Nat} {S:List (Nat->Int)}:∀(l:List (Nat->Int)) (n:Nat),l.foldl (dE N S s) n=n\/∃m∈l,∃r,au s m N=some r/\l.foldl (dE N S s) n=1+ci N S r
 | [],n=>.inl rfl
 |x::l,n=>by
  rw[zDA];rcases sW l (dE N S s n x)with h|⟨m,hm,r,h1,h2⟩
  .rw[h];unfold dE;cases hw:au s x N with
   |none=>exact .inl rfl
   |some r=>
    simp only;by_cases hle:1+ci N S r<=n
    .exact .inl (Nat.max_eq_left hle)
    .exact .inr ⟨x,zBL,r,hw,Nat.max_eq_right (by omega)⟩
  .exact .inr ⟨m,zAR _ hm,r,h1,h2⟩
section
variable {N:Nat} {S:List (Nat->Int)} (hN:1 <= N) (hS:∀ m ∈ S,∀ i,i < N->0 <= m i/\m i < 5)
include hN hS
def sX (s:Nat->Int):ci N S s=S.foldl (dE N S s) 0:=by
 rw[<-vZ hN hS,im,zCU]
def KM {m:Nat->Int} (hm:m∈S) (hw:au s m N=some r):1+ci N S r<=ci N S s:=by
 rw[sX hN hS s];exact sV hw S 0 hm
def KO (s:Nat->Int):ci N S s=0\/∃m∈S,∃r,au s m N=some r/\ci N S s=1+ci N S r:=by
 rw[sX hN hS s];exact sW S 0
end
def Sn (l x:List Int):Prop:=∀i y,x[i]?=some y->y<=l.getD i 0
instance (l x:List Int):Decidable (Sn l x):=Classical.propDecidable _
def Uq (b:ab) (L o:List Int):Prop:=
 ∃f:Nat->Int,(∀i,i<o.length->f i=ac o i)/\∀i,o.length<=i->i<L.length->f i∈df b (ac L i)/\(0<i->ac L (i-1)+1=ac L i->¬Apart b.aL (f (i-1)) (f i))
def bits_nat:∀{n:Nat} {x:Int},x∈aQ m n->∃q:Nat,x=(q:Int)/\q<n/\m.testBit q=true
 |0,x,h=>by simp[aQ]at h
 |n+1,x,h=>by
  rw[aQ,zCH]at h;rcases h with h|h
  .obtain⟨q,h1,h2,h3⟩:=bits_nat h;exact⟨q,h1,by omega,h3⟩
  .split at h
   .rename_i hb;simp at h;exact⟨n,h,by omega,hb⟩
   .simp at h
def Ec (m:Nat):∀n:Nat,(aQ m n).Pairwise (·<·)
 |0=>List.Pairwise.nil
 |n+1=>by
  rw[aQ,zFG];refine⟨Ec m n,?_,λa ha c hc=>?_⟩
  .split
   .exact zFR _ _
   .exact List.Pairwise.nil
  .obtain⟨q,rfl,h2,_⟩:=bits_nat ha;split at hc
   .simp at hc;omega
   .simp at hc
def zd:Uq b (aQ m n) []↔∃f,Good b m.testBit 0 n f:=by
 have Xw:=Ec m n
 have zS:∀{i:Nat},i<(aQ m n).length->∃q:Nat,(aQ m n)[i]?=some (q:Int)/\ac (aQ m n) i=(q:Int)/\q<n/\m.testBit q=true:=λ{i} hi=>by
  have e:(aQ m n)[i]?=some ((aQ m n)[i]'hi):=zAJ hi;obtain⟨q,h1,h2,h3⟩:=bits_nat (List.getElem_mem hi);rw[h1]at e;exact⟨q,e,by unfold ac;rw[e];rfl,h2,h3⟩
 have Ur:∀q:Nat,q<n->m.testBit q=true->∃i,i<(aQ m n).length/\(aQ m n)[i]?=some (q:Int)/\(aQ m n).idxOf (q:Int)=i/\ac (aQ m n) i=q:=λq h1 h2=>by
  have hm:(q:Int)∈aQ m n:=(vH m n q).2 ⟨h1,h2⟩;have av:=List.idxOf_lt_length_of_mem hm
  have e:(aQ m n)[(aQ m n).idxOf (q:Int)]?=some (q:Int):=by
   rw[zAJ av,List.getElem_idxOf av]
  exact⟨_,av,e,rfl,by unfold ac;rw[e];rfl⟩
 constructor
 .rintro⟨f,_,h2⟩;refine⟨λq=>f ((aQ m n).idxOf (q:Int)),λq _ hq hb=>?_⟩;obtain⟨i,hi,e,hx,j7⟩:=Ur q (by omega) hb;obtain⟨h3,h4⟩:=h2 i (zAM _) hi;simp only[hx];refine⟨by rw[<-j7];exact h3,λh0 bq=>?_⟩;obtain⟨j,hj,e2,hx2,So⟩:=Ur (q-1) (by omega) bq;rw[hx2]
  have UK:j<i:=Decidable.byContradiction λhn=>by
   by_cases e3:j=i
   .subst e3;rw[e]at e2;have:=zAV e2;omega
   .have:=AV Xw e e2 (by omega);omega
  have XR:j=i-1:=Decidable.byContradiction λhn=>by
   obtain⟨r,e3,_,_,_⟩:=zS (i:=i-1) (by omega);have:=AV Xw e2 e3 (by omega);have:=AV Xw e3 e (by omega);omega
  subst XR;exact h4 (by omega) (by rw[j7,So];omega)
 .rintro⟨g,h2⟩;refine⟨λi=>g (ac (aQ m n) i).toNat,λi hi=>by simp at hi,λi _ hi=>?_⟩;obtain⟨q,e,j7,hq,hb⟩:=zS hi;obtain⟨h3,h4⟩:=h2 q (zAM _) (by omega) hb;simp only[j7,zEA];refine⟨h3,λh0 h5=>?_⟩;obtain⟨r,e2,So,hr,eQ⟩:=zS (i:=i-1) (by omega);rw[So]at h5;rw[So,zEA];have:r=q-1:=by omega
  subst this;exact h4 (by omega) eQ
def Bc:Uq b (aQ m b.ah.toNat) []↔bZ b m=false:=by
 rw[zd];have h:=qC b m.testBit b.ah.toNat 0 (λ_=>0)
 have h2:(∃f,Good b m.testBit 0 b.ah.toNat f)↔rI b m≠ []:=by
  unfold rI;rw[h];exact⟨λ⟨f,hf⟩=>⟨f,λq hq=>by omega,hf⟩,λ⟨f,_,hf⟩=>⟨f,hf⟩⟩
 rw[h2];unfold bZ;rw[decide_eq_false_iff_not]
def KP:∀a c:Fin 16,cq a.1 c.1=false->cq c.1 a.1=false->a.1=c.1:=by decide+kernel
def Sp (hv:Valid b) {m':Nat} (h:Gm b m) (h':Gm b m'):m=m':=by
 have hp:(2:Nat)^b.ah.toNat<=2^4:=zEP (by omega) (by have:=hv.ah;omega);have h1:=h.lt;have h2:=h'.lt;exact KP ⟨m,by omega⟩ ⟨m',by omega⟩ (h'.least m h.lt h.none) (h.least m' h'.lt h'.none)
def lM (l:List Int):ni l (Lib.compact (jD l)):=by
 have h:=GD (l.map λx=>λ_:Nat=>x) 0;unfold qF at h;rw[List.map_map]at h
 have e:l.map ((λt:Nat->Int=>t 0)∘λx=>λ_:Nat=>x)=l:=by
  conv=>rhs;rw[<-List.map_id l]
  rfl
 rwa [e]at h
def Ed (l:List Int):bX l.length (ac l)=l:=by
 refine List.ext_getElem? λi=>?_;unfold bX;rw[zCM];by_cases h:i<l.length
 .rw[List.getElem?_range h,zAJ h];show some (ac l i)=_;unfold ac;rw[zAJ h];rfl
 .rw[zCZ (by simpa using h),zCZ (by omega)];rfl
def Ee {r:List Int} (h:ni l r):ng l.length (ac l)=r.length:=by
 unfold ng;rw[Ed,(lM l).eq h]
def Ol {k:Nat} {x:Int} (h:l[k]?=some x):iN n (l.take (k+1))=iN n (l.take k)++[lX n x]:=by
 unfold iN;rw[zBR,h,zCJ];rfl
def wl (w:nq) (v:fu) (l:List Int) (n:Nat) (hn:n<=100) (hl:ao w v l) (hr:∀(i:Nat) (x:Int),l[i]?=some x->0<=x/\x<=100) (hll:l.length<=100):
 Calls ZP 26 #[v,.int .i64 ((n:Int)-1)] w (λe w'=>(∃u,e=.returned u/\w'.ownsRow w.heap.size 3 1 u l.length ((iN n l).map (Value.int .i64)))/\Below w.heap.size w w'):=by
 obtain⟨i0,hi,tw,nI,qm⟩:=info_parts ow;obtain⟨ma,mc,hms,hme⟩:=hl;obtain rfl:=hms.eq;have HM:Hid (bT w (.slice ma l.length mc) l.length ma mc/\∀d,ma=some d->∀(j:Nat) (x:Int),l[j]?=some x->At w d j (.int .i64 x)):=⟨hms,hme⟩
 have HR:=hid hr;have Pa:=hms.le;clear hms hme hr;go_enter ZF26,Tryz.ntmps26
 go_wp2
 go_loopw [5,6] (λv i wr=>∃k:Nat,k<=l.length/\i=.int .i64 k/\Hid (wr.ownsRow w.heap.size 3 1 v (iN n (l.take k)).length ((iN n (l.take k)).map (Value.int .i64)))/\Hid (Below w.heap.size w wr)) (λ_ i _=>l.length-(intOf i).toNat)
 case atStart=>exact⟨0,zAM _,rfl,World.ownsRow_nil _ _ _ _,Below.refl _ _⟩
 case round=>
  obtain⟨k,hk,rfl,hO,hB⟩:=hrel;by_cases av:k<l.length
  .obtain⟨⟨blk,off,sp⟩,x,rfl,hx,x0⟩:=HM.o.1.elem HM.o.2 av;obtain rfl:sp=none:=x0.1;have g0:=(x0.later (Kp.of hB.o)).2;simp only at g0;have hx2:=HR.o k x hx;have HT:Hid (iN n (l.take (k+1))=iN n (l.take k)++[lX n x]):=Ol hx;have hlen:(iN n (l.take k)).length<=100:=by rw[lL,List.length_take];omega
   obtain⟨y,hy⟩:=ex1 ((n:Int)-1-x);have iO:wrap64 ((n:Int)-1-x)=y:=by unfold wrap64;omega
   have zF:IntKind.i64.wrap y=y:=IntWalk.i64_in _ ⟨by omega,by omega⟩;have HY:Hid (lX n x=y):=(by exact hy);have rk:(k:Int)<(l.length:Int):=by omega
   have cr:=hB.o.size;clear x0 hx;go_wp2_with(at_builtin;refine wpList_append_own _ rfl (.tmp 13) (.tmp 20) 35 rfl w.heap.size 3 i0 (.int .i64 0) 1 8 gO hi tw nI qm rfl (by decide) _ _ _ rfl (hO.o.alloc _) ⟨_,0,none⟩ 1 1 [.int .i64 y] rfl rfl (tT _ _ _) (qx _) (by unfold maxLen;omega) (by omega) (by simp;omega) ?_;intro v' w1 dO cF _)
   have vq:Hid (w1.ownsRow w.heap.size 3 1 v' (iN n (l.take (k+1))).length ((iN n (l.take (k+1))).map (Value.int .i64))):=by
    rw[HT.o,HY.o,zAZ,zCJ];exact dO
   have gW:Hid (Below w.heap.size w w1):=Below.grown (Below.alloc hB.o cr _) cF (by simp;omega) (dD hO.o);clear dO cF;go_wp2
   refine⟨⟨k+1,by omega,by go_num,vq,gW⟩,by simp[intOf];omega⟩
  .have e:k=l.length:=by omega
   subst e;go_wp2
   go_ret;exact⟨⟨_,rfl,by have:=hO.o;rw[zCU,lL]at this;exact this⟩,hB.o⟩
def wu (hv:Valid b) (L:List (Nat->Int)):∀m∈aV b L,∀i,i<b.ah.toNat->0<=m i/\m i<5:=λm hm i _=>na hv m (qG hm) i
end Go.Proofs.Cz
namespace Go.Proofs.Cz
variable {b:ab} {i n:Nat} {k:(Nat->Int)->Int} {ks:List ((Nat->Int)->Int)} {m m' s t:Nat->Int} {o r:List Int}
def pw (h:i<o.length):ac (iN n o) i=lX n (ac o i):=by
 unfold ac iN;rw[zCM,zAJ h];rfl
def KQ (h:i<o.length):o[i]?=some (ac o i):=by
 unfold ac;rw[zAJ h];rfl
def qL:∀{N:Nat},(∀i,i<N->m i=m' i)->aG m t N=aG m' t N
 |0,_=>rfl
 |N+1,h=>by rw[aG,aG,qL λi hi=>h i (by omega),h N (by omega)]
def qM (hv:Valid b) (h:cO b o):o.length=b.ah.toNat:=by have:=h.len;have:=hv.ah;omega
def Bd (h:cO b o) (hi:i<o.length):0<=ac o i/\ac o i<=(b.ptz.length:Int)-1:=h.range i _ hi (KQ hi)
def rV (hv:Valid b) (h:cO b o) (t:Nat->Int):aG (ac (iN b.ptz.length o)) (pv b.ptz.length t) b.ah.toNat=aG (ac o) t b.ah.toNat:=by
 have hl:=qM hv h;rw[qL (m':=λi=>lX b.ptz.length (ac o i)) λi hi=>pw (by omega)];exact Ea λi hi=>Bd h (by omega)
def Xx (h:∀i,0<=t i/\t i<=20) (i:Nat):0<=pv n t i/\pv n t i<=20:=by
 unfold pv;split
 .exact h _
 .omega
def GL (hv:Valid b) (ht:∀i,0<=t i/\t i<=20) (h:aj b t=true):aj (aT b) (pv b.ptz.length t)=true:=by
 unfold aj at*;rw[zCD]at*;intro x hx;simp only[aT,zBO,List.mem_reverse]at hx;obtain⟨y,hy,rfl⟩:=hx;have h1:=h y hy;obtain⟨j,hj⟩:=zGC.1 hy;have hm:=(hv.aX j y (zAT.1 hj).1 hj).Nr;have hp:=hv.ah;unfold fD at*;rw[vK ht _ (by omega)]at h1;rw[show(aT b).ah=b.ah from rfl,vK (Xx ht) _ (by omega)];show(decide (y.lo<=aG (ac (iN b.ptz.length y.ptz)) _ _)&&decide (aG (ac (iN b.ptz.length y.ptz)) _ _<=y.hi))=true;rw[rV hv hm];exact h1
def ny (hv:Valid b) (h:t∈an b (aj b)):pv b.ptz.length t∈an (aT b) (aj (aT b)):=by
 have h0:=nN hv _ t h;obtain⟨h1,h2,h3⟩:=pr.1 h;refine pr.2 ⟨GL hv h0 h1,λi hi=>?_,λi x hx=>?_⟩
 .rw[eD]at hi;unfold pv;rw[zAG (by omega)]
 .have hi:=(zAT.1 hx).1;rw[eD]at hi;rw[lK hi]at hx;unfold pv;rw[zAF hi];exact h3 _ x hx
def rW (h:t∈an b (aj b)):∀i,b.ptz.length<=i->t i=0:=(pr.1 h).2.1
def rX (hv:Valid b) (h:t∈an (aT b) (aj (aT b))):pv b.ptz.length t∈an b (aj b):=by
 have h1:=ny (cT hv) h;rw[rev_rev,eD]at h1;exact h1
def nz (hv:Valid b):an (aT b) (aj (aT b))=[]↔an b (aj b)=[]:=by
 constructor
 .intro h;cases hL:an b (aj b)with
  |nil=>rfl
  |cons t l=>
   have:=ny hv (t:=t) (by rw[hL];exact zBL);rw[h]at this;cases this
 .intro h;cases hL:an (aT b) (aj (aT b))with
  |nil=>rfl
  |cons t l=>
   have:=rX hv (t:=t) (by rw[hL];exact zBL);rw[h]at this;cases this
def IS (lo:Int):∀n:Nat,(span lo n).Pairwise (·<·)
 |0=>List.Pairwise.nil
 |n+1=>by
  rw[span];refine List.Pairwise.cons (λy hy=>?_) (IS (lo+1) n);have:=vF hy;omega
def wv (ag:(Nat->Int)->Bool) (l:List Part):∀(n i:Nat) (t:Nat->Int),i+n=l.length->(di ag l n i t).Pairwise (·≠·)
 |0,i,t,_=>by
  unfold di;split
  .exact zFR _ _
  .exact List.Pairwise.nil
 |n+1,i,t,h=>by
  unfold di;split
  .rename_i x hx;refine List.pairwise_flatMap.2 ⟨λk _=>wv ag l n (i+1) _ (by omega),zFT (λ{k k'} hk y hy z hz e=>?_) (IS _ _)⟩;subst e;have h1:=((nh n (i+1) _ y (by omega)).1 hy).2.1 i (by omega);have h2:=((nh n (i+1) _ y (by omega)).1 hz).2.1 i (by omega);rw[bO]at h1 h2;omega
  .exact List.Pairwise.nil
def Sq {t':Nat->Int} (h:∀i,n<=i->t i=0) (h':∀i,n<=i->t' i=0) (e:pv n t=pv n t'):t=t':=by
 have:=zBB (pv n) e;rwa [t7 h,t7 h']at this
def qN (hv:Valid b):(an b (aj b)).length<=(an (aT b) (aj (aT b))).length:=by
 have h0:(an b (aj b)).Pairwise (·≠·):=wv _ _ _ _ _ (by omega)
 have h1:((an b (aj b)).map (pv b.ptz.length)).Nodup:=by
  refine zFS.2 (zFQ (λ{x y} hx hy tH e=>tH (Sq (rW hx) (rW hy) e)) h0)
 have h2:=h1.length_le_of_subset (l₂:=an (aT b) (aj (aT b))) λx hx=>by
  obtain⟨o,ho,rfl⟩:=zBO.1 hx;exact ny hv ho
 simpa using h2
def KU (hv:Valid b):(an (aT b) (aj (aT b))).length=(an b (aj b)).length:=by
 have h1:=qN hv;have h2:=qN (cT hv);rw[rev_rev]at h2;exact Nat.le_antisymm h2 h1
def ze (hv:Valid b) (hL:an b (aj b)≠ []) (h:cO b o):
 pg b.ah.toNat (an (aT b) (aj (aT b))) (ac (iN b.ptz.length o))=pg b.ah.toNat (an b (aj b)) (ac o)/\
 kN b.ah.toNat (an (aT b) (aj (aT b))) (ac (iN b.ptz.length o))=kN b.ah.toNat (an b (aj b)) (ac o):=by
 obtain⟨h1,⟨t1,m1,e1⟩,⟨t2,m2,e2⟩⟩:=yX (N:=b.ah.toNat) hL (ac o);have Us:an (aT b) (aj (aT b))≠ []:=λe=>hL ((nz hv).1 e);obtain⟨g1,⟨s1,n1,f1⟩,⟨s2,n2,f2⟩⟩:=yX (N:=b.ah.toNat) Us (ac (iN b.ptz.length o))
 have k:∀t∈an (aT b) (aj (aT b)),aG (ac (iN b.ptz.length o)) t b.ah.toNat=aG (ac o) (pv b.ptz.length t) b.ah.toNat:=λt ht=>by
  have:=rV hv h (pv b.ptz.length t);rwa [t7 (by have:=rW ht;rwa [eD]at this)]at this
 have a1:=g1 _ (ny hv m1);have a2:=g1 _ (ny hv m2);rw[rV hv h]at a1 a2;have a3:=h1 _ (rX hv n1);have a4:=h1 _ (rX hv n2);rw[<-k s1 n1]at a3;rw[<-k s2 n2]at a4;omega
def jG:m∈aV b (an b (aj b))↔∃o∈aM b b.ah.toNat,m=ac o/\kN b.ah.toNat (an b (aj b)) (ac o)<=b.ak:=by
 unfold aV;rw[fp,zCG,zBO];constructor
 .rintro⟨⟨o,ho,rfl⟩,h⟩;exact⟨o,ho,rfl,zEK h⟩
 .rintro⟨o,ho,rfl,h⟩;exact⟨⟨o,ho,rfl⟩,zDS h⟩
def qO (hv:Valid b) (hL:an b (aj b)≠ []) (ho:o∈aM b b.ah.toNat) (h:ac o∈aV b (an b (aj b))):ac (iN b.ptz.length o)∈aV (aT b) (an (aT b) (aj (aT b))):=by
 refine jG.2 ⟨_,wi hv ho,rfl,?_⟩;have j6:=ik hv ho;rw[show(aT b).ah=b.ah from rfl,(ze hv hL j6).2];have:=(zCG.1 h).2;exact zEK this
def px (hv:Valid b) (hL:an b (aj b)≠ []) (h:aV (aT b) (an (aT b) (aj (aT b)))=[]):aV b (an b (aj b))=[]:=by
 cases hS:aV b (an b (aj b))with
 |nil=>rfl
 |cons t l=>
  have ht:t∈aV b (an b (aj b)):=by rw[hS];exact zBL
  obtain⟨o,ho,rfl,_⟩:=jG.1 ht;have:=qO hv hL ho ht;rw[h]at this;cases this
def kP (hv:Valid b):bP (aT b)=bP b/\aR (aT b) 0=aR b 0:=by
 have h1:=bd.2 hv;have h2:=bd.2 (cT hv);by_cases hL:an b (aj b)=[]
 .have a:=jY h1 hL;have a':=jY h2 ((nz hv).2 hL);exact⟨by rw[jF a,jF a'],by rw[a,a']⟩
 .have Us:an (aT b) (aj (aT b))≠ []:=λe=>hL ((nz hv).1 e);have a:=iM h1 hL;have a':=iM h2 Us;refine⟨?_,by rw[a,a']⟩;unfold bP;rw[zAF a,zAF a'];by_cases hS:aV b (an b (aj b))=[]
  .have h3:=px (cT hv) Us;rw[rev_rev]at h3;rw[zAF hS,zAF (h3 hS)]
  .rw[zAG hS,zAG λe=>hS (px hv hL e)]
def IT {x:Nat->Int} (hx:x∈aV b (an b (aj b))):k (dW (k::ks) (aV b (an b (aj b))))<=k x:=by
 have h:=(Sa (ks:=k::ks) (DS b _) hx).1;unfold bc at h;split at h
 .cases h
 .omega
def Ef (hv:Valid b) {k':(Nat->Int)->Int} {ks':List ((Nat->Int)->Int)} (hk:∀o∈aM b b.ah.toNat,k' (ac (iN b.ptz.length o))=k (ac o)):
 fw (aT b) (k'::ks') k'=fw b (k::ks) k:=by
 have hb:=(kP hv).1;unfold fw;rw[hb];by_cases h0:bP b=0
 .rw[zAF h0,zAF h0]
  have hL:an b (aj b)≠ []:=λe=>by
   rw[jF (jY (bd.2 hv) e)]at h0;omega
  have hS:aV b (an b (aj b))≠ []:=λe=>by
   unfold bP at h0;rw[zAF (iM (bd.2 hv) hL),zAF e]at h0;omega
  have Us:an (aT b) (aj (aT b))≠ []:=λe=>hL ((nz hv).1 e);have hS':aV (aT b) (an (aT b) (aj (aT b)))≠ []:=λe=>hS (px hv hL e);unfold Oj;have m1:=lH (ks:=k::ks) hS;have m2:=lH (ks:=k'::ks') hS';obtain⟨o,ho,e,_⟩:=jG.1 m1;obtain⟨o',BQ,e',_⟩:=jG.1 m2;have a1:=IT (k:=k') (ks:=ks') (qO hv hL ho (by rw[<-e];exact m1));rw[hk o ho,<-e]at a1;have hr:=wi (cT hv) BQ;rw[rev_rev,eD]at hr;have j8:=qO (cT hv) Us BQ (by rw[<-e'];exact m2);rw[rev_rev,eD]at j8;have a2:=IT (k:=k) (ks:=ks) j8;have a3:=hk _ hr;rw[t6,<-e']at a3;omega
 .rw[zAG h0,zAG h0]
def Eg:∀{N:Nat},(∀i,i<N->0<=m i/\m i<=(b.ptz.length:Int)-1)->dt (aT b) (λi=>lX b.ptz.length (m i)) N=dt b m N
 |0,_=>rfl
 |N+1,h=>by rw[dt,dt,Eg λi hi=>h i (by omega),D9 (h N (by omega))]
def qP:∀{N:Nat},(∀i,i<N->m i=m' i)->dt b m N=dt b m' N
 |0,_=>rfl
 |N+1,h=>by rw[dt,dt,qP λi hi=>h i (by omega),h N (by omega)]
def KV (hv:Valid b) (ho:o∈aM b b.ah.toNat):cG (aT b) (ac (iN b.ptz.length o))=cG b (ac o):=by
 have j6:=ik hv ho;have hl:=qM hv j6;unfold cG;rw[show(aT b).ah=b.ah from rfl,qP (m':=λi=>lX b.ptz.length (ac o i)) λi hi=>pw (by omega)];exact Eg λi hi=>Bd j6 (by omega)
def Om {l:List Int} (h:ni l r):ni (iN n l) (iN n r).reverse:=by
 refine⟨?_,λy=>?_⟩
 .rw[List.pairwise_reverse];refine zFS.2 (zFT (λ{x y} tH=>?_) h.1);unfold lX;omega
 .rw[List.mem_reverse];unfold iN;rw[zBO,zBO];exact⟨λ⟨x,hx,e⟩=>⟨x,(h.2 x).1 hx,e⟩,λ⟨x,hx,e⟩=>⟨x,(h.2 x).2 hx,e⟩⟩
def KW (hv:Valid b) (ho:o∈aM b b.ah.toNat):dX (aT b) (ac (iN b.ptz.length o))=dX b (ac o):=by
 have j6:=ik hv ho;have hl:=qM hv j6;have h1:=Ee (lM o);have h2:=Ee (Om (n:=b.ptz.length) (lM o));rw[lL,List.length_reverse,lL,<-h1,hl]at h2;unfold dX;rw[show(aT b).ah=b.ah from rfl,h2]
def Sr {j:Nat} (hj:j<n) (s:Nat->Int) (v:Int):pv n (upd s j v)=upd (pv n s) (n-1-j) v:=by
 funext i;show(if i<n then(if n-1-i=j then v else s (n-1-i))else 0)=if i=n-1-j then v else(if i<n then s (n-1-i)else 0)
 by_cases hi:i<n
 .rw[zAF hi,zAF hi];by_cases e:n-1-i=j
  .rw[zAF e,zAF (by omega)]
  .rw[zAG e,zAG (by omega)]
 .rw[zAG hi,zAG hi,zAG (by omega)]
def sY:∀{N:Nat},(∀i,i<N->0<=m i/\m i<=(n:Int)-1)->au (pv n s) (λi=>lX n (m i)) N=(au s m N).map (pv n)
 |0,_=>rfl
 |N+1,h=>by
  have h1:=h N (by omega);rw[au,au,sY λi hi=>h i (by omega)];cases hw:au s m N with
  |none=>rfl
  |some r=>
   simp only[zBA];have e1:(lX n (m N)).toNat=n-1-(m N).toNat:=by unfold lX;omega
   have e2:pv n r (n-1-(m N).toNat)=r (m N).toNat:=by
    unfold pv;rw[zAF (by omega)];congr 1;omega
   rw[e1,e2];split
   .rfl
   .rw[zBA,Sr (by omega)]
def lY:∀{N:Nat},(∀i,i<N->m i=m' i)->au s m N=au s m' N
 |0,_=>rfl
 |N+1,h=>by rw[au,au,lY λi hi=>h i (by omega),h N (by omega)]
def nA (hv:Valid b) (hL:an b (aj b)≠ []):∀(k:Nat) (s:Nat->Int),total s<k->
 ci b.ah.toNat (aV b (an b (aj b))) s<=ci b.ah.toNat (aV (aT b) (an (aT b) (aj (aT b)))) (pv b.ptz.length s)
 |0,s,h=>absurd h (zEG _)
 |k+1,s,h=>by
  have hp:=hv.ah;have hN:1<=b.ah.toNat:=by omega
  rcases KO hN (wu hv _) s with e|⟨m,hm,r,hr,e⟩
  .rw[e];exact zAM _
  .obtain⟨o,ho,rfl,_⟩:=jG.1 hm;have j6:=ik hv ho;have hl:=qM hv j6;have h1:=du (wu hv _ _ hm) hr;have h2:=nA hv hL k r (by omega)
   have h3:au (pv b.ptz.length s) (ac (iN b.ptz.length o)) b.ah.toNat=some (pv b.ptz.length r):=by
    rw[lY (m':=λi=>lX b.ptz.length (ac o i)) λi hi=>pw (by omega),sY λi hi=>Bd j6 (by omega),hr];rfl
   have h4:=KM hN (wu (cT hv) _) (qO hv hL ho hm) h3;omega
def KX (b:ab):cB (aT b) b.ptz.length=pv b.ptz.length (cB b b.ptz.length):=by
 funext i;show cB (aT b) b.ptz.length i=if i<b.ptz.length then cB b b.ptz.length (b.ptz.length-1-i)else 0
 unfold cB;by_cases hi:i<b.ptz.length
 .rw[zAF hi,zAF hi,zAF (by omega),lK hi]
 .rw[zAG hi,zAG hi]
def GM (hv:Valid b):gT (aT b)=gT b:=by
 have hb:=(kP hv).2;unfold gT;rw[hb];by_cases h0:aR b 0=0
 .have hL:an b (aj b)≠ []:=λe=>by rw[jY (bd.2 hv) e]at h0;omega
  have Us:an (aT b) (aj (aT b))≠ []:=λe=>hL ((nz hv).1 e);rw[zAF h0,zAF h0,eD,KX];have h1:=nA hv hL _ (cB b b.ptz.length) (zCE _);have h2:=nA (cT hv) Us _ (pv b.ptz.length (cB b b.ptz.length)) (zCE _);rw[rev_rev,eD,t7 λi hi=>by unfold cB;rw[zAG (by omega)]]at h2;exact Nat.le_antisymm h2 h1
 .rw[zAG h0,zAG h0]
def Oo {bit:Nat->Bool} {p:Nat} {f:Nat->Int} (h:Good (aT b) bit p n f):Good b bit p n (λq=>lX b.ptz.length (f q)):=λq h1 h2 h3=>by
 obtain⟨a1,a2⟩:=h q h1 h2 h3;exact⟨Sj a1,λhq hb ha=>a2 hq hb (GK ha)⟩
def oD {m:Nat} (h:bZ (aT b) m=false):bZ b m=false:=by
 rw[<-Bc,zd]at h⊢;obtain⟨f,hf⟩:=h;exact⟨_,Oo hf⟩
def zf (b:ab) (m:Nat):bZ (aT b) m=bZ b m:=by
 have h1:=oD (b:=b) (m:=m);have h2:=oD (b:=aT b) (m:=m);rw[rev_rev]at h2;cases h3:bZ (aT b) m with
 |false=>rw[h1 h3]
 |true=>
  cases h4:bZ b m with
  |false=>rw[h2 h4]at h3;cases h3
  |true=>rfl
def Oq {m:Nat} (h:Gm (aT b) m):Gm b m:=
 ⟨h.lt,by rw[<-zf];exact h.none,λm' h1 h2=>h.least m' h1 (by rw[zf];exact h2)⟩
def Su (hv:Valid b) (h:A9 (aT b) r):A9 b r:=by
 have h1:=bd.2 hv;have h2:=bd.2 (cT hv)
 have h3:aB (aT b)=[]↔aB b=[]:=by
  rw[<-List.length_eq_zero_iff,<-List.length_eq_zero_iff,qK hv]
 refine⟨λe=>absurd h1 e,λ_ e=>h.2.1 h2 (λe2=>e (h3.1 e2)),λ_ e=>?_⟩;obtain⟨m,hm,e2⟩:=h.2.2 h2 (h3.2 e);exact⟨m,Oq hm,e2⟩
end Go.Proofs.Cz
namespace Go.Proofs.Cz
open Go.RowKit
def A9.eq {b:ab} {r r':List Int} (h:A9 b r) (h':A9 b r'):r=r':=by
 by_cases h0:aU b=0
 .by_cases hm:aB b=[]
  .obtain⟨m,h1,rfl⟩:=h.2.2 h0 hm;obtain⟨m',h2,rfl⟩:=h'.2.2 h0 hm;rw[Sp (bd.1 h0) h1 h2]
  .rw[h.2.1 h0 hm,h'.2.1 h0 hm]
 .rw[h.1 h0,h'.1 h0]
end Go.Proofs.Cz
end
