/- BuildChoices returns true, whatever the book, whatever the schedule. Conditions: none. -/
import Derived.Test.YtddlcmejelobdaaGreatDoorT51
import Derived.Deep.OwnRows
import Derived.Test.YtddlcmejelobdaaGreatDoorT22
import Derived.ProofKit
import Derived.Deep.Slices
import Derived.Test.YtddlcmejelobdaaGreatDoorRows
import Derived.LaidMore
import Derived.Stop.Joined
import Derived.OpenShut
import Derived.Test.YtddlcmejelobdaaGreatDoorTie
import Derived.Test.YtddlcmejelobdaaGreatDoorCards
set_option linter.all false
set_option maxHeartbeats 8000000
set_option maxRecDepth 100000
noncomputable section
namespace Go.Proofs.Cz
open Go.RowKit
variable {L M:List (List Int)} {P j k:Nat} {b:aj} {fs:List fu} {ks:List ((Nat->Int)->Int)} {l o x:List Int} {m r s t0:Nat->Int} {v:fu} {w w':nq}
def dc (w:nq):ah w (.slice none 0 0) []:=⟨none,0,⟨rfl,zAA _,zAJ _,λ_=>rfl,λb hb=>by cases hb⟩,λb hb=>by cases hb⟩
open Classical in
def aI (b:aj):Int:=if aT b 0=0 then if ar b (an b (ao b))=[]then 8 else 0 else aT b 0
def Jf (b:aj) (ks:List ((Nat->Int)->Int)):Nat->Int:=ei ks (ar b (an b (ao b)))
def dw (b:aj) (ks:List ((Nat->Int)->Int)):List Int:=if aI b=0 then ac b.aq.toNat (Jf b ks)else []
def cP (b:aj) (ks:List ((Nat->Int)->Int)) (val:(Nat->Int)->Int):Int:=if aI b=0 then val (Jf b ks)else 0
def ou (b:aj):List Int:=if aI b=0 then cV b.aq.toNat (ar b (an b (ao b))) b.ptz.length else []
def gu (b:aj):Nat:=if aT b 0=0 then aY b.aq.toNat (ar b (an b (ao b))) (ci b b.ptz.length)else 0
def mX (w:nq) (l:List Int) (v:fu) (s:Int) (e:Ending) (w':nq):Prop:=(∃u,e=.returned (.tuple #[u,v,.int .i64 s])/\ah w' u l)/\Below w.heap.size w w'
def tL (w:nq) (l:List Int) (s:Int) (e:Ending) (w':nq):Prop:=(∃u,e=.returned (.tuple #[u,.int .i64 s])/\ah w' u l)/\Below w.heap.size w w'
def rK (h:bE b=0) (hL:an b (ao b)=[]):aT b 0=9:=by unfold aT;rw[zAE h,zAE rfl,zAE (lJ.1 hL)]
def eQ (h:bE b=0) (hL:an b (ao b)≠ []):aT b 0=0:=by unfold aT;rw[zAE h,zAE rfl,zAG (λh=>hL (lJ.2 h))]
def Ep (h:bE b≠0):aT b 0=bE b:=by unfold aT;rw[zAG h]
def mE (h:aT b 0=9):aI b=9:=by unfold aI;rw[h,zAG (by decide)]
def mF (h:aT b 0=0) (hS:ar b (an b (ao b))=[]):aI b=8:=by unfold aI;rw[zAE h,zAE hS]
def mG (h:aT b 0=0) (hS:ar b (an b (ao b))≠ []):aI b=0:=by unfold aI;rw[zAE h,zAG hS]
def jw (h:bE b≠0):aI b=bE b:=by unfold aI;rw[Ep h,zAG h]
def iA (w:nq) (v:fu) (b:aj) (s:Int) (hb:az w v b) (I4:s≠0) (ow:∀X,Below w.heap.size w X->Calls ZP 51 #[v,.func (.func 52) #[] #[]] X (cg X (.tuple #[js,.int .i64 s]))):
 Calls ZP 65 #[v] w (cg w (.tuple #[js,.slice none 0 0,.int .i64 s])):=by
 obtain⟨a2,c2,a3,c3,a4,c4,rfl⟩:=hb.db;obtain⟨A1,aZ⟩:=ex1 (w.alloc (.cells (bx b a2 c2 a3 c3 a4 c4) 26));obtain⟨A2,cL⟩:=ex1 (A1.alloc (.cells #[.int .i64 0,.int .i64 0,.slice none 0 0,.slice none 0 0,.slice none 0 0,.slice none 0 0] 81));have gE:=snew aZ;have B1:=bnewk aZ cL;have PH:=bnew2 cL gE;have HW:=wnew2 aZ cL;have z0:=B1.o.cell 0 rfl;have z1:=B1.o.cell 1 rfl;have z2:=B1.o.cell 2 rfl;have z3:=B1.o.cell 3 rfl;have z4:=B1.o.cell 4 rfl;have hO:=ow A2 HW.o;go_enter ZF65,Tryz.ntmps65
 go_wp2_with fail
 refine hO.mono ?_;rintro e w1 ⟨rfl,bJ⟩;have cO:=HW.t bJ;have Uv:=hidb PH bJ;have zhf:=Uv.o.lt;obtain⟨W,hW⟩:=ex1 (w1.alloc (.cells #[.int .i64 0,.int .i64 0,.slice none 0 0,.slice none 0 0,.slice none 0 0,.slice none 0 0] 81));have B5:=knew hW;have dD:=(bnew hW).o;have iu:=B5.box Uv.o (by simp);have t0:=iu.cell 0 rfl;have f0:=iu.aH 0;have s0:=dD.cell 0 rfl;have g0:=dD.aH 0;have e0:=dD.same (i:=0) (v:=.int .i64 0) rfl;have d0:=iu.same (i:=0) (v:=.int .i64 0) rfl;have t1:=iu.cell 1 rfl;have f1:=iu.aH 1;have s1:=dD.cell 1 rfl;have g1:=dD.aH 1;have e1:=dD.same (i:=1) (v:=.int .i64 0) rfl;have d1:=iu.same (i:=1) (v:=.int .i64 0) rfl;have t2:=iu.cell 2 rfl;have f2:=iu.aH 2;have s2:=dD.cell 2 rfl;have g2:=dD.aH 2;have e2:=dD.same (i:=2) (v:=.slice none 0 0) rfl;have d2:=iu.same (i:=2) (v:=.slice none 0 0) rfl;have t3:=iu.cell 3 rfl;have f3:=iu.aH 3;have s3:=dD.cell 3 rfl;have g3:=dD.aH 3;have e3:=dD.same (i:=3) (v:=.slice none 0 0) rfl;have d3:=iu.same (i:=3) (v:=.slice none 0 0) rfl;have t4:=iu.cell 4 rfl;have f4:=iu.aH 4;have s4:=dD.cell 4 rfl;have g4:=dD.aH 4;have e4:=dD.same (i:=4) (v:=.slice none 0 0) rfl;have d4:=iu.same (i:=4) (v:=.slice none 0 0) rfl;have t5:=iu.cell 5 rfl;have f5:=iu.aH 5;have s5:=dD.cell 5 rfl;have g5:=dD.aH 5;have e5:=dD.same (i:=5) (v:=.slice none 0 0) rfl;have d5:=iu.same (i:=5) (v:=.slice none 0 0) rfl;go_wp2
 refine bodyPost_ret (v:=.tuple #[js,.slice none 0 0,.int .i64 s]) ?_ rfl ⟨rfl,cO.o.trans (B5.below (by simp) cO.o.size)⟩;rw[fg rfl];go_simp
def uq (w:nq) (v:fu) (b:aj) (s:Int) (hb:az w v b) (I4:s≠0) (ow:∀X,Below w.heap.size w X->Calls ZP 65 #[v] X (cg X (.tuple #[js,.slice none 0 0,.int .i64 s]))):
 Calls ZP 19 #[v] w (cg w (.tuple #[.slice none 0 0,.int .i64 0,.int .i64 s])):=by
 obtain⟨a2,c2,a3,c3,a4,c4,rfl⟩:=hb.db;obtain⟨A1,aZ⟩:=ex1 (w.alloc (.cells (bx b a2 c2 a3 c3 a4 c4) 26));have B1:=hid (cF aZ);have HW:=hid ((bG aZ).below (by simp) (zAA _));have z0:=B1.o.cell 0 rfl;have z1:=B1.o.cell 1 rfl;have z2:=B1.o.cell 2 rfl;have z3:=B1.o.cell 3 rfl;have z4:=B1.o.cell 4 rfl;have hO:=ow A1 HW.o;go_enter ZF19,Tryz.ntmps19
 go_wp2_with fail
 refine hO.mono ?_;rintro e w1 ⟨rfl,bJ⟩;have cO:=HW.t bJ;go_wp2_with fail
 refine bodyPost_ret (v:=.tuple #[.slice none 0 0,.int .i64 0,.int .i64 s]) ?_ rfl ⟨rfl,cO.o.alloc cO.o.size _⟩;rw[results_tmp3 rfl];rfl
def xY (w:nq) (v:fu) (b:aj) (s:Int) (hb:az w v b) (I4:s≠0) (ow:∀X,Below w.heap.size w X->Calls ZP 65 #[v] X (cg X (.tuple #[js,.slice none 0 0,.int .i64 s]))):
 Calls ZP 16 #[v] w (cg w (.tuple #[.slice none 0 0,.int .i64 0,.int .i64 s])):=by
 obtain⟨a2,c2,a3,c3,a4,c4,rfl⟩:=hb.db;obtain⟨A1,aZ⟩:=ex1 (w.alloc (.cells (bx b a2 c2 a3 c3 a4 c4) 26));have B1:=hid (cF aZ);have HW:=hid ((bG aZ).below (by simp) (zAA _));have z0:=B1.o.cell 0 rfl;have z1:=B1.o.cell 1 rfl;have z2:=B1.o.cell 2 rfl;have z3:=B1.o.cell 3 rfl;have z4:=B1.o.cell 4 rfl;have hO:=ow A1 HW.o;go_enter ZF16,Tryz.ntmps16
 go_wp2_with fail
 refine hO.mono ?_;rintro e w1 ⟨rfl,bJ⟩;have cO:=HW.t bJ;go_wp2_with fail
 refine bodyPost_ret (v:=.tuple #[.slice none 0 0,.int .i64 0,.int .i64 s]) ?_ rfl ⟨rfl,cO.o.alloc cO.o.size _⟩;rw[results_tmp3 rfl];rfl
def Bp (w:nq) (v:fu) (b:aj) (s:Int) (hb:az w v b) (I4:s≠0) (ow:∀X,Below w.heap.size w X->Calls ZP 65 #[v] X (cg X (.tuple #[js,.slice none 0 0,.int .i64 s]))):
 Calls ZP 23 #[v] w (cg w (.tuple #[.slice none 0 0,.int .i64 s])):=by
 obtain⟨a2,c2,a3,c3,a4,c4,rfl⟩:=hb.db;obtain⟨A1,aZ⟩:=ex1 (w.alloc (.cells (bx b a2 c2 a3 c3 a4 c4) 26));have B1:=hid (cF aZ);have HW:=hid ((bG aZ).below (by simp) (zAA _));have z0:=B1.o.cell 0 rfl;have z1:=B1.o.cell 1 rfl;have z2:=B1.o.cell 2 rfl;have z3:=B1.o.cell 3 rfl;have z4:=B1.o.cell 4 rfl;have hO:=ow A1 HW.o;go_enter ZF23,Tryz.ntmps23
 go_wp2_with fail
 refine hO.mono ?_;rintro e w1 ⟨rfl,bJ⟩;have cO:=HW.t bJ;go_wp2_with fail
 go_ret2;exact⟨rfl,cO.o.alloc cO.o.size _⟩
def xZ (w:nq) (v:fu) (b:aj) (s:Int) (hb:az w v b) (I4:s≠0) (ow:∀X,Below w.heap.size w X->Calls ZP 51 #[v,.func (.func 52) #[] #[]] X (cg X (.tuple #[js,.int .i64 s]))):
 Calls ZP 10 #[v] w (cg w (.tuple #[.int .i64 0,.int .i64 s])):=by
 obtain⟨a2,c2,a3,c3,a4,c4,rfl⟩:=hb.db;obtain⟨A1,aZ⟩:=ex1 (w.alloc (.cells (bx b a2 c2 a3 c3 a4 c4) 26));have B1:=hid (cF aZ);have HW:=hid ((bG aZ).below (by simp) (zAA _));have z0:=B1.o.cell 0 rfl;have z1:=B1.o.cell 1 rfl;have z2:=B1.o.cell 2 rfl;have z3:=B1.o.cell 3 rfl;have z4:=B1.o.cell 4 rfl;have hO:=ow A1 HW.o;go_enter ZF10,Tryz.ntmps10
 go_wp2_with fail
 refine hO.mono ?_;rintro e w1 ⟨rfl,bJ⟩;have cO:=HW.t bJ;go_wp2_with fail
 go_ret2;exact⟨rfl,cO.o.alloc cO.o.size _⟩
def ur (w:nq) (v:fu) (b:aj) (s:Int) (hb:az w v b) (I4:s≠0) (ow:∀X,Below w.heap.size w X->Calls ZP 65 #[v] X (cg X (.tuple #[js,.slice none 0 0,.int .i64 s]))):
 Calls ZP 21 #[v] w (cg w (.tuple #[.slice none 0 0,.agg #[.int .i64 0,.int .i64 0],.int .i64 s])):=by
 obtain⟨a2,c2,a3,c3,a4,c4,rfl⟩:=hb.db;obtain⟨A0,DP⟩:=ex1 (w.alloc (.cells (bx b a2 c2 a3 c3 a4 c4) 26));obtain⟨A1,aZ⟩:=ex1 (A0.alloc (.cells #[.int .i64 0,.int .i64 0] 34));have gE:=snew DP;have B1:=bnewk DP aZ;have BR:=bnew2 aZ gE;have HW:=wnew2 DP aZ;have z0:=B1.o.cell 0 rfl;have z1:=B1.o.cell 1 rfl;have z2:=B1.o.cell 2 rfl;have z3:=B1.o.cell 3 rfl;have z4:=B1.o.cell 4 rfl;have hO:=ow A1 HW.o;go_enter ZF21,Tryz.ntmps21
 go_wp2_with fail
 refine hO.mono ?_;rintro e w1 ⟨rfl,bJ⟩;have cO:=HW.t bJ;have GV:=hid bJ;obtain⟨W,hW⟩:=ex1 (w1.alloc (.cells #[.int .i64 0,.int .i64 0,.slice none 0 0,.slice none 0 0,.slice none 0 0,.slice none 0 0] 81));have B5:=knew hW;have HR:=B5.box (BR.o.below GV.o BR.o.lt) (by simp);have dD:=(bnew hW).o;have j9:=hid ((cO.o.trans (B5.below (by simp) cO.o.size):Below w.heap.size w W));obtain⟨t0,t1⟩:=HR.c2;have f0:=HR.aH 0;have f1:=HR.aH 1;have d0:=HR.same (i:=0) (v:=.int .i64 0) rfl;have d1:=HR.same (i:=1) (v:=.int .i64 0) rfl;have s0:=dD.c1;have g0:=dD.aH 0;have e0:=dD.same (i:=0) (v:=.int .i64 0) rfl;obtain⟨-,s1⟩:=dD.c2;have g1:=dD.aH 1;have e1:=dD.same (i:=1) (v:=.int .i64 0) rfl;obtain⟨-,-,s2⟩:=dD.c3;have g2:=dD.aH 2;have e2:=dD.same (i:=2) (v:=.slice none 0 0) rfl;obtain⟨-,-,-,s3⟩:=dD.c4;have g3:=dD.aH 3;have e3:=dD.same (i:=3) (v:=.slice none 0 0) rfl;obtain⟨-,-,-,-,s4⟩:=dD.c5;have g4:=dD.aH 4;have e4:=dD.same (i:=4) (v:=.slice none 0 0) rfl;obtain⟨-,-,-,-,-,s5⟩:=dD.c6;have g5:=dD.aH 5;have e5:=dD.same (i:=5) (v:=.slice none 0 0) rfl;go_wp2
 refine bodyPost_ret (v:=.tuple #[.slice none 0 0,.agg #[.int .i64 0,.int .i64 0],.int .i64 s]) ?_ rfl ⟨rfl,j9.o⟩;rw[gV rfl];go_simp
def Er (w:nq) (v:fu) (b:aj) (hb:az w v b) (hs:gU b) (hc:rz w):Calls ZP 16 #[v] w (mX w (dw b [cG b,aS b]) (.int .i64 (cP b [cG b,aS b] (cG b))) (aI b)):=by
 by_cases h0:bE b=0
 .have hv:=dN.1 h0;refine(GU w v b (ao b) hb hv hc (ja hb hv)).mono ?_;rintro e w' ⟨⟨hL,rfl⟩|⟨hL,hS,rfl⟩|⟨hL,hS,u,rfl,hu⟩,hB⟩
  .have h9:=mE (rK h0 hL);exact⟨⟨_,by simp only[cP,h9];first|done|rfl,by simp only[dw,h9];exact dc w'⟩,hB⟩
  .have h8:=mF (eQ h0 hL) hS;exact⟨⟨_,by simp only[cP,h8];first|done|rfl,by simp only[dw,h8];exact dc w'⟩,hB⟩
  .have OT:=mG (eQ h0 hL) hS;exact⟨⟨u,by simp only[cP,OT,zAE];first|done|rfl,by simp only[dw,OT,zAE];exact hu⟩,hB⟩
 .have hp:=jw h0;refine(xY w v b _ hb h0 λX hX=>iA X v b _ (hb.later (Kp.of hX)) h0 λY hY=>lI _ Y v b ((hb.later (Kp.of hX)).later (Kp.of hY)) hs ((hc.later hX).later hY) h0).mono ?_;rintro e w' ⟨rfl,hB⟩;exact⟨⟨_,by simp only[cP,hp,zAG h0];first|done|rfl,by simp only[dw,hp,zAG h0];exact dc w'⟩,hB⟩
def x9 (w:nq) (v:fu) (b:aj) (hb:az w v b) (hs:gU b) (hc:rz w):Calls ZP 19 #[v] w (mX w (dw b [aS b]) (.int .i64 (cP b [aS b] (aS b))) (aI b)):=by
 by_cases h0:bE b=0
 .have hv:=dN.1 h0;refine(Bh w v b (ao b) hb hv hc (ja hb hv)).mono ?_;rintro e w' ⟨⟨hL,rfl⟩|⟨hL,hS,rfl⟩|⟨hL,hS,u,rfl,hu⟩,hB⟩
  .have h9:=mE (rK h0 hL);exact⟨⟨_,by simp only[cP,h9];first|done|rfl,by simp only[dw,h9];exact dc w'⟩,hB⟩
  .have h8:=mF (eQ h0 hL) hS;exact⟨⟨_,by simp only[cP,h8];first|done|rfl,by simp only[dw,h8];exact dc w'⟩,hB⟩
  .have OT:=mG (eQ h0 hL) hS;exact⟨⟨u,by simp only[cP,OT,zAE];first|done|rfl,by simp only[dw,OT,zAE];exact hu⟩,hB⟩
 .have hp:=jw h0;refine(uq w v b _ hb h0 λX hX=>iA X v b _ (hb.later (Kp.of hX)) h0 λY hY=>lI _ Y v b ((hb.later (Kp.of hX)).later (Kp.of hY)) hs ((hc.later hX).later hY) h0).mono ?_;rintro e w' ⟨rfl,hB⟩;exact⟨⟨_,by simp only[cP,hp,zAG h0];first|done|rfl,by simp only[dw,hp,zAG h0];exact dc w'⟩,hB⟩
def bL (b:aj):(Nat->Int)->Int:=L9 b (an b (ao b))
def gv (b:aj):(Nat->Int)->Int:=loK b (an b (ao b))
def yc (w:nq) (v:fu) (b:aj) (hb:az w v b) (hs:gU b) (hc:rz w):Calls ZP 21 #[v] w (mX w (dw b [bL b]) (.agg #[.int .i64 (cP b [bL b] (gv b)),.int .i64 (cP b [bL b] (bL b))]) (aI b)):=by
 by_cases h0:bE b=0
 .have hv:=dN.1 h0;refine(Bl w v b (ao b) hb hv hc (ja hb hv)).mono ?_;rintro e w' ⟨⟨hL,rfl⟩|⟨hL,hS,rfl⟩|⟨hL,hS,u,rfl,hu⟩,hB⟩
  .have h9:=mE (rK h0 hL);exact⟨⟨_,by simp only[cP,h9];first|done|rfl,by simp only[dw,h9];exact dc w'⟩,hB⟩
  .have h8:=mF (eQ h0 hL) hS;exact⟨⟨_,by simp only[cP,h8];first|done|rfl,by simp only[dw,h8];exact dc w'⟩,hB⟩
  .have OT:=mG (eQ h0 hL) hS;exact⟨⟨u,by simp only[cP,OT,zAE];first|done|rfl,by simp only[dw,OT,zAE];exact hu⟩,hB⟩
 .have hp:=jw h0;refine(ur w v b _ hb h0 λX hX=>iA X v b _ (hb.later (Kp.of hX)) h0 λY hY=>lI _ Y v b ((hb.later (Kp.of hX)).later (Kp.of hY)) hs ((hc.later hX).later hY) h0).mono ?_;rintro e w' ⟨rfl,hB⟩;exact⟨⟨_,by simp only[cP,hp,zAG h0];first|done|rfl,by simp only[dw,hp,zAG h0];exact dc w'⟩,hB⟩
def Hf (w:nq) (v:fu) (b:aj) (hb:az w v b) (hs:gU b) (hc:rz w):Calls ZP 23 #[v] w (tL w (ou b) (aI b)):=by
 by_cases h0:bE b=0
 .have hv:=dN.1 h0;refine(KY w v b (ao b) hb hv hc (ja hb hv)).mono ?_;rintro e w' ⟨⟨hL,rfl⟩|⟨hL,hS,rfl⟩|⟨hL,hS,u,rfl,hu⟩,hB⟩
  .have h9:=mE (rK h0 hL);exact⟨⟨_,by simp only[tL,h9];first|done|rfl,by simp only[ou,h9];exact dc w'⟩,hB⟩
  .have h8:=mF (eQ h0 hL) hS;exact⟨⟨_,by simp only[tL,h8];first|done|rfl,by simp only[ou,h8];exact dc w'⟩,hB⟩
  .have OT:=mG (eQ h0 hL) hS;exact⟨⟨u,by simp only[tL,OT,zAE];first|done|rfl,by simp only[ou,OT,zAE];exact hu⟩,hB⟩
 .have hp:=jw h0;refine(Bp w v b _ hb h0 λX hX=>iA X v b _ (hb.later (Kp.of hX)) h0 λY hY=>lI _ Y v b ((hb.later (Kp.of hX)).later (Kp.of hY)) hs ((hc.later hX).later hY) h0).mono ?_;rintro e w' ⟨rfl,hB⟩;exact⟨⟨_,by simp only[tL,hp,zAG h0];first|done|rfl,by simp only[ou,hp,zAG h0];exact dc w'⟩,hB⟩
def Es (w:nq) (v:fu) (b:aj) (hb:az w v b) (hs:gU b) (hc:rz w):Calls ZP 10 #[v] w (cg w (.tuple #[.int .i64 (gu b:Nat),.int .i64 (aT b 0)])):=by
 by_cases h0:bE b=0
 .have hv:=dN.1 h0;refine(He w v b (ao b) hb hv hc (ja hb hv)).mono ?_;rintro e w' ⟨⟨hL,rfl⟩|⟨hL,rfl⟩,hB⟩
  .have ho:=rK h0 hL;exact⟨by unfold gu;rw[ho,zAG (by decide)];rfl,hB⟩
  .have ho:=eQ h0 hL;exact⟨by unfold gu;rw[ho,zAE rfl],hB⟩
 .have ho:=Ep h0;have I4:gu b=0:=by unfold gu;rw[zAG (by rw[ho];exact h0)]
  rw[I4,ho];exact xZ w v b _ hb h0 λX hX=>lI _ X v b (hb.later (Kp.of hX)) hs (hc.later hX) h0
def gO (b:aj):List (List Int):=iD b (an b (ao b)) (bF b b.aq.toNat)
def Bq {L:List (Nat->Int)} (ho:M[j]?=some o) (h:ir b.aq.toNat L (aa o)<=b.aB):iD b L (M.take (j+1))=iD b L (M.take j)++[o]:=by
 unfold iD;rw[zAX,ho,zCX];simp[h]
def Et {L:List (Nat->Int)} (ho:M[j]?=some o) (h:¬ir b.aq.toNat L (aa o)<=b.aB):iD b L (M.take (j+1))=iD b L (M.take j):=by
 unfold iD;rw[zAX,ho,zCX];simp[h]
def wT (w:nq) (L:List (List Int)) (fs:List fu):Prop:=fs.length=L.length/\∀(k:Nat) (l:List Int) (f:fu),L[k]?=some l->fs[k]?=some f->ah w f l/\oZ w f
def wT.nil (w:nq):wT w [] []:=⟨rfl,λk l f h=>by simp at h⟩
def wT.snoc {f:fu} (h:wT w L fs) (hf:ah w f l/\oZ w f):wT w (L++[l]) (fs++[f]):=by
 refine⟨by simp[h.1],λk x y hx hy=>?_⟩;by_cases e:k<L.length
 .rw[zBR e]at hx;rw[zBR (by rw[h.1];exact e)]at hy;exact h.2 k x y hx hy
 .rw[zDI (by omega)]at hx;rw[zDI (by have:=h.1;omega)]at hy;have hk:k-L.length=0:=by have:=(zAO.1 hx).1;simp at this;omega
  rw[hk]at hx;rw[show k-fs.length=0 by have:=h.1;omega]at hy;cases hx;cases hy;exact hf
def da.zcx {B n:Nat} (ho:w.ownsRow B 35 1 v n fs) (hn:L.length=n) (hf:wT w L fs):da w v L:=by
 subst hn;obtain⟨a,cap,h1,h2⟩:=Ja ho;refine⟨a,cap,h1,λd hd j l hl=>?_⟩;have hj:=(zAO.1 hl).1;have hjf:j<fs.length:=by rw[hf.1];exact hj
 have h3:=h2 d hd j (fs[j]) (zAI hjf);exact⟨fs[j],h3,hf.2 j l _ hl (zAI hjf)⟩
def wT.later (h:wT w L fs) (hk:Kp w w'):wT w' L fs:=⟨h.1,λk l f h1 h2=>⟨(h.2 k l f h1 h2).1.later hk,(h.2 k l f h1 h2).2.later hk⟩⟩
def tM (w:nq) (v vl:fu) (b:aj) (hb:az w v b) (hv:Valid b) (hl:cz w vl (eC b)) (bu:eC b≠ []):
 Calls ZP 81 #[v,vl] w (λe w'=>(∃u,e=.returned u/\da w' u (gO b))/\Below w.heap.size w w'):=by
 have HB:=hid hb;have HV:=hid hv;have HL:=hid hl;have Lp:=hid bu;obtain⟨S,PN⟩:=ex1 (gO b);have HN:Hid (iD b (an b (ao b)) ((bF b b.aq.toNat).take (bF b b.aq.toNat).length)=S):=by unfold Hid;rw[zBN];exact PN
 rw[PN];have tU:=hv.aq;have BU:=zAM (qj hv.ptz.many.2 _) (zDH (by omega) (show b.aq.toNat<=4 by omega));obtain⟨a2,c2,a3,c3,a4,c4,rfl⟩:=hb.db;obtain⟨i0,xg,m9,kd,lO⟩:=info_parts Bc;obtain⟨A1,aZ⟩:=ex1 (w.alloc (.cells (bx b a2 c2 a3 c3 a4 c4) 26));have B1:=hid (cF aZ);have HW:=hid ((bG aZ).below (by simp) (zAA _));have z0:=B1.o.cell 0 rfl;have z1:=B1.o.cell 1 rfl;have z2:=B1.o.cell 2 rfl;have z3:=B1.o.cell 3 rfl;have z4:=B1.o.cell 4 rfl;obtain⟨M,hM⟩:=ex1 (bF b b.aq.toNat);have HM:=hid hM;rw[hM]at BU HN;go_enter ZF81,Tryz.ntmps81
 go_wp2_with(go_at_call 58
             refine(Bd A1 _ b (HB.o.later (Kp.of HW.o)) HV.o).mono ?_;rintro e wc ⟨⟨vc,rfl,hvc⟩,hbc⟩;rw[HM.o]at hvc;obtain⟨ma,mc,uN,L6⟩:=hvc;obtain rfl:=uN.eq;have HME:Hid (bi wc (.slice ma M.length mc) M.length ma mc/\∀d,ma=some d->∀(j:Nat) (l:List Int),M[j]?=some l->∃vf,At wc d j vf/\ah wc vf l/\oZ wc vf):=⟨uN,L6⟩
             have hmc:=uN.le;have Ze:=hid hbc)
 have KZ:=HW.t Ze.o;go_loopw [7,6] (λi out wr=>∃(j:Nat) (ov:fu),j<=M.length/\i=.int .i64 j/\ov=out/\Hid (∃fs,wr.ownsRow wc.heap.size 35 1 ov (kJ b (an b (ao b)) M j) fs/\wT wc (iD b (an b (ao b)) (M.take j)) fs)/\Hid (Below wc.heap.size wc wr)) (λi _ _=>M.length-(intOf i).toNat)
 case atStart=>exact⟨0,_,zAJ _,rfl,rfl,⟨[],World.ownsRow_nil _ _ _ _,by rw[zGI];exact wT.nil _⟩,Below.refl _ _⟩
 case round=>
  obtain⟨j,ov,hj,rfl,rfl,hO,hB⟩:=hrel;obtain⟨fs,GO,hFF⟩:=hO.o;have HFF:=hid hFF;have HO:=hid GO;have mY:=G5 b (an b (ao b)) M j;by_cases au:j<M.length
  .obtain⟨⟨lb,lf,sp⟩,o,rfl,ho,vf,e0,ef⟩:=HME.o.1.elem HME.o.2 au;obtain rfl:sp=none:=e0.1;have XD:=hid ho;have kX:=sF HV.o (by rw[HM.o];exact zAT ho);have yp:o.length=b.aq.toNat:=by have:=kX.len;omega
   have HEF:=hid ef;have xP:=(e0.later (Kp.of hB.o)).2;have z0:=(B1.o.below (Ze.o.trans (hB.o.mono Ze.o.size)) B1.o.lt).cell 0 rfl;have wB:=KZ.t hB.o
   have c57:∀X:nq,Below wr.heap.size wr X->Calls ZP 74 #[vl,vf] X (cg X (.agg #[.int .i64 (wD b.aq.toNat (an b (ao b)) (aa o)),.int .i64 (ir b.aq.toNat (an b (ao b)) (aa o))])):=λX hX=>by
    have h:=tH X vl vf (eC b) o ((HL.o.later (Kp.of wB.o)).later (Kp.of hX)) ((ef.1.later (Kp.of hB.o)).later (Kp.of hX)) Lp.o (zAM (zu HV.o) (by decide)) (by omega) (λq hq=>(rI HV.o hq).2) (λq hq i x hx=>by
     have h1:=kX.range i x (zAO.1 hx).1 hx;have h2:=(rI HV.o hq).1;omega)
    rw[<-ql,yp]at h;exact h
   obtain⟨lo,tB⟩:=ex1 (wD b.aq.toNat (an b (ao b)) (aa o));obtain⟨hi,A9⟩:=ex1 (ir b.aq.toNat (an b (ao b)) (aa o));have Xv:=hid A9;rw[tB,A9]at c57;have Zv:(j:Int)<(M.length:Int):=by omega
   obtain⟨fa,fc,XA,_⟩:=ef.1;obtain rfl:=XA.eq;have zh2:Hid (ir b.aq.toNat (an b (ao b)) (aa o)<=b.aB->iD b (an b (ao b)) (M.take (j+1))=iD b (an b (ao b)) (M.take j)++[o]):=Bq ho;have zh3:Hid (¬ir b.aq.toNat (an b (ao b)) (aa o)<=b.aB->iD b (an b (ao b)) (M.take (j+1))=iD b (an b (ao b)) (M.take j)):=Et ho;have zh4:=hid c57;have HS:Hid (∀X:nq,Below wr.heap.size wr X->(X.cell? ⟨w.heap.size,0,none⟩=some (.int .i64 b.aB)/\X.cell? ⟨lb,lf+j,none⟩=some (.slice fa o.length fc))/\Below wr.heap.size wr X):=λX hX=>⟨⟨ak.cell ⟨X,hX⟩ z0,ak.cell ⟨X,hX⟩ xP⟩,hX⟩
   have xq:Hid (∀X:nq,((X.cell? ⟨w.heap.size,0,none⟩=some (.int .i64 b.aB)/\X.cell? ⟨lb,lf+j,none⟩=some (.slice fa o.length fc))/\Below wr.heap.size wr X)->Below wr.heap.size wr X):=λ_ h=>h.2;clear e0 XA ho kX yp xP z0 tB A9 c57;go_wp2_with fail
   have Xw:=λw=>jD w lo hi
   go_region_held3 (λX:nq=>(X.cell? ⟨w.heap.size,0,none⟩=some (.int .i64 b.aB)/\X.cell? ⟨lb,lf+j,none⟩=some (.slice fa o.length fc))/\Below wr.heap.size wr X)
    (first
      |with_reducible exact HS.o _ sI.o
      |exact HS.o _ (Below.drewN (Below.refl wr.heap.size wr) 1)
      |fail)
    (first
      |(go_at_call 74
        have hh:=xq.o _ (by assumption);refine(zh4.o _ hh).mono ?_;rintro e wq ⟨rfl,Lq⟩;have sI:=hid (hh.trans (Lq.mono hh.size));clear Lq hh))
   all_goals
    have hvq:=(HS.o wq sI.o).1.2;have eu:=hB.t sI.o;have HOq:=hid (aR HO.o λk hk=>sI.o.block k (av HO.o k hk).2);have zpi:=eu.o.size;by_cases hle:hi<=b.aB
    .have HG:=hid (El XD.o (by rw[Xv.o];exact hle))
     go_wp2_with(at_builtin
                 refine wpList_append_own _ rfl (.tmp 26) (.tmp 31) 98 rfl wc.heap.size 35 i0 (.slice none 0 0) 1 24 nZ xg m9 kd lO rfl (by decide) _ _ fs rfl (HOq.o.alloc _) ⟨_,0,none⟩ 1 1 [.slice fa o.length fc] rfl rfl (io _ _ _) (λu hu=>by simp at hu;subst hu;rfl) (by unfold maxLen;omega) (by omega) (by simp;omega) ?_;intro v3 w3 B6 wJ _;have Be:=hid B6;have gJ:=hid (Below.grown (eu.o.alloc eu.o.size _) wJ (by simp;omega) (ip HOq.o));clear B6 wJ)
     go_round
     case rel=>exact⟨j+1,_,by omega,by go_num,rfl,⟨_,by rw[HG.o];exact Be.o,by rw[zh2.o (by rw[Xv.o];exact hle)];exact HFF.o.snoc HEF.o⟩,gJ⟩
     case measure=>simp[intOf];omega
    .have HG:=hid (G6 XD.o (by rw[Xv.o];exact hle));go_wp2_with fail
     go_round
     case rel=>exact⟨j+1,_,by omega,by go_num,rfl,⟨fs,by rw[HG.o];exact HOq.o,by rw[zh3.o (by rw[Xv.o];omega)];exact HFF.o⟩,eu⟩
     case measure=>simp[intOf];omega
  .have e:j=M.length:=by omega
   subst e
   have XF:Hid (da wr ov S):=by
    have hf:=HFF.o.later (Kp.of hB.o);rw[HN.o]at hf;refine da.zcx HO.o ?_ hf;rw[<-HN.o];rfl
   have ke:=KZ.t hB.o;go_wp2_with fail
   go_ret;exact⟨⟨ov,rfl,XF.o⟩,ke.o⟩
def XP (w:nq) (b:aj) (e:Ending) (w':nq):Prop:=
 (∃u1 u2,e=.returned (.tuple #[u1,u2,.int .i64 (aI b)])/\(aI b=0->da w' u1 (gO b)/\cz w' u2 (eC b)/\Valid b/\eC b≠ []))/\Below w.heap.size w w'
def gP:gO b=(ar b (an b (ao b))).map (ac b.aq.toNat):=by
 have h:∀M:List (List Int),(∀o∈M,o.length=b.aq.toNat)->iD b (an b (ao b)) M=((M.map aa).filter λm=>decide (ir b.aq.toNat (an b (ao b)) m<=b.aB)).map (ac b.aq.toNat):=by
  intro M;induction M with
  |nil=>intro _;rfl
  |cons o M ih=>
   intro ho;have h1:=ih λx hx=>ho x (zAS _ hx);have h2:=tE (ho o zBW);unfold iD at h1⊢;rw[zDS];by_cases hd:decide (ir b.aq.toNat (an b (ao b)) (aa o)<=b.aB)=true
   .rw[List.filter_cons_of_pos (p:=λo=>decide (ir b.aq.toNat (an b (ao b)) (aa o)<=b.aB)) hd,List.filter_cons_of_pos (p:=λm=>decide (ir b.aq.toNat (an b (ao b)) m<=b.aB)) hd,zDS,h2,h1]
   .rw[List.filter_cons_of_neg (p:=λo=>decide (ir b.aq.toNat (an b (ao b)) (aa o)<=b.aB)) hd,List.filter_cons_of_neg (p:=λm=>decide (ir b.aq.toNat (an b (ao b)) m<=b.aB)) hd,h1]
 unfold gO ar;rw[jZ];exact h _ λo ho=>(iM ho).1
def kL (w:nq) (v:fu) (b:aj) (hb:az w v b) (hs:gU b):Calls ZP 70 #[v] w (XP w b):=by
 have HB:=hid hb;have HS:=hid hs;obtain⟨a2,c2,a3,c3,a4,c4,rfl⟩:=hb.db;obtain⟨A1,aZ⟩:=ex1 (w.alloc (.cells (bx b a2 c2 a3 c3 a4 c4) 26));have B1:=hid (cF aZ);have HW:=hid ((bG aZ).below (by simp) (zAA _));have z0:=B1.o.cell 0 rfl;have z1:=B1.o.cell 1 rfl;have z2:=B1.o.cell 2 rfl;have z3:=B1.o.cell 3 rfl;have z4:=B1.o.cell 4 rfl;go_enter ZF70,Tryz.ntmps70
 go_wp2_with fail
 refine(tG A1 _ b 0 (HB.o.later (Kp.of HW.o)) HS.o).mono ?_;rintro e w1 ⟨⟨vp,rfl,hn6,Zk⟩,bJ⟩;have cO:=hid bJ;have jd:=HW.t bJ;by_cases e:aT b 0=0
 .have X1:=B1.o.below cO.o B1.o.lt;have z0:=X1.cell 0 rfl;have z1:=X1.cell 1 rfl;have z2:=X1.cell 2 rfl;have z3:=X1.cell 3 rfl;have z4:=X1.cell 4 rfl;obtain⟨e1,_,e3⟩:=pA e;have HV:=hid (dN.1 e1);have HL6:=hid (Zk e);have Xs:=hid e3;have hS:=tM w1 _ vp b (HB.o.later (Kp.of jd.o)) HV.o (Zk e) e3;have HE:=hid e;have hlm:(gO b).length<=625:=by rw[gP,zEI];exact iy HV.o _
  have H8:Hid (aI b=if gO b=[]then 8 else 0):=by
   unfold Hid aI;rw[zAE e,gP];by_cases hm:ar b (an b (ao b))=[]
   .rw[zAE hm,zAE (by rw[hm];rfl)]
   .rw[zAG hm,zAG (by rwa [List.map_eq_nil_iff])]
  rw[e];by_cases hSL:gO b=[]
  .have H88:Hid (aI b=8):=by unfold Hid;rw[H8.o,zAE hSL]
   rw[hSL]at hS
   go_wp2_with(go_at_call 81
               refine hS.mono ?_;rintro e w2 ⟨⟨u,rfl,hu⟩,ib⟩;obtain⟨ua,uc,uR,_⟩:=hu;obtain rfl:=uR.eq;have eu:=jd.t ib)
   refine bodyPost_ret (v:=.tuple #[.slice none 0 0,.slice none 0 0,.int .i64 8]) ?_ rfl ⟨⟨_,_,by rw[H88.o],λh=>absurd h (by rw[H88.o];decide)⟩,eu.o⟩;rw[results_tmp3 rfl];rfl
  .have H80:Hid (aI b=0):=by unfold Hid;rw[H8.o,zAG hSL]
   have gC:(0:Int)<((gO b).length:Int):=by have:=zCY.2 hSL;omega
   go_wp2_with(go_at_call 81
               refine hS.mono ?_;rintro e w2 ⟨⟨u,rfl,hu⟩,ib⟩;have HU:=hid hu;obtain⟨ua,uc,uR,_⟩:=hu;obtain rfl:=uR.eq;have eu:=jd.t ib;have zh7:=hid (HL6.o.later (Kp.of ib)))
   refine bodyPost_ret (v:=.tuple #[.slice ua (gO b).length uc,vp,.int .i64 0]) ?_ rfl ⟨⟨_,_,by rw[H80.o],λ_=>⟨HU.o,zh7.o,HV.o,Xs.o⟩⟩,eu.o⟩;rw[results_tmp3 rfl];rfl
 .have HP:Hid (aI b=aT b 0):=by unfold Hid aI;rw[zAG e]
  obtain⟨ob,xX⟩:=ex1 (aT b 0);have Eb:=hid xX;rw[xX]at e⊢;go_wp2_with fail
  refine bodyPost_ret (v:=.tuple #[.slice none 0 0,.slice none 0 0,.int .i64 ob]) ?_ rfl ⟨⟨_,_,by rw[HP.o,Eb.o],λh=>absurd h (by rw[HP.o,Eb.o];exact e)⟩,jd.o⟩;rw[results_tmp3 rfl];rfl
def Bs (l:List Int):ep l (Lib.compact (j6 l)):=by
 have h:=GZ (l.map λx=>λ_:Nat=>x) 0;unfold rG at h;rw[List.map_map]at h
 have e:l.map ((λt:Nat->Int=>t 0)∘λx=>λ_:Nat=>x)=l:=by
  conv=>rhs;rw[<-List.map_id l]
  rfl
 rwa [e]at h
def Eu (l:List Int):ac l.length (aa l)=l:=by
 refine List.ext_getElem? λi=>?_;unfold ac;rw[zCG];by_cases h:i<l.length
 .rw[List.getElem?_range h,zAI h];show some (aa l i)=_;unfold aa;rw[zAI h];rfl
 .rw[zCT (by simpa using h),zCT (by omega)];rfl
def Ev {r:List Int} (h:ep l r):eK l.length (aa l)=r.length:=by
 unfold eK;rw[Eu,(Bs l).eq h]
def Hg (w:nq) (v vm:fu) (b:aj) (m:List Int) (hb:az w v b) (hv:Valid b) (hm:ah w vm m) (hl:m.length<=4) (ti:∀(j:Nat) (x:Int),m[j]?=some x->0<=x/\x<b.ptz.length):
 Calls ZP 72 #[v,vm] w (cg w (.int .i64 (dM b (aa m) m.length))):=by
 have HV:=hid hv;have xl:=hid ti;obtain⟨v2,v3,v4,rfl,⟨a2,c2,h2,f2⟩,⟨a3,c3,⟨rfl,_,_,_,_⟩,_⟩,⟨a4,c4,⟨rfl,_,_,_,_⟩,_⟩⟩:=hb;have H2:Hid (bi w v2 b.ptz.length a2 c2/\_):=⟨h2,f2⟩
 obtain⟨rfl,l2,m2,n2,r2⟩:=h2;obtain⟨ma,mc,uN,L6⟩:=hm;obtain rfl:=uN.eq;have HM:Hid (bi w (.slice ma m.length mc) m.length ma mc/\∀d,ma=some d->∀(j:Nat) (x:Int),m[j]?=some x->At w d j (.int .i64 x)):=⟨uN,L6⟩
 have BU:=uN.le;unfold maxLen at m2;obtain⟨A1,aZ⟩:=ex1 (w.alloc (.cells (bx b a2 c2 a3 c3 a4 c4) 26));have B1:=hid (cF aZ);have HW:=hid ((bG aZ).below (by simp) (zAA _));go_enter ZF72,Tryz.ntmps72
 go_wp2
 go_loopw [6,5] (λi s wr=>∃k:Nat,k<=m.length/\i=.int .i64 k/\s=.int .i64 (dM b (aa m) k)/\Hid (Below A1.heap.size A1 wr)) (λi _ _=>m.length-(intOf i).toNat)
 case atStart=>exact⟨0,zAJ _,rfl,rfl,Below.refl _ _⟩
 case round=>
  obtain⟨k,hk,rfl,rfl,hB⟩:=hrel;by_cases au:k<m.length
  .obtain⟨⟨mb,mo,sp⟩,y,rfl,hy,y0⟩:=HM.o.1.elem HM.o.2 au;obtain rfl:sp=none:=y0.1;have hyr:=xl.o k y hy;obtain⟨j,rfl⟩:∃j:Nat,y=(j:Int):=⟨y.toNat,by omega⟩
   have PG:=hyr.2;obtain⟨⟨blk,off,sp⟩,x,rfl,hx,x0,x1,_⟩:=H2.o.1.elem H2.o.2 (show j<b.ptz.length by omega);obtain rfl:sp=none:=x0.1;have rU:=HW.t hB.o
   have Y1:∀X:ak wr,X.1.cell? ⟨blk,off+j*6+1,none⟩=some (.int .i64 x.cost):=λX=>by
    have:=((x1.later (Kp.of rU.o)).later X.kp).2;simpa only[<-zBD]using this
   have C2:∀X:ak wr,X.1.cell? ⟨mb,mo+k,none⟩=some (.int .i64 j):=λX=>((y0.later (Kp.of rU.o)).later X.kp).2;obtain⟨-,-,Z2⟩:=(hidb B1 hB.o).o.a3
   have HS:Hid (dM b (aa m) (k+1)=dM b (aa m) k+x.cost):=(by
    show dM b (aa m) k+(match b.ptz[(aa m k).toNat]? with|some x=>x.cost|none=>0)=_;have e:aa m k=(j:Int):=by unfold aa;rw[hy];rfl
    rw[e,zDY,hx]:dM b (aa m) (k+1)=dM b (aa m) k+x.cost)
   have BB:=sG HV.o (aa m) k;have Uy:=(HV.o.ptz.all _ x (by omega) hx).1.cost;have kE:(k:Int)<(m.length:Int):=by omega
   generalize hxg:x.cost=xc at*;generalize dM b (aa m) k=s at*;go_wp2_with fail
   refine ae (by kernel_rfl) (by kernel_rfl) ?_;repeat(go_big_quiet_step (fail))
   refine wpQuiet_nil ?_;rintro _ ⟨X,rfl⟩;have HX:=hB.t X.2;go_wp2
   refine⟨⟨k+1,by omega,by go_num,by rw[HS.o],HX⟩,by simp[intOf];omega⟩
  .have e:k=m.length:=by omega
   subst e;go_wp2
   go_ret;exact⟨rfl,HW.o.trans (hB.o.mono HW.o.size)⟩
def rL (hv:Valid b) {x:Nat->Int} (h:x∈ar b (an b (ao b))):mw b (ac b.aq.toNat x)/\aa (ac b.aq.toNat x)=x/\(ac b.aq.toNat x).length=b.aq.toNat/\b.aq.toNat<=4:=by
 have h1:=Bm (lH h);have hp:=hv.aq;exact⟨sF hv h1.1,h1.2,by simp[ac],by omega⟩
def qo (X:nq) (vm:fu) (b:aj) (hv:Valid b) (x:Nat->Int) (h:x∈ar b (an b (ao b))) (hm:ah X vm (ac b.aq.toNat x)):
 Calls ZP 71 #[vm] X (λe w'=>(∃a c,e=.returned (.slice a (eK b.aq.toNat x) c)/\eK b.aq.toNat x<=c)/\Below X.heap.size X w'):=by
 obtain⟨_,h2,h3,h4⟩:=rL hv h
 refine(GY X _ _ hm (by omega) (λk r hr=>by
  have h1:=Ev hr;have h2:=zp ((ac b.aq.toNat x).take k).length (aa ((ac b.aq.toNat x).take k));have h3:((ac b.aq.toNat x).take k).length<=(ac b.aq.toNat x).length:=by rw[zES];omega
  omega)).mono ?_
 rintro e w' ⟨⟨v',r,rfl,qx,hr⟩,hb⟩;obtain⟨pa,pc,rQ,_⟩:=qx;obtain rfl:=rQ.eq;have hle:=rQ.le;have hd:=Ev hr;rw[h2,h3]at hd;rw[<-hd]at hle⊢;exact⟨⟨pa,pc,rfl,hle⟩,hb⟩
def j8 (X:nq) (v vm:fu) (b:aj) (hb:az X v b) (hv:Valid b) (x:Nat->Int) (h:x∈ar b (an b (ao b))) (hm:ah X vm (ac b.aq.toNat x)):
 Calls ZP 72 #[v,vm] X (cg X (.int .i64 (aS b x))):=by
 obtain⟨h1,h2,h3,h4⟩:=rL hv h;have:=Hg X v vm b _ hb hv hm (by omega) λj y hy=>(by have:=h1.range j y (zAO.1 hy).1 hy;omega)
 rwa [h2,h3]at this
def qp (X:nq) (vl vm:fu) (b:aj) (hl:cz X vl (eC b)) (hv:Valid b) (bu:eC b≠ []) (x:Nat->Int) (h:x∈ar b (an b (ao b))) (hm:ah X vm (ac b.aq.toNat x)):
 Calls ZP 74 #[vl,vm] X (cg X (.agg #[.int .i64 (gv b x),.int .i64 (bL b x)])):=by
 obtain⟨h1,h2,h3,h4⟩:=rL hv h
 have:=tH X vl vm (eC b) _ hl hm bu (zAM (zu hv) (by decide)) (by omega) (λq hq=>(rI hv hq).2) (λq hq i y hy=>by
  have h5:=h1.range i y (zAO.1 hy).1 hy;have h6:=(rI hv hq).1;omega)
 rw[<-ql,h2,h3]at this;exact this
def ah.on (h:ah w v l) (hk:∀k,v.ownBlock=some k->k<w.heap.size->w'.heap[k]?=w.heap[k]?):ah w' v l:=by
 obtain⟨a,cap,h1,h2⟩:=h;have hb:∀b,a=some b->b.block<w.heap.size->w'.heap[b.block]?=w.heap[b.block]?:=λb e=>hk b.block (by rw[h1.eq,e];rfl);refine⟨a,cap,⟨h1.eq,h1.le,h1.IU,h1.nil,λb e=>(h1.row b e).imp id λ⟨c,t,fz,hc⟩=>⟨c,t,fz,(hb b e (zAC.1 hc).1).trans hc⟩⟩,λb e j t hj=>?_⟩;have h3:=h2 b e j t hj;exact⟨h3.1,(World.cell?_of_block (w:=w) (a:=⟨b.block,b.off+j,none⟩) (hb b e h3.lt)).trans h3.2⟩
def ah.upon {T:a00} {xs:Array fu} (h:ah w v l) (h3:oZ w v) (hb:aL w k T xs) (hT:T≠3) (hk:ab [k] w w'):ah w' v l:=
 h.on λi e hi=>hk.block i hi λhm=>by
  rw[zBU]at hm;subst hm;obtain⟨cur,hc⟩:=h3 i e;have h2:w.heap[i]?=some (.cells xs T (0,0)):=hb;rw[hc]at h2;injection h2 with h2;injection h2 with _ h2;exact hT h2.symm
def wU (h:aI b≠0) (ks:List ((Nat->Int)->Int)):dw b ks=[]:=by unfold dw;rw[zAG h]
def rM (h:aI b≠0) (ks:List ((Nat->Int)->Int)) (val:(Nat->Int)->Int):cP b ks val=0:=by unfold cP;rw[zAG h]
def sJ (h:aI b=0) {l:List (Nat->Int)} (hS:ar b (an b (ao b))=t0::l):dw b ks=ac b.aq.toNat (bK ks t0 l l.length):=by unfold dw Jf;rw[zAE h,hS];rfl
def oQ (h:aI b=0) {val:(Nat->Int)->Int} {l:List (Nat->Int)} (hS:ar b (an b (ao b))=t0::l):cP b ks val=val (bK ks t0 l l.length):=by unfold cP Jf;rw[zAE h,hS];rfl
def SH (f:(Nat->Int)->Int) (x y:Nat->Int):cA [f] x y=decide (f x<f y):=by
 simp only[cA];by_cases h:f x<f y
 .rw[zAE h,zCK h]
 .rw[zAG h,zCE h];split<;>rfl
def zcy (f g:(Nat->Int)->Int) (x y:Nat->Int):cA [f,g] x y=decide (f x<f y\/f x=f y/\g x<g y):=by
 simp only[cA];by_cases h:f x<f y
 .rw[zAE h,zCK (.inl h)]
 .rw[zAG h];by_cases h2:f x=f y
  .rw[zAE h2];by_cases h3:g x<g y
   .rw[zAE h3,zCK (.inr ⟨h2,h3⟩)]
   .rw[zAG h3,zCE (λh4=>h4.elim h λh5=>h3 h5.2)];split<;>rfl
  .rw[zAG h2,zCE (λh4=>h4.elim h λh5=>h2 h5.1)]
def us (w:nq) (v:fu) (b:aj) (hb:az w v b) (hs:gU b):Calls ZP 20 #[v] w (mX w (dw b [aS b]) (.int .i64 (cP b [aS b] (aS b))) (aI b)):=by
 have HB:=hid hb;obtain⟨a2,c2,a3,c3,a4,c4,rfl⟩:=hb.db;obtain⟨A1,aZ⟩:=ex1 (w.alloc (.cells (bx b a2 c2 a3 c3 a4 c4) 26));have B1:=hid (cF aZ);have HW:=hid ((bG aZ).below (by simp) (zAA _));have z0:=B1.o.cell 0 rfl;have z1:=B1.o.cell 1 rfl;have z2:=B1.o.cell 2 rfl;have z3:=B1.o.cell 3 rfl;have z4:=B1.o.cell 4 rfl;have hP:=kL A1 _ b (HB.o.later (Kp.of HW.o)) hs;go_enter ZF20,Tryz.ntmps20
 go_wp2_with fail
 refine hP.mono ?_;rintro e w1 ⟨⟨u1,u2,rfl,hp⟩,bJ⟩;have cO:=hid bJ;have jd:=HW.t bJ;by_cases e:aI b=0
 .obtain⟨uF,tW,hv,bu⟩:=hp e;have HV:=hid hv;have HX1:=hid uF;have XQ:=hid tW;have Lp:=hid bu;have mY:(ar b (an b (ao b))).length<=625:=iy hv _
  have hnS:ar b (an b (ao b))≠ []:=λh=>by
   have h2:=e;unfold aI at h2;rw[zAE (eQ (dN.2 hv) λh3=>bu (lJ.1 h3)),zAE h]at h2;omega
  obtain⟨t0,l,hS⟩:∃t0 l,ar b (an b (ao b))=t0::l:=by
   cases h:ar b (an b (ao b))with
   |nil=>exact absurd h hnS
   |cons t0 l=>exact⟨t0,l,rfl⟩
  have HS:=hid hS;obtain⟨LN,OU⟩:=ex1 (l.length+1);have oO:=hid OU;have hll:LN<=625:=by rw[hS]at mY;rw[<-OU];simpa using mY
  have Bj:Hid (gO b=(t0::l).map (ac b.aq.toNat)):=by unfold Hid;rw[gP,hS]
  have HE:=hid e;rw[Bj.o]at uF;obtain⟨ua,uc,uR,PO⟩:=uF;obtain rfl:=uR.eq;have HU:Hid (bi w1 (.slice ua ((t0::l).map (ac b.aq.toNat)).length uc) ((t0::l).map (ac b.aq.toNat)).length ua uc/\∀d,ua=some d->∀(j:Nat) (o:List Int),((t0::l).map (ac b.aq.toNat))[j]?=some o->∃vf,At w1 d j vf/\ah w1 vf o/\oZ w1 vf):=⟨uR,PO⟩
  have SI:=uR.le;have hlen:((t0::l).map (ac b.aq.toNat)).length=LN:=by rw[<-OU];simp
  rw[hlen]at SI;obtain⟨⟨lb,lf,sp⟩,o0,rfl,LK,vf0,e0,ON⟩:=HU.o.1.elem HU.o.2 (show 0<((t0::l).map (ac b.aq.toNat)).length by rw[hlen];omega);obtain rfl:sp=none:=e0.1;have g0:=e0.2;simp only[zCH]at g0;rw[zDS,zBB]at LK;cases LK;have HF0:=hid ON.1;have HF3:=hid ON.2
  have HZ:Hid (∀X:nq,Below w1.heap.size w1 X->bz X w.heap.size b a2 c2 a3 c3 a4 c4):=λX hX=>by
   have BX:=B1.o.below (cO.o.trans (hX.mono cO.o.size)) B1.o.lt;exact⟨BX.cell 0 rfl,BX.cell 1 rfl,BX.cell 2 rfl,BX.cell 3 rfl,BX.cell 4 rfl⟩
  have Mb:Hid (∀X:nq,Below w1.heap.size w1 X->az X (.agg (bx b a2 c2 a3 c3 a4 c4)) b):=λX hX=>HB.o.later (Kp.of (jd.o.trans (hX.mono jd.o.size)));have gC:(0:Int)<(LN:Int):=by omega
  rw[e,hlen];go_wp2_with fail
  go_loopw [8,9] (λbv i wr=>∃k q:Nat,k<=l.length/\Hid (q=k+1)/\i=.int .i64 (q:Int)/\Hid (ah wr bv (ac b.aq.toNat (bK [aS b] t0 l k)))/\Hid (oZ wr bv)/\Hid (Below w1.heap.size w1 wr)) (λ_ i _=>LN-(intOf i).toNat)
  case atStart=>exact⟨0,1,zAJ _,rfl,rfl,HF0.o,HF3.o,Below.refl _ _⟩
  case round=>
   obtain⟨k,q,hk,hQ,rfl,rS,XR,hB⟩:=hrel;have j9:=jd.t hB.o;have UN:bK [aS b] t0 l k∈ar b (an b (ao b)):=by rw[HS.o];exact gL k
   obtain⟨y,hy⟩:=ex1 (bK [aS b] t0 l k);have HY:=hid hy;rw[hy]at rS UN;have Mc:=hid UN;obtain⟨ba,bn,bc,rfl⟩:=gN rS.o;by_cases au:k<l.length
   .obtain⟨x,hx⟩:∃x,l[k]?=some x:=⟨_,zAI au⟩
    have HX:=hid hx;have Zl:Hid (x∈ar b (an b (ao b))):=by unfold Hid;rw[HS.o];exact zAS _ (zAT hx)
    obtain⟨q',o,sN,ho,vf,e1,ef⟩:=HU.o.1.elem HU.o.2 (show q<((t0::l).map (ac b.aq.toNat)).length by have:=hQ.o;have:=oO.o;rw[hlen];omega);cases sN;rw[hQ.o]at ho;rw[zDS,zBI,zCG,hx]at ho;cases ho;have Hh:=hid (ef.1.later (Kp.of hB.o));have L5:=hid (ef.2.later (Kp.of hB.o));obtain⟨fa,Bt,fc,rfl⟩:=gN ef.1;have Md:Hid (∀X:nq,Below wr.heap.size wr X->X.cell? ⟨lb,lf+q,none⟩=some (.slice fa Bt fc)):=λX hX=>((e1.later (Kp.of hB.o)).later (Kp.of hX)).2;have Jc:(q:Int)<(LN:Int):=by have:=hQ.o;have:=oO.o;omega
    have cW:q<=700:=by have:=hQ.o;have:=oO.o;omega
    have UO:Hid (∀X:nq,Below wr.heap.size wr X->Calls ZP 72 #[.agg (bx b a2 c2 a3 c3 a4 c4),.slice fa Bt fc] X (cg X (.int .i64 (aS b x)))):=λX hX=>j8 X _ _ b (Mb.o X (hB.o.trans (hX.mono hB.o.size))) HV.o x Zl.o (Hh.o.later (Kp.of hX));have UP:Hid (∀X:nq,Below wr.heap.size wr X->Calls ZP 72 #[.agg (bx b a2 c2 a3 c3 a4 c4),.slice ba bn bc] X (cg X (.int .i64 (aS b y)))):=λX hX=>j8 X _ _ b (Mb.o X (hB.o.trans (hX.mono hB.o.size))) HV.o y Mc.o (rS.o.later (Kp.of hX));have SJ:Hid (∀X:nq,Below wr.heap.size wr X->((bz X w.heap.size b a2 c2 a3 c3 a4 c4)/\X.cell? ⟨lb,lf+q,none⟩=some (.slice fa Bt fc))/\Below wr.heap.size wr X):=λX hX=>⟨⟨HZ.o X (hB.o.trans (hX.mono hB.o.size)),Md.o X hX⟩,hX⟩
    have PP:Hid (∀X:nq,(((bz X w.heap.size b a2 c2 a3 c3 a4 c4)/\X.cell? ⟨lb,lf+q,none⟩=some (.slice fa Bt fc))/\Below wr.heap.size wr X)->Below wr.heap.size wr X):=λ_ h=>h.2;have oW:Hid (aS b x<aS b y->bK [aS b] t0 l (k+1)=x):=λh=>j7 HX.o (by rw[HY.o,SH];exact zCK h);have Ma:Hid (¬aS b x<aS b y->bK [aS b] t0 l (k+1)=y):=λh=>by rw[jF HX.o (by rw[HY.o,SH];exact zCE h),HY.o]
    obtain⟨cx,UQ⟩:=ex1 (aS b x);obtain⟨cy,Jg⟩:=ex1 (aS b y);rw[UQ]at UO;rw[Jg]at UP;rw[UQ,Jg]at oW Ma;go_wp2_with fail
    go_region_held3 (λX:nq=>((X.cell? ⟨w.heap.size,0,none⟩=some (.int .i64 b.aB)/\X.cell? ⟨w.heap.size,1,none⟩=some (.int .i64 b.aq)/\X.cell? ⟨w.heap.size,2,none⟩=some (.slice a2 b.ptz.length c2)/\X.cell? ⟨w.heap.size,3,none⟩=some (.slice a3 b.cj.length c3)/\X.cell? ⟨w.heap.size,4,none⟩=some (.slice a4 b.cR.length c4))/\X.cell? ⟨lb,lf+q,none⟩=some (.slice fa Bt fc))/\Below wr.heap.size wr X)
     (first
       |with_reducible exact SJ.o _ sI.o
       |with_reducible exact SJ.o _ HBp.o
       |exact SJ.o _ (Below.drewN (Below.refl wr.heap.size wr) 1)
       |fail)
     (first
       |(go_at_call 72
         have hh:=PP.o _ (by assumption);have hx:=HBp.o;refine(UP.o _ hh).mono ?_;rintro e wq ⟨rfl,Lq⟩;have sI:=hid (hh.trans (Lq.mono hh.size)))
       |(go_at_call 72
         have hh:=PP.o _ (by assumption);refine(UO.o _ hh).mono ?_;rintro e wp ⟨rfl,Lq⟩;have HBp:=hid (hh.trans (Lq.mono hh.size))))
    all_goals
     have hvq:=(SJ.o wq sI.o).1.2;have eu:=hB.t sI.o;by_cases hc:cx<cy
     .go_wp2_with fail
      go_round
      case rel=>exact⟨k+1,q+1,by omega,by have:=hQ.o;unfold Hid;omega,by go_num,by unfold Hid;rw[oW.o (by omega)];exact Hh.o.later (Kp.of sI.o),L5.o.later (Kp.of sI.o),eu⟩
      case measure=>have:=hQ.o;have:=oO.o;simp[intOf];omega
     .go_wp2_with fail
      go_round
      case rel=>exact⟨k+1,q+1,by omega,by have:=hQ.o;unfold Hid;omega,by go_num,by unfold Hid;rw[Ma.o (by omega)];exact rS.o.later (Kp.of sI.o),XR.o.later (Kp.of sI.o),eu⟩
      case measure=>have:=hQ.o;have:=oO.o;simp[intOf];omega
   .have ek:k=l.length:=by omega
    subst ek;have Jc:¬(q:Int)<(LN:Int):=by have:=hQ.o;have:=oO.o;omega
    obtain⟨z0,z1,z2,z3,z4⟩:=HZ.o wr hB.o;have hC:=j8 wr _ _ b (Mb.o wr hB.o) HV.o y Mc.o rS.o;have Y7:Hid (dw b [aS b]=ac b.aq.toNat y):=by unfold Hid;rw[sJ HE.o HS.o,HY.o]
    have Zm:Hid (cP b [aS b] (aS b)=aS b y):=by unfold Hid;rw[oQ HE.o HS.o,HY.o]
    obtain⟨cy,Jg⟩:=ex1 (aS b y);have Zn:=hid Jg;rw[Jg]at hC
    go_wp2_with(go_at_call 72
                refine hC.mono ?_;rintro e w5 ⟨rfl,qd⟩;have lQ:=hid qd)
    refine bodyPost_ret (v:=.tuple #[.slice ba bn bc,.int .i64 cy,.int .i64 0]) ?_ rfl ⟨⟨.slice ba bn bc,by rw[Zm.o,Zn.o,HE.o],by rw[Y7.o];exact rS.o.later (Kp.of lQ.o)⟩,j9.o.trans (lQ.o.mono j9.o.size)⟩;rw[results_tmp3 rfl];rfl
 .have HQ:Hid (dw b [aS b]=[]/\cP b [aS b] (aS b)=0):=⟨wU e _,rM e _ _⟩
  obtain⟨ob,xX⟩:=ex1 (aI b);have Eb:=hid xX;rw[xX]at e⊢;go_wp2_with fail
  refine bodyPost_ret (v:=.tuple #[.slice none 0 0,.int .i64 0,.int .i64 ob]) ?_ rfl ⟨⟨.slice none 0 0,by rw[HQ.o.2,Eb.o],by rw[HQ.o.1];exact dc _⟩,jd.o⟩;rw[results_tmp3 rfl];rfl
def yd (w:nq) (v:fu) (b:aj) (hb:az w v b) (hs:gU b):Calls ZP 17 #[v] w (mX w (dw b [cG b,aS b]) (.int .i64 (cP b [cG b,aS b] (cG b))) (aI b)):=by
 have HB:=hid hb;obtain⟨a2,c2,a3,c3,a4,c4,rfl⟩:=hb.db;obtain⟨A1,aZ⟩:=ex1 (w.alloc (.cells (bx b a2 c2 a3 c3 a4 c4) 26));have B1:=hid (cF aZ);have HW:=hid ((bG aZ).below (by simp) (zAA _));have z0:=B1.o.cell 0 rfl;have z1:=B1.o.cell 1 rfl;have z2:=B1.o.cell 2 rfl;have z3:=B1.o.cell 3 rfl;have z4:=B1.o.cell 4 rfl;have hP:=kL A1 _ b (HB.o.later (Kp.of HW.o)) hs;go_enter ZF17,Tryz.ntmps17
 go_wp2_with fail
 refine hP.mono ?_;rintro e w1 ⟨⟨u1,u2,rfl,hp⟩,bJ⟩;have cO:=hid bJ;have jd:=HW.t bJ;by_cases e:aI b=0
 .obtain⟨uF,tW,hv,bu⟩:=hp e;have HV:=hid hv;have HX1:=hid uF;have XQ:=hid tW;have Lp:=hid bu;have mY:(ar b (an b (ao b))).length<=625:=iy hv _
  have hnS:ar b (an b (ao b))≠ []:=λh=>by
   have h2:=e;unfold aI at h2;rw[zAE (eQ (dN.2 hv) λh3=>bu (lJ.1 h3)),zAE h]at h2;omega
  obtain⟨t0,l,hS⟩:∃t0 l,ar b (an b (ao b))=t0::l:=by
   cases h:ar b (an b (ao b))with
   |nil=>exact absurd h hnS
   |cons t0 l=>exact⟨t0,l,rfl⟩
  have HS:=hid hS;obtain⟨LN,OU⟩:=ex1 (l.length+1);have oO:=hid OU;have hll:LN<=625:=by rw[hS]at mY;rw[<-OU];simpa using mY
  have Bj:Hid (gO b=(t0::l).map (ac b.aq.toNat)):=by unfold Hid;rw[gP,hS]
  have HE:=hid e;rw[Bj.o]at uF;obtain⟨ua,uc,uR,PO⟩:=uF;obtain rfl:=uR.eq;have HU:Hid (bi w1 (.slice ua ((t0::l).map (ac b.aq.toNat)).length uc) ((t0::l).map (ac b.aq.toNat)).length ua uc/\∀d,ua=some d->∀(j:Nat) (o:List Int),((t0::l).map (ac b.aq.toNat))[j]?=some o->∃vf,At w1 d j vf/\ah w1 vf o/\oZ w1 vf):=⟨uR,PO⟩
  have SI:=uR.le;have hlen:((t0::l).map (ac b.aq.toNat)).length=LN:=by rw[<-OU];simp
  rw[hlen]at SI;obtain⟨⟨lb,lf,sp⟩,o0,rfl,LK,vf0,e0,ON⟩:=HU.o.1.elem HU.o.2 (show 0<((t0::l).map (ac b.aq.toNat)).length by rw[hlen];omega);obtain rfl:sp=none:=e0.1;have g0:=e0.2;simp only[zCH]at g0;rw[zDS,zBB]at LK;cases LK;have HF0:=hid ON.1;have HF3:=hid ON.2
  have HZ:Hid (∀X:nq,Below w1.heap.size w1 X->bz X w.heap.size b a2 c2 a3 c3 a4 c4):=λX hX=>by
   have BX:=B1.o.below (cO.o.trans (hX.mono cO.o.size)) B1.o.lt;exact⟨BX.cell 0 rfl,BX.cell 1 rfl,BX.cell 2 rfl,BX.cell 3 rfl,BX.cell 4 rfl⟩
  have Mb:Hid (∀X:nq,Below w1.heap.size w1 X->az X (.agg (bx b a2 c2 a3 c3 a4 c4)) b):=λX hX=>HB.o.later (Kp.of (jd.o.trans (hX.mono jd.o.size)));have gC:(0:Int)<(LN:Int):=by omega
  rw[e,hlen];go_wp2_with fail
  go_loopw [8,9] (λbv i wr=>∃k q:Nat,k<=l.length/\Hid (q=k+1)/\i=.int .i64 (q:Int)/\Hid (ah wr bv (ac b.aq.toNat (bK [cG b,aS b] t0 l k)))/\Hid (oZ wr bv)/\Hid (Below w1.heap.size w1 wr)) (λ_ i _=>LN-(intOf i).toNat)
  case atStart=>exact⟨0,1,zAJ _,rfl,rfl,HF0.o,HF3.o,Below.refl _ _⟩
  case round=>
   obtain⟨k,q,hk,hQ,rfl,rS,XR,hB⟩:=hrel;have j9:=jd.t hB.o;have UN:bK [cG b,aS b] t0 l k∈ar b (an b (ao b)):=by rw[HS.o];exact gL k
   obtain⟨y,hy⟩:=ex1 (bK [cG b,aS b] t0 l k);have HY:=hid hy;rw[hy]at rS UN;have Mc:=hid UN;obtain⟨ba,bn,bc,rfl⟩:=gN rS.o;by_cases au:k<l.length
   .obtain⟨x,hx⟩:∃x,l[k]?=some x:=⟨_,zAI au⟩
    have HX:=hid hx;have Zl:Hid (x∈ar b (an b (ao b))):=by unfold Hid;rw[HS.o];exact zAS _ (zAT hx)
    obtain⟨q',o,sN,ho,vf,e1,ef⟩:=HU.o.1.elem HU.o.2 (show q<((t0::l).map (ac b.aq.toNat)).length by have:=hQ.o;have:=oO.o;rw[hlen];omega);cases sN;rw[hQ.o]at ho;rw[zDS,zBI,zCG,hx]at ho;cases ho;have Hh:=hid (ef.1.later (Kp.of hB.o));have L5:=hid (ef.2.later (Kp.of hB.o));obtain⟨fa,Bt,fc,rfl⟩:=gN ef.1;have Md:Hid (∀X:nq,Below wr.heap.size wr X->X.cell? ⟨lb,lf+q,none⟩=some (.slice fa Bt fc)):=λX hX=>((e1.later (Kp.of hB.o)).later (Kp.of hX)).2;have Jc:(q:Int)<(LN:Int):=by have:=hQ.o;have:=oO.o;omega
    have cW:q<=700:=by have:=hQ.o;have:=oO.o;omega
    have UO:Hid (∀X:nq,Below wr.heap.size wr X->Calls ZP 72 #[.agg (bx b a2 c2 a3 c3 a4 c4),.slice fa Bt fc] X (cg X (.int .i64 (aS b x)))):=λX hX=>j8 X _ _ b (Mb.o X (hB.o.trans (hX.mono hB.o.size))) HV.o x Zl.o (Hh.o.later (Kp.of hX));have UP:Hid (∀X:nq,Below wr.heap.size wr X->Calls ZP 72 #[.agg (bx b a2 c2 a3 c3 a4 c4),.slice ba bn bc] X (cg X (.int .i64 (aS b y)))):=λX hX=>j8 X _ _ b (Mb.o X (hB.o.trans (hX.mono hB.o.size))) HV.o y Mc.o (rS.o.later (Kp.of hX));have HD1:Hid (∀X:nq,Below wr.heap.size wr X->Calls ZP 71 #[.slice fa Bt fc] X (λe w'=>(∃a c,e=.returned (.slice a (eK b.aq.toNat x) c)/\(eK b.aq.toNat x)<=c)/\Below X.heap.size X w')):=λX hX=>qo X _ b HV.o x Zl.o (Hh.o.later (Kp.of hX));have HD2:Hid (∀X:nq,Below wr.heap.size wr X->Calls ZP 71 #[.slice ba bn bc] X (λe w'=>(∃a c,e=.returned (.slice a (eK b.aq.toNat y) c)/\(eK b.aq.toNat y)<=c)/\Below X.heap.size X w')):=λX hX=>qo X _ b HV.o y Mc.o (rS.o.later (Kp.of hX));have SJ:Hid (∀X:nq,Below wr.heap.size wr X->((bz X w.heap.size b a2 c2 a3 c3 a4 c4)/\X.cell? ⟨lb,lf+q,none⟩=some (.slice fa Bt fc))/\Below wr.heap.size wr X):=λX hX=>⟨⟨HZ.o X (hB.o.trans (hX.mono hB.o.size)),Md.o X hX⟩,hX⟩
    have PP:Hid (∀X:nq,(((bz X w.heap.size b a2 c2 a3 c3 a4 c4)/\X.cell? ⟨lb,lf+q,none⟩=some (.slice fa Bt fc))/\Below wr.heap.size wr X)->Below wr.heap.size wr X):=λ_ h=>h.2;have oW:Hid ((cG b x<cG b y\/cG b x=cG b y/\aS b x<aS b y)->bK [cG b,aS b] t0 l (k+1)=x):=λh=>j7 HX.o (by rw[HY.o,zcy];exact zCK h);have Ma:Hid (¬(cG b x<cG b y\/cG b x=cG b y/\aS b x<aS b y)->bK [cG b,aS b] t0 l (k+1)=y):=λh=>by rw[jF HX.o (by rw[HY.o,zcy];exact zCE h),HY.o]
    have hdk:∀z,cG b z=(eK b.aq.toNat z:Int):=λ_=>rfl;rw[hdk x,hdk y]at oW Ma;obtain⟨cx,UQ⟩:=ex1 (aS b x);obtain⟨cy,Jg⟩:=ex1 (aS b y);obtain⟨dx,Mf⟩:=ex1 (eK b.aq.toNat x);obtain⟨dy,hdy⟩:=ex1 (eK b.aq.toNat y);rw[UQ]at UO;rw[Jg]at UP;rw[Mf]at HD1;rw[hdy]at HD2;rw[UQ,Jg,Mf,hdy]at oW Ma;have Mg:=Md.o wr (Below.refl _ _)
    go_wp2_with(first
     |(go_at_call 71
       refine(HD2.o _ lQ.o).mono ?_;rintro e w6 ⟨⟨qa,qc,rfl,hqc⟩,L7⟩;have qw:=lQ.t L7;have hv6:=Md.o w6 qw.o;obtain⟨z0,z1,z2,z3,z4⟩:=HZ.o w6 (hB.o.trans (qw.o.mono hB.o.size)))
     |(go_at_call 71
       refine(HD1.o _ (Below.refl _ _)).mono ?_;rintro e w5 ⟨⟨pa,pc,rfl,hpc⟩,qd⟩;have lQ:=hid qd))
    have OW:=hB.t qw.o;by_cases hd:(dx:Int)<(dy:Int)
    .go_quiet (fail)
     go_wp2_with fail
     go_round
     case rel=>exact⟨k+1,q+1,by omega,by have:=hQ.o;unfold Hid;omega,by go_num,by unfold Hid;rw[oW.o (by omega)];exact Hh.o.later (Kp.of (Below.drewN qw.o _)),L5.o.later (Kp.of (Below.drewN qw.o _)),Below.drewN OW.o _⟩
     case measure=>have:=hQ.o;have:=oO.o;simp[intOf];omega
    .by_cases Ye:(dx:Int)=(dy:Int)
     .go_region_held3 (λX:nq=>((X.cell? ⟨w.heap.size,0,none⟩=some (.int .i64 b.aB)/\X.cell? ⟨w.heap.size,1,none⟩=some (.int .i64 b.aq)/\X.cell? ⟨w.heap.size,2,none⟩=some (.slice a2 b.ptz.length c2)/\X.cell? ⟨w.heap.size,3,none⟩=some (.slice a3 b.cj.length c3)/\X.cell? ⟨w.heap.size,4,none⟩=some (.slice a4 b.cR.length c4))/\X.cell? ⟨lb,lf+q,none⟩=some (.slice fa Bt fc))/\Below wr.heap.size wr X)
       (first
         |with_reducible exact SJ.o _ sI.o
         |with_reducible exact SJ.o _ HBp.o
         |exact SJ.o _ (Below.drewN qw.o 1)
         |fail)
       (first
         |(go_at_call 72
           have hh:=PP.o _ (by assumption);have hx:=HBp.o;refine(UP.o _ hh).mono ?_;rintro e wq ⟨rfl,Lq⟩;have sI:=hid (hh.trans (Lq.mono hh.size)))
         |(go_at_call 72
           have hh:=PP.o _ (by assumption);refine(UO.o _ hh).mono ?_;rintro e wp ⟨rfl,Lq⟩;have HBp:=hid (hh.trans (Lq.mono hh.size))))
      all_goals
       have hvq:=(SJ.o wq sI.o).1.2;have eu:=hB.t sI.o;by_cases hc:cx<cy
       .go_wp2_with fail
        go_round
        case rel=>exact⟨k+1,q+1,by omega,by have:=hQ.o;unfold Hid;omega,by go_num,by unfold Hid;rw[oW.o (by omega)];exact Hh.o.later (Kp.of sI.o),L5.o.later (Kp.of sI.o),eu⟩
        case measure=>have:=hQ.o;have:=oO.o;simp[intOf];omega
       .go_wp2_with fail
        go_round
        case rel=>exact⟨k+1,q+1,by omega,by have:=hQ.o;unfold Hid;omega,by go_num,by unfold Hid;rw[Ma.o (by omega)];exact rS.o.later (Kp.of sI.o),XR.o.later (Kp.of sI.o),eu⟩
        case measure=>have:=hQ.o;have:=oO.o;simp[intOf];omega
     .go_quiet (fail)
      go_wp2_with fail
      go_round
      case rel=>exact⟨k+1,q+1,by omega,by have:=hQ.o;unfold Hid;omega,by go_num,by unfold Hid;rw[Ma.o (by omega)];exact rS.o.later (Kp.of (Below.drewN qw.o _)),XR.o.later (Kp.of (Below.drewN qw.o _)),Below.drewN OW.o _⟩
      case measure=>have:=hQ.o;have:=oO.o;simp[intOf];omega
   .have ek:k=l.length:=by omega
    subst ek;have Jc:¬(q:Int)<(LN:Int):=by have:=hQ.o;have:=oO.o;omega
    have hC:=qo wr _ b HV.o y Mc.o rS.o;have Y7:Hid (dw b [cG b,aS b]=ac b.aq.toNat y):=by unfold Hid;rw[sJ HE.o HS.o,HY.o]
    have Zm:Hid (cP b [cG b,aS b] (cG b)=(eK b.aq.toNat y:Int)):=by unfold Hid;rw[oQ HE.o HS.o,HY.o];rfl
    obtain⟨dy,hdy⟩:=ex1 (eK b.aq.toNat y);have Zn:=hid hdy;rw[hdy]at hC
    go_wp2_with(go_at_call 71
                refine hC.mono ?_;rintro e w5 ⟨⟨pa,pc,rfl,hpc⟩,qd⟩;have lQ:=hid qd)
    refine bodyPost_ret (v:=.tuple #[.slice ba bn bc,.int .i64 (dy:Int),.int .i64 0]) ?_ rfl ⟨⟨.slice ba bn bc,by rw[Zm.o,Zn.o,HE.o],by rw[Y7.o];exact rS.o.later (Kp.of lQ.o)⟩,j9.o.trans (lQ.o.mono j9.o.size)⟩;rw[results_tmp3 rfl];rfl
 .have HQ:Hid (dw b [cG b,aS b]=[]/\cP b [cG b,aS b] (cG b)=0):=⟨wU e _,rM e _ _⟩
  obtain⟨ob,xX⟩:=ex1 (aI b);have Eb:=hid xX;rw[xX]at e⊢;go_wp2_with fail
  refine bodyPost_ret (v:=.tuple #[.slice none 0 0,.int .i64 0,.int .i64 ob]) ?_ rfl ⟨⟨.slice none 0 0,by rw[HQ.o.2,Eb.o],by rw[HQ.o.1];exact dc _⟩,jd.o⟩;rw[results_tmp3 rfl];rfl
def ut (w:nq) (v:fu) (b:aj) (hb:az w v b) (hs:gU b):Calls ZP 22 #[v] w (mX w (dw b [bL b]) (.agg #[.int .i64 (cP b [bL b] (gv b)),.int .i64 (cP b [bL b] (bL b))]) (aI b)):=by
 have HB:=hid hb;obtain⟨a2,c2,a3,c3,a4,c4,rfl⟩:=hb.db;obtain⟨A0,DP⟩:=ex1 (w.alloc (.cells (bx b a2 c2 a3 c3 a4 c4) 26));obtain⟨A1,aZ⟩:=ex1 (A0.alloc (.cells #[.int .i64 0,.int .i64 0] 34));have I4:=snew DP;have B1:=bnewk DP aZ;have S3:=bnew2 aZ I4;have HW:=wnew2 DP aZ;have z0:=B1.o.cell 0 rfl;have z1:=B1.o.cell 1 rfl;have z2:=B1.o.cell 2 rfl;have z3:=B1.o.cell 3 rfl;have z4:=B1.o.cell 4 rfl;have hP:=kL A1 _ b (HB.o.later (Kp.of HW.o)) hs;go_enter ZF22,Tryz.ntmps22
 go_wp2_with fail
 refine hP.mono ?_;rintro e w1 ⟨⟨u1,u2,rfl,hp⟩,bJ⟩;have cO:=hid bJ;have jd:=HW.t bJ;have HBA:=hid cO.o;by_cases e:aI b=0
 .obtain⟨uF,tW,hv,bu⟩:=hp e;have HV:=hid hv;have HX1:=hid uF;have XQ:=hid tW;have Lp:=hid bu;have mY:(ar b (an b (ao b))).length<=625:=iy hv _
  have hnS:ar b (an b (ao b))≠ []:=λh=>by
   have h2:=e;unfold aI at h2;rw[zAE (eQ (dN.2 hv) λh3=>bu (lJ.1 h3)),zAE h]at h2;omega
  obtain⟨t0,l,hS⟩:∃t0 l,ar b (an b (ao b))=t0::l:=by
   cases h:ar b (an b (ao b))with
   |nil=>exact absurd h hnS
   |cons t0 l=>exact⟨t0,l,rfl⟩
  have HS:=hid hS;obtain⟨LN,OU⟩:=ex1 (l.length+1);have oO:=hid OU;have hll:LN<=625:=by rw[hS]at mY;rw[<-OU];simpa using mY
  have Bj:Hid (gO b=(t0::l).map (ac b.aq.toNat)):=by unfold Hid;rw[gP,hS]
  have HE:=hid e;rw[Bj.o]at uF;obtain⟨ua,uc,uR,PO⟩:=uF;obtain rfl:=uR.eq;have HU:Hid (bi w1 (.slice ua ((t0::l).map (ac b.aq.toNat)).length uc) ((t0::l).map (ac b.aq.toNat)).length ua uc/\∀d,ua=some d->∀(j:Nat) (o:List Int),((t0::l).map (ac b.aq.toNat))[j]?=some o->∃vf,At w1 d j vf/\ah w1 vf o/\oZ w1 vf):=⟨uR,PO⟩
  have SI:=uR.le;have hlen:((t0::l).map (ac b.aq.toNat)).length=LN:=by rw[<-OU];simp
  rw[hlen]at SI;obtain⟨⟨lb,lf,sp⟩,o0,rfl,LK,vf0,e0,ON⟩:=HU.o.1.elem HU.o.2 (show 0<((t0::l).map (ac b.aq.toNat)).length by rw[hlen];omega);obtain rfl:sp=none:=e0.1;have g0:=e0.2;simp only[zCH]at g0;rw[zDS,zBB]at LK;cases LK;have HF0:=hid ON.1;have HF3:=hid ON.2
  have HZ:Hid (∀X:nq,Below w1.heap.size w1 X->bz X w.heap.size b a2 c2 a3 c3 a4 c4):=λX hX=>by
   have BX:=B1.o.below (cO.o.trans (hX.mono cO.o.size)) B1.o.lt;exact⟨BX.cell 0 rfl,BX.cell 1 rfl,BX.cell 2 rfl,BX.cell 3 rfl,BX.cell 4 rfl⟩
  have Mb:Hid (∀X:nq,Below w1.heap.size w1 X->az X (.agg (bx b a2 c2 a3 c3 a4 c4)) b):=λX hX=>HB.o.later (Kp.of (jd.o.trans (hX.mono jd.o.size)));have gC:(0:Int)<(LN:Int):=by omega
  rw[e,hlen];go_wp2_with fail
  go_loopw [8,9] (λbv i wr=>∃k q:Nat,k<=l.length/\Hid (q=k+1)/\i=.int .i64 (q:Int)/\Hid (ah wr bv (ac b.aq.toNat (bK [bL b] t0 l k)))/\Hid (oZ wr bv)/\Hid (Below w1.heap.size w1 wr)) (λ_ i _=>LN-(intOf i).toNat)
  case atStart=>exact⟨0,1,zAJ _,rfl,rfl,HF0.o,HF3.o,Below.refl _ _⟩
  case round=>
   obtain⟨k,q,hk,hQ,rfl,rS,XR,hB⟩:=hrel;have j9:=jd.t hB.o;have UN:bK [bL b] t0 l k∈ar b (an b (ao b)):=by rw[HS.o];exact gL k
   obtain⟨y,hy⟩:=ex1 (bK [bL b] t0 l k);have HY:=hid hy;rw[hy]at rS UN;have Mc:=hid UN;obtain⟨ba,bn,bc,rfl⟩:=gN rS.o;by_cases au:k<l.length
   .obtain⟨x,hx⟩:∃x,l[k]?=some x:=⟨_,zAI au⟩
    have HX:=hid hx;have Zl:Hid (x∈ar b (an b (ao b))):=by unfold Hid;rw[HS.o];exact zAS _ (zAT hx)
    obtain⟨q',o,sN,ho,vf,e1,ef⟩:=HU.o.1.elem HU.o.2 (show q<((t0::l).map (ac b.aq.toNat)).length by have:=hQ.o;have:=oO.o;rw[hlen];omega);cases sN;rw[hQ.o]at ho;rw[zDS,zBI,zCG,hx]at ho;cases ho;have Hh:=hid (ef.1.later (Kp.of hB.o));have L5:=hid (ef.2.later (Kp.of hB.o));obtain⟨fa,Bt,fc,rfl⟩:=gN ef.1;have Md:Hid (∀X:nq,Below wr.heap.size wr X->X.cell? ⟨lb,lf+q,none⟩=some (.slice fa Bt fc)):=λX hX=>((e1.later (Kp.of hB.o)).later (Kp.of hX)).2;have Jc:(q:Int)<(LN:Int):=by have:=hQ.o;have:=oO.o;omega
    have cW:q<=700:=by have:=hQ.o;have:=oO.o;omega
    have UO:=hid (qp wr _ _ b ((XQ.o.later (Kp.of hB.o))) HV.o Lp.o x Zl.o Hh.o);have UP:Hid (∀X:nq,Below wr.heap.size wr X->Calls ZP 74 #[u2,.slice ba bn bc] X (cg X (.agg #[.int .i64 (gv b y),.int .i64 (bL b y)]))):=λX hX=>qp X _ _ b (XQ.o.later (Kp.of (hB.o.trans (hX.mono hB.o.size)))) HV.o Lp.o y Mc.o (rS.o.later (Kp.of hX));have oW:Hid (bL b x<bL b y->bK [bL b] t0 l (k+1)=x):=λh=>j7 HX.o (by rw[HY.o,SH];exact zCK h);have Ma:Hid (¬bL b x<bL b y->bK [bL b] t0 l (k+1)=y):=λh=>by rw[jF HX.o (by rw[HY.o,SH];exact zCE h),HY.o]
    obtain⟨cx,UQ⟩:=ex1 (bL b x);obtain⟨cy,Jg⟩:=ex1 (bL b y);obtain⟨ex,hex⟩:=ex1 (gv b x);obtain⟨ey,hey⟩:=ex1 (gv b y);rw[UQ,hex]at UO;rw[Jg,hey]at UP;rw[UQ,Jg]at oW Ma;have Mg:=Md.o wr (Below.refl _ _);have Xw:=λw=>jD w ex cx;have zpn:=λw=>jD w ey cy;by_cases hc:cx<cy
    all_goals
     go_wp2_with(first
      |(go_at_call 74
        refine(UP.o _ lQ.o).mono ?_;rintro e w6 ⟨rfl,L7⟩;have qw:=lQ.t L7;have hv6:=Md.o w6 qw.o)
      |(go_at_call 74
        refine UO.o.mono ?_;rintro e w5 ⟨rfl,qd⟩;have lQ:=hid qd))
     have OW:=hB.t qw.o
    .go_round
     case rel=>exact⟨k+1,q+1,by omega,by have:=hQ.o;unfold Hid;omega,by go_num,by unfold Hid;rw[oW.o (by omega)];exact Hh.o.later (Kp.of qw.o),L5.o.later (Kp.of qw.o),OW⟩
     case measure=>have:=hQ.o;have:=oO.o;simp[intOf];omega
    .go_round
     case rel=>exact⟨k+1,q+1,by omega,by have:=hQ.o;unfold Hid;omega,by go_num,by unfold Hid;rw[Ma.o (by omega)];exact rS.o.later (Kp.of qw.o),XR.o.later (Kp.of qw.o),OW⟩
     case measure=>have:=hQ.o;have:=oO.o;simp[intOf];omega
   .have ek:k=l.length:=by omega
    subst ek;have Jc:¬(q:Int)<(LN:Int):=by have:=hQ.o;have:=oO.o;omega
    have hC:=qp wr _ _ b (XQ.o.later (Kp.of hB.o)) HV.o Lp.o y Mc.o rS.o;have Y7:Hid (dw b [bL b]=ac b.aq.toNat y):=by unfold Hid;rw[sJ HE.o HS.o,HY.o]
    have Zm:Hid (cP b [bL b] (bL b)=bL b y/\cP b [bL b] (gv b)=gv b y):=by unfold Hid;rw[oQ HE.o HS.o,oQ HE.o HS.o,HY.o];exact⟨rfl,rfl⟩
    obtain⟨cy,Jg⟩:=ex1 (bL b y);obtain⟨ey,hey⟩:=ex1 (gv b y);have Zn:Hid (bL b y=cy/\gv b y=ey):=⟨Jg,hey⟩
    rw[Jg,hey]at hC
    go_wp2_with(go_at_call 74
                refine hC.mono ?_;rintro e w5 ⟨rfl,qd⟩;have lQ:=hid qd;have BZ:=S3.o.below (HBA.o.trans ((hB.o.trans (lQ.o.mono hB.o.size)).mono HBA.o.size)) S3.o.lt;have r0:=BZ.cell 0 rfl;have r1:=BZ.cell 1 rfl;have f0:=BZ.aH 0;have f1:=BZ.aH 1)
    obtain⟨WF,oY⟩:=ex1 ((w5.setCell ⟨w.heap.size+1,0,none⟩ (.int .i64 ey)).setCell ⟨w.heap.size+1,1,none⟩ (.int .i64 cy));have ke:aL WF (w.heap.size+1) 34 #[.int .i64 ey,.int .i64 cy]:=by rw[<-oY];exact(BZ.set 0 _).set 1 _
    have sC:ab [w.heap.size+1] w5 WF:=by rw[<-oY];exact(ab.set w5 (by simp) _).trans' (ab.set _ (by simp) _)
    have zcE:=j9.o.trans (lQ.o.mono j9.o.size);have zh9:=hid (zcE.trans (sC.below (by simp) zcE.size));have Zc:=hid (ah.upon (rS.o.later (Kp.of lQ.o)) (XR.o.later (Kp.of lQ.o)) BZ (by decide) sC);obtain⟨u0,u1⟩:=ke.c2;rw[oY];go_wp2
    refine bodyPost_ret (v:=.tuple #[.slice ba bn bc,.agg #[.int .i64 ey,.int .i64 cy],.int .i64 0]) ?_ rfl ⟨⟨.slice ba bn bc,by rw[Zm.o.1,Zm.o.2,Zn.o.1,Zn.o.2,HE.o],by rw[Y7.o];exact Zc.o⟩,zh9.o⟩;rw[gV rfl];go_simp
 .have HQ:Hid (dw b [bL b]=[]/\cP b [bL b] (bL b)=0/\cP b [bL b] (gv b)=0):=⟨wU e _,rM e _ _,rM e _ _⟩
  obtain⟨ob,xX⟩:=ex1 (aI b);have Eb:=hid xX;rw[xX]at e⊢;have BZ:=S3.o.below HBA.o S3.o.lt;obtain⟨t0,t1⟩:=BZ.c2;have f0:=BZ.aH 0;have f1:=BZ.aH 1;have d0:=BZ.same (i:=0) (v:=.int .i64 0) rfl;have d1:=BZ.same (i:=1) (v:=.int .i64 0) rfl;go_wp2
  refine bodyPost_ret (v:=.tuple #[.slice none 0 0,.agg #[.int .i64 0,.int .i64 0],.int .i64 ob]) ?_ rfl ⟨⟨.slice none 0 0,by rw[HQ.o.2.1,HQ.o.2.2,Eb.o],by rw[HQ.o.1];exact dc _⟩,jd.o⟩;rw[gV rfl];go_simp
def Bu (w:nq) (v:fu) (b:aj) (hb:az w v b) (hs:gU b):Calls ZP 24 #[v] w (tL w (ou b) (aI b)):=by
 have HB:=hid hb;obtain⟨a2,c2,a3,c3,a4,c4,rfl⟩:=hb.db;obtain⟨i0,hi,m9,kd,lO⟩:=info_parts jq;obtain⟨A1,aZ⟩:=ex1 (w.alloc (.cells #[.int .i64 b.aB,.int .i64 b.aq,.slice a2 b.ptz.length c2,.slice a3 b.cj.length c3,.slice a4 b.cR.length c4] 26));have B1:Hid (aL A1 w.heap.size 26 #[.int .i64 b.aB,.int .i64 b.aq,.slice a2 b.ptz.length c2,.slice a3 b.cj.length c3,.slice a4 b.cR.length c4]):=cF aZ;have HW:Hid (Below w.heap.size w A1):=(bG aZ).below (by simp) (zAA _);have z0:=B1.o.cell 0 rfl;have z1:=B1.o.cell 1 rfl;have z2:=B1.o.cell 2 rfl;have z3:=B1.o.cell 3 rfl;have z4:=B1.o.cell 4 rfl;have hP:=kL A1 _ b (HB.o.later (Kp.of HW.o)) hs;clear hb hs;go_enter ZF24,Tryz.ntmps24
 go_wp2_with fail
 refine hP.mono ?_;rintro e w1 ⟨⟨u1,u2,rfl,hp⟩,bJ⟩;have cO:=hid bJ;have jd:=HW.t bJ;clear bJ aZ z0 z1 z2 z3 z4 hP;by_cases e:aI b=0
 .obtain⟨uF,tW,hv,bu⟩:=hp e;have HV:Hid (Valid b):=hv;have LZ:=hv.ptz.many;have mY:(ar b (an b (ao b))).length<=625:=iy hv _;have Bj:=hid (gP (b:=b));have HE:=hid e;rw[Bj.o]at uF;obtain⟨SS,PN⟩:=ex1 ((ar b (an b (ao b))));have B7:=hid PN;rw[PN]at uF mY;obtain⟨ua,uc,uR,PO⟩:=uF;obtain rfl:=uR.eq;have HU:Hid (bi w1 (.slice ua (SS.map (ac b.aq.toNat)).length uc) (SS.map (ac b.aq.toNat)).length ua uc/\∀d,ua=some d->∀(j:Nat) (o:List Int),(SS.map (ac b.aq.toNat))[j]?=some o->∃vf,At w1 d j vf/\ah w1 vf o/\oZ w1 vf):=⟨uR,PO⟩
  have SI:=uR.le;have hlen:(SS.map (ac b.aq.toNat)).length=SS.length:=by simp
  rw[hlen]at SI;have HNL:Hid (ou b=cV b.aq.toNat SS b.ptz.length):=by unfold Hid ou;rw[zAE e,PN]
  rw[e,hlen];clear hp e hv bu tW uR PO PN;go_wp2_with fail
  go_loopw [8,7,9,10] (λi v _ _ wr=>∃k:Nat,k<=b.ptz.length/\i=.int .i64 k/\Hid (wr.ownsRow w1.heap.size 3 1 v (cV b.aq.toNat SS k).length ((cV b.aq.toNat SS k).map (Value.int .i64)))/\Hid (Below w1.heap.size w1 wr)) (λi _ _ _ _=>b.ptz.length-(intOf i).toNat)
  case atStart=>exact⟨0,zAJ _,rfl,World.ownsRow_nil _ _ _ _,Below.refl _ _⟩
  case round=>
   obtain⟨k,hk,rfl,hO,hB⟩:=hrel;have j9:=jd.t hB.o;have z2:wr.cell? ⟨w.heap.size,2,none⟩=some (.slice a2 b.ptz.length c2):=(B1.o.below (cO.o.trans (hB.o.mono cO.o.size)) B1.o.lt).cell 2 rfl;have YS:=qh b.aq.toNat SS k;have cB:=hB.o.size;by_cases au:k<b.ptz.length
   .have kE:(k:Int)<(b.ptz.length:Int):=by omega
    go_wp2_with fail
    go_loop [9,10] (λbv j=>∃(B:Bool) (q:Nat),q<=SS.length/\bv=.bool B/\j=.int .i64 q/\Hid (Tr B (∀m∈SS.take q,¬missing b.aq.toNat k m))) (λ_ j=>SS.length-(intOf j).toNat)
    case atStart=>exact⟨true,0,zAJ _,rfl,rfl,Tr.yes λm hm=>by simp at hm⟩
    case round=>
     obtain⟨B,q,hq,rfl,rfl,hBB⟩:=hrel;by_cases So:q<SS.length
     .obtain⟨⟨lb,lf,sp⟩,o,rfl,ho,vf,e0,ef⟩:=HU.o.1.elem HU.o.2 (show q<(SS.map (ac b.aq.toNat)).length by rw[hlen];exact So);obtain rfl:sp=none:=e0.1;obtain⟨m,hm⟩:∃m,SS[q]?=some m:=⟨_,zAI So⟩
      rw[zCG,hm]at ho;cases ho;have BV:=hid hm;have Mg:=(e0.later (Kp.of hB.o)).2;have Hh:Hid (ah wr vf (ac b.aq.toNat m)):=ef.1.later (Kp.of hB.o);have cW:(q:Int)<(SS.length:Int):=by omega
      simp only at Mg;clear hm e0 ef;cases B
      .go_wp2_with fail
       refine⟨⟨false,q+1,by omega,rfl,by go_num,?_⟩,by simp[intOf];omega⟩;refine Tr.no λh=>hBB.o.f λm' WA=>h m' ?_;rw[zAX];exact zGE _ WA
      .go_wp2_with(go_at_call 77;refine(AC _ _ _ _ Hh.o).mono ?_;rintro e w' ⟨rfl,rfl⟩)
       refine⟨⟨_,q+1,by omega,rfl,by go_num,?_⟩,by simp[intOf];omega⟩;have h1:=hBB.o.t;unfold Hid Tr;rw[zAX,BV.o];constructor
       .intro h m' WA;rcases zCD.1 WA with h2|h2
        .exact h1 m' h2
        .obtain rfl:m'=m:=by simpa using h2
         exact mz.1 (zEZ h)
       .intro h;exact zCK (mz.2 (h m (List.mem_append_right _ (by simp))))
     .have e:q=SS.length:=by omega
      subst e;have cW:¬((SS.length:Nat):Int)<((SS.length:Nat):Int):=by omega
      rw[zBN]at hBB;cases B
      .have HG:Hid (cV b.aq.toNat SS (k+1)=cV b.aq.toNat SS k):=zl (by
        by_cases hx:∃m∈SS,missing b.aq.toNat k m
        .exact hx
        .exact absurd (λm hm h=>hx ⟨m,hm,h⟩) hBB.o.f)
       go_wp2_with fail
       go_round
       case rel=>exact⟨k+1,by omega,by go_num,by rw[HG.o];exact hO,hB⟩
       case measure=>simp[intOf];omega
      .have HG:Hid (cV b.aq.toNat SS (k+1)=cV b.aq.toNat SS k++[(k:Int)]):=wE (λ⟨m,hm,h⟩=>hBB.o.t m hm h);go_wp2_with(at_builtin;refine wpList_append_own _ rfl (.tmp 43) (.tmp 45) 35 rfl w1.heap.size 3 i0 (.int .i64 0) 1 8 dC hi m9 kd lO rfl (by decide) _ _ _ rfl (hO.o.alloc _) ⟨_,0,none⟩ 1 1 [.int .i64 k] rfl rfl (io _ _ _) (iU _) (by unfold maxLen;omega) (by omega) (by simp;omega) ?_;intro v' w3 eN gh _)
       have oK:Hid (w3.ownsRow w1.heap.size 3 1 v' (cV b.aq.toNat SS (k+1)).length ((cV b.aq.toNat SS (k+1)).map (Value.int .i64))):=(by
        rw[HG.o,zAV,zCR];exact eN)
       have eu:Hid (Below w1.heap.size w1 w3):=Below.grown (Below.alloc hB.o (by omega) _) gh (by simp;omega) (ip hO.o);clear eN gh;go_wp2_with fail
       go_round
       case rel=>exact⟨k+1,by omega,by go_num,oK,eu⟩
       case measure=>simp[intOf];omega
   .have e:k=b.ptz.length:=by omega
    subst e;have kE:¬((b.ptz.length:Nat):Int)<((b.ptz.length:Nat):Int):=by omega
    go_wp2_with fail
    go_ret2;exact⟨⟨_,by rw[HE.o];rfl,by rw[HNL.o];exact ah.bY hO.o⟩,j9.o⟩
 .have HQ:Hid (ou b=[]):=by unfold Hid ou;rw[zAG e]
  obtain⟨ob,xX⟩:=ex1 (aI b);have Eb:=hid xX;rw[xX]at e⊢;clear xX hp;go_wp2_with fail
  go_ret2;exact⟨⟨.slice none 0 0,by rw[Eb.o];rfl,by rw[HQ.o];exact dc _⟩,jd.o⟩
def bt (m:Nat->Int):Nat->Nat->Int
 |0,_=>0
 |k+1,i=>bt m k i+if i=(m k).toNat then 1 else 0
def lK (m:Nat->Int):∀k i,0<=bt m k i
 |0,_=>zFU _
 |k+1,i=>by
  unfold bt;have:=lK m k i;split<;>omega
def ox (m:Nat->Int):∀{k n:Nat} (i:Nat),k<=n->bt m k i<=bt m n i
 |k,0,i,h=>by rw[show k=0 by omega];exact zFU _
 |k,n+1,i,h=>by
  by_cases e:k=n+1
  .rw[e];exact zFU _
  .have:=ox m (k:=k) (n:=n) i (by omega);rw[bt];split<;>omega
def mH {s m:Nat->Int} (hs:∀i,0<=s i):∀(k:Nat) (r:Nat->Int),aA s m k=some r->(∀i,r i=s i-bt m k i)/\∀i,0<=r i
 |0,r,e=>by cases e;exact⟨λi=>by simp[bt],hs⟩
 |k+1,r,e=>by
  unfold aA at e;cases hw:aA s m k with
  |none=>rw[hw]at e;cases e
  |some q=>
   rw[hw]at e;simp only at e;obtain⟨h1,h2⟩:=mH hs k q hw;split at e
   .cases e
   .rename_i hn;cases e;refine⟨λi=>?_,λi=>?_⟩<;>by_cases hx:i=(m k).toNat
    .subst hx;rw[cw,h1,bt,zAE rfl];omega
    .rw[aC _ _ hx,h1,bt,zAG hx];omega
    .subst hx;rw[cw];omega
    .rw[aC _ _ hx];exact h2 i
def tN {s m:Nat->Int} (hs:∀i,0<=s i):∀(k:Nat),(∀i,bt m k i<=s i)->∃r,aA s m k=some r
 |0,_=>⟨s,rfl⟩
 |k+1,h=>by
  obtain⟨q,hq⟩:=tN (m:=m) hs k λi=>by have:=h i;have h8:bt m k i<=bt m (k+1) i:=ox m i (by omega);omega
  have h1:=(mH hs k q hq).1;have h2:=h (m k).toNat;rw[bt,zAE rfl]at h2;have h3:=h1 (m k).toNat;unfold aA;rw[hq];simp only;rw[zAG (by omega)];exact⟨_,rfl⟩
def qq {α:Type} {f:Nat->α->Nat} (hf:∀n x,n<=f n x):∀(l:List α) (n:Nat),n<=l.foldl f n
 | [],n=>zAA _
 |x::l,n=>by rw[zDL];exact zAM (hf n x) (qq hf l _)
def Ew (N:Nat) (S:List (Nat->Int)) (s:Nat->Int) (n:Nat) (m:Nat->Int):n<=dS N S s n m:=by
 unfold dS;split
 .exact zAA _
 .exact Nat.le_max_left _ _
def tO {N:Nat} {S:List (Nat->Int)} (hw:aA s m N=some r):∀(l:List (Nat->Int)) (n:Nat),m∈l->1+aY N S r<=l.foldl (dS N S s) n
 |x::l,n,h=>by
  rw[zDL];rcases zAQ.1 h with rfl|h
  .refine zAM ?_ (qq (Ew N S s) l _);unfold dS;rw[hw];exact Nat.le_max_right _ _
  .exact tO hw l _ h
def tP {N:Nat} {S:List (Nat->Int)}:∀(l:List (Nat->Int)) (n:Nat),l.foldl (dS N S s) n=n\/∃m∈l,∃r,aA s m N=some r/\l.foldl (dS N S s) n=1+aY N S r
 | [],n=>.inl rfl
 |x::l,n=>by
  rw[zDL];rcases tP l (dS N S s n x)with h|⟨m,hm,r,h1,h2⟩
  .rw[h];unfold dS;cases hw:aA s x N with
   |none=>exact .inl rfl
   |some r=>
    simp only;by_cases hle:1+aY N S r<=n
    .exact .inl (Nat.max_eq_left hle)
    .exact .inr ⟨x,zBW,r,hw,Nat.max_eq_right (by omega)⟩
  .exact .inr ⟨m,zAS _ hm,r,h1,h2⟩
section
variable {N:Nat} {S:List (Nat->Int)} (hN:1 <= N) (hS:∀ m ∈ S,∀ i,i < N->0 <= m i/\m i < 5)
include hN hS
def tQ (s:Nat->Int):aY N S s=S.foldl (dS N S s) 0:=by
 rw[<-wR hN hS,iN,zBN]
def Lr (hm:m∈S) (hw:aA s m N=some r):1+aY N S r<=aY N S s:=by
 rw[tQ hN hS s];exact tO hw S 0 hm
def Ls (s:Nat->Int):aY N S s=0\/∃m∈S,∃r,aA s m N=some r/\aY N S s=1+aY N S r:=by
 rw[tQ hN hS s];exact tP S 0
end
def dg (j:Nat):Nat->Int:=λi=>((j/4^i%4:Nat):Int)
def fP (P j:Nat):Nat->Int:=λi=>if i<P then dg j i else 0
def cX:Nat->(Nat->Int)->Nat
 |0,_=>0
 |P+1,s=>(s 0).toNat+4*cX P (λi=>s (i+1))
def mI:∀{P:Nat} {s s':Nat->Int},(∀i,i<P->s i=s' i)->cX P s=cX P s'
 |0,_,_,_=>rfl
 |P+1,s,s',h=>by
  unfold cX;rw[h 0 (by omega),mI (P:=P) (s:=λi=>s (i+1)) (s':=λi=>s' (i+1)) λi hi=>h (i+1) (by omega)]
def Ey:∀{P:Nat} {s r d:Nat->Int},(∀i,i<P->s i=r i+d i/\0<=r i/\0<=d i)->cX P s=cX P r+cX P d
 |0,_,_,_,_=>rfl
 |P+1,s,r,d,h=>by
  unfold cX;have h0:=h 0 (by omega);rw[Ey (P:=P) (s:=λi=>s (i+1)) (r:=λi=>r (i+1)) (d:=λi=>d (i+1)) λi hi=>h (i+1) (by omega)];omega
def Bv:∀{P:Nat} {s:Nat->Int},(∀i,i<P->0<=s i/\s i<=3)->cX P s<4^P
 |0,_,_=>Nat.one_pos
 |P+1,s,h=>by
  unfold cX;have h0:=h 0 (by omega);have h1:=Bv (P:=P) (s:=λi=>s (i+1)) λi hi=>h (i+1) (by omega);rw[zEE];omega
def Jh (j i:Nat):dg j (i+1)=dg (j/4) i:=by
 unfold dg;rw[zEE,Nat.mul_comm (4^i) 4,Nat.div_div_eq_div_mul]
def OX:∀{P:Nat} {s:Nat->Int},(∀i,i<P->0<=s i/\s i<=3)->∀i,i<P->dg (cX P s) i=s i
 |P+1,s,h,0,_=>by
  have h0:=h 0 (by omega);unfold dg cX;simp only[Nat.pow_zero,Nat.div_one];omega
 |P+1,s,h,i+1,hi=>by
  have h0:=h 0 (by omega);rw[Jh];have e1:cX (P+1) s=(s 0).toNat+4*cX P (λi=>s (i+1)):=rfl;have e:cX (P+1) s/4=cX P (λi=>s (i+1)):=by rw[e1];omega
  rw[e];exact OX (P:=P) (s:=λi=>s (i+1)) (λk hk=>h (k+1) (by omega)) i (by omega)
def OY:∀(P j:Nat),j<4^P->cX P (dg j)=j
 |0,j,h=>by simp only[Nat.pow_zero]at h;unfold cX;omega
 |P+1,j,h=>by
  unfold cX;have e:(λi=>dg j (i+1))=dg (j/4):=funext λi=>Jh j i;rw[e,OY P (j/4) (by rw[zEE]at h;omega)];unfold dg;simp only[Nat.pow_zero,Nat.div_one];omega
def UR (j i:Nat):0<=dg j i/\dg j i<=3:=by unfold dg;omega
def kM (P j i:Nat):0<=fP P j i/\fP P j i<=3:=by unfold fP;split;exact UR j i;omega
def Ez (h:∀i,i<P->0<=s i/\s i<=3) (h0:∀i,P<=i->s i=0):fP P (cX P s)=s:=by
 funext i;unfold fP;by_cases e:i<P
 .rw[zAE e];exact OX h i e
 .rw[zAG e,h0 i (by omega)]
def qr:∀{k:Nat},(∀i,i<k->0<=m i/\m i<P)->∀i,P<=i->bt m k i=0
 |0,_,_,_=>rfl
 |k+1,h,i,hi=>by
  have:=h k (by omega);rw[bt,qr (λj hj=>h j (by omega)) i hi,zAG (by omega)];rfl
def wV {N:Nat} (hj:j<4^P) (hm:∀i,i<N->0<=m i/\m i<P) (hr:aA (fP P j) m N=some r):
 r=fP P (j-cX P (bt m N))/\cX P (bt m N)<=j/\∀i,i<P->bt m N i<=dg j i:=by
 have h1:=mH (λi=>(kM P j i).1) N r hr;have h2:cX P (fP P j)=cX P r+cX P (bt m N):=Ey λi hi=>⟨by have:=h1.1 i;omega,h1.2 i,lK m N i⟩
 have h3:cX P (fP P j)=j:=by
  rw[mI (s':=dg j) λi hi=>by unfold fP;rw[zAE hi]];exact OY P j hj
 refine⟨?_,by omega,λi hi=>?_⟩
 .have e:j-cX P (bt m N)=cX P r:=by omega
  rw[e];refine(Ez (λi hi=>?_) λi hi=>?_).symm
  .have:=h1.1 i;have:=h1.2 i;have:=lK m N i;have:=kM P j i;omega
  .rw[h1.1 i,qr hm i hi];unfold fP;rw[zAG (by omega)];rfl
 .have:=h1.1 i;have:=h1.2 i;unfold fP at*;rw[zAE hi]at*;omega
def wW {N:Nat} (hm:∀i,i<N->0<=m i/\m i<P) (h:∀i,i<P->bt m N i<=dg j i):∃r,aA (fP P j) m N=some r:=by
 refine tN (λi=>(kM P j i).1) N λi=>?_;unfold fP;by_cases e:i<P
 .rw[zAE e];exact h i e
 .rw[zAG e,qr hm i (by omega)];exact zFU _
def bp (P N:Nat) (S:List (Nat->Int)):Nat->List (List Int)
 |0=>[]
 |k+1=>match S[k]? with
  |none=>bp P N S k
  |some m=>if ac P (bt m N)∈bp P N S k then bp P N S k else bp P N S k++[ac P (bt m N)]
def jG {P N:Nat} {S:List (Nat->Int)} {x:List Int}:∀{k:Nat},x∈bp P N S k↔∃i m,i<k/\S[i]?=some m/\x=ac P (bt m N)
 |0=>by simp[bp]
 |k+1=>by
  have ih:=jG (P:=P) (N:=N) (S:=S) (x:=x) (k:=k);unfold bp;cases hk:S[k]? with
  |none=>
   simp only;rw[ih];refine⟨λ⟨i,m,h1,h2,h3⟩=>⟨i,m,by omega,h2,h3⟩,λ⟨i,m,h1,h2,h3⟩=>?_⟩;by_cases e:i=k
   .subst e;rw[hk]at h2;cases h2
   .exact⟨i,m,by omega,h2,h3⟩
  |some q=>
   simp only;by_cases hq:ac P (bt q N)∈bp P N S k
   .rw[zAE hq,ih];refine⟨λ⟨i,m,h1,h2,h3⟩=>⟨i,m,by omega,h2,h3⟩,λ⟨i,m,h1,h2,h3⟩=>?_⟩;by_cases e:i=k
    .subst e;rw[hk]at h2;cases h2;rw[h3];exact jG.1 hq
    .exact⟨i,m,by omega,h2,h3⟩
   .rw[zAG hq,zCD,ih,zBU];refine⟨λh=>?_,λ⟨i,m,h1,h2,h3⟩=>?_⟩
    .rcases h with⟨i,m,h1,h2,h3⟩|h3
     .exact⟨i,m,by omega,h2,h3⟩
     .exact⟨k,q,by omega,hk,h3⟩
    .by_cases e:i=k
     .subst e;rw[hk]at h2;cases h2;exact .inr h3
     .exact .inl ⟨i,m,by omega,h2,h3⟩
def sK (P N:Nat) (S:List (Nat->Int)):∀k,(bp P N S k).length<=k
 |0=>zAA _
 |k+1=>by
  have:=sK P N S k;unfold bp;split
  .omega
  .split
   .omega
   .rw[zAV,List.length_singleton];omega
def Bw (l:List Int):Nat:=cX l.length (λi=>l.getD i 0)
def oy (P:Nat) (f:Nat->Int):Bw (ac P f)=cX P f:=by
 unfold Bw;have hl:(ac P f).length=P:=by simp[ac]
 rw[hl];refine mI λi hi=>?_;have h:(ac P f)[i]?=some (f i):=by simp[ac,hi]
 rw[zCA,h];rfl
def mJ (l x:List Int):Prop:=∀i y,x[i]?=some y->y<=l.getD i 0
instance (l x:List Int):Decidable (mJ l x):=Classical.propDecidable _
def kW {f g:Nat->Int}:mJ (ac P f) (ac P g)↔∀i,i<P->g i<=f i:=by
 have hf:∀i,i<P->(ac P f)[i]?=some (f i):=λi hi=>by simp[ac,hi]
 have hg:∀i,i<P->(ac P g)[i]?=some (g i):=λi hi=>by simp[ac,hi]
 constructor
 .intro h i hi;have:=h i _ (hg i hi);rwa [zCA,hf i hi]at this
 .intro h i y hy;have hi:i<P:=by have:=(zAO.1 hy).1;simpa [ac]using this
  rw[hg i hi]at hy;cases hy;rw[zCA,hf i hi];exact h i hi
def oz (P N:Nat) (S:List (Nat->Int)) (j:Nat) (n:Nat) (x:List Int):Nat:=if mJ (ac P (dg j)) x then max n (1+aY N S (fP P (j-Bw x)))else n
def eZ (P N:Nat) (S:List (Nat->Int)) (j k:Nat):Nat:=((bp P N S S.length).take k).foldl (oz P N S j) 0
def EA (P N:Nat) (S:List (Nat->Int)) (j:Nat):eZ P N S j 0=0:=rfl
def EC {N:Nat} {S:List (Nat->Int)} (h:(bp P N S S.length)[k]?=some x):eZ P N S j (k+1)=oz P N S j (eZ P N S j k) x:=by
 unfold eZ;rw[zAX,h,Option.toList_some,zFS];rfl
def OZ (P N:Nat) (S:List (Nat->Int)) (j n:Nat) (x:List Int):n<=oz P N S j n x:=by
 unfold oz;split
 .exact Nat.le_max_left _ _
 .exact zAA _
def ED {N:Nat} {S:List (Nat->Int)} (hw:mJ (ac P (dg j)) x):∀(l:List (List Int)) (n:Nat),x∈l->1+aY N S (fP P (j-Bw x))<=l.foldl (oz P N S j) n
 |y::l,n,h=>by
  rw[zDL];rcases zAQ.1 h with rfl|h
  .refine zAM ?_ (qq (OZ P N S j) l _);unfold oz;rw[zAE hw];exact Nat.le_max_right _ _
  .exact ED hw l _ h
def Hi {N:Nat} {S:List (Nat->Int)} (hP:P<=5) (hN:1<=N) (hS:∀m∈S,∀i,i<N->0<=m i/\m i<P) (hj:j<4^P):eZ P N S j (bp P N S S.length).length=aY N S (fP P j):=by
 have hS5:∀m∈S,∀i,i<N->0<=m i/\m i<5:=λm hm i hi=>by have:=hS m hm i hi;omega
 unfold eZ;rw[zBN];refine Nat.le_antisymm ?_ ?_
 .refine uQ (zAJ _) λn hn x hx=>?_;unfold oz;split
  .rename_i he;obtain⟨i,m,_,hm,rfl⟩:=jG.1 hx;have XS:=zAT hm;obtain⟨r,hr⟩:=wW (hS m XS) (kW.1 he);have h2:=(wV hj (hS m XS) hr).1;have h3:=Lr hN hS5 XS hr;rw[h2]at h3;rw[oy];exact Nat.max_le.2 ⟨hn,h3⟩
  .exact hn
 .rcases Ls hN hS5 (fP P j)with e|⟨m,hm,r,hr,e⟩
  .omega
  .obtain⟨h1,_,h3⟩:=wV hj (hS m hm) hr;obtain⟨i,hi⟩:=zGA.1 hm;have hx:ac P (bt m N)∈bp P N S S.length:=jG.2 ⟨i,m,(zAO.1 hi).1,hi,rfl⟩;have h4:=ED (P:=P) (N:=N) (S:=S) (j:=j) (kW.2 h3) _ 0 hx;rw[oy,<-h1]at h4;omega
def dA (P:Nat) (f:Nat->Int):(ac P f).length=P:=by simp[ac]
def mK {i:Nat} (f:Nat->Int) (h:i<P):(ac P f)[i]?=some (f i):=by simp[ac,h]
def tR (P:Nat) (f:Nat->Int):ac (P+1) f=ac P f++[f P]:=by simp[ac,List.range_succ]
def Lu (h:k<P) (s:Nat->Int):cX (P-k) (λi=>s (i+k))=(s k).toNat+4*cX (P-(k+1)) (λi=>s (i+(k+1))):=by
 rw[show P-k=(P-(k+1))+1 by omega,cX];simp only[zDR];congr 2;exact mI λi _=>by rw[show i+1+k=i+(k+1) by omega]
def Lv (hP:P<=5) (h:∀i,i<P->0<=s i/\s i<=3) (k:Nat):cX (P-k) (λi=>s (i+k))<=1024:=by
 have h1:=Bv (P:=P-k) (s:=λi=>s (i+k)) λi hi=>h (i+k) (by omega);have h2:4^(P-k)<=4^5:=zDH (by omega) (by omega);have h3:(4:Nat)^5=1024:=rfl;omega
def qs (w:nq) (v:fu) (P:Nat) (hP:P<=5) (s:Nat->Int) (hs:∀i,i<P->0<=s i/\s i<=3) (hl:ah w v (ac P s)):
 Calls ZP 123 #[v] w (mT w (.int .i64 (cX P s:Nat))):=by
 obtain⟨ma,mc,uN,L6⟩:=hl;obtain rfl:=uN.eq;have HM:Hid (bi w (.slice ma (ac P s).length mc) (ac P s).length ma mc/\∀d,ma=some d->∀(j:Nat) (x:Int),(ac P s)[j]?=some x->At w d j (.int .i64 x)):=⟨uN,L6⟩
 have HS:=hid hs;have BU:=uN.le;have HB:=λk=>Lv hP hs k;rw[dA]at BU⊢;have QM:wrap64 ((P:Int)-1)=(P:Int)-1:=by unfold wrap64;omega
 go_enter ZF123,Tryz.ntmps123
 go_wp2
 go_loop [3,4] (λa i=>∃k:Nat,k<=P/\a=.int .i64 (cX (P-k) (λi=>s (i+k)):Nat)/\i=.int .i64 ((k:Int)-1)) (λ_ i=>(intOf i+1).toNat)
 case atStart=>exact⟨P,zAA _,by rw[Nat.sub_self];rfl,rfl⟩
 case round=>
  obtain⟨k,hk,rfl,rfl⟩:=hrel;by_cases au:0<k
  .obtain⟨j,rfl⟩:∃j,k=j+1:=⟨k-1,by omega⟩
   obtain⟨⟨blk,off,sp⟩,x,rfl,hx,x0⟩:=HM.o.1.elem HM.o.2 (show j<(ac P s).length by rw[dA];omega);obtain rfl:sp=none:=x0.1;rw[mK s (by omega)]at hx;cases hx;have g0:=x0.2;simp only at g0;have hsj:=HS.o j (by omega);have HE:Hid (cX (P-j) (λi=>s (i+j))=(s j).toNat+4*cX (P-(j+1)) (λi=>s (i+(j+1)))):=Lu (by omega) s;obtain⟨nn,Ps⟩:=ex1 (cX (P-(j+1)) (λi=>s (i+(j+1))));have sY:nn<=1024:=by rw[<-Ps];exact HB (j+1)
   obtain⟨xj,hxj⟩:=ex1 (s j);have HEE:Hid (cX (P-j) (λi=>s (i+j))=xj.toNat+4*nn):=by rw[<-Ps,<-hxj];exact HE.o
   rw[hxj]at g0 hsj;rw[Ps];have Zv:((j+1:Nat):Int)-1=(j:Int):=by omega
   rw[Zv];have xw:(0:Int)<=(j:Int):=by omega
   have hjp:(j:Int)<(P:Int):=by omega
   have lL:wrap64 (4*(nn:Int))=4*(nn:Int):=by unfold wrap64;omega
   have zS:wrap64 (4*(nn:Int)+xj)=4*(nn:Int)+xj:=by unfold wrap64;omega
   have hw3:wrap64 ((j:Int)-1)=(j:Int)-1:=by unfold wrap64;omega
   go_wp2
   refine⟨⟨j,by omega,?_,rfl⟩,by simp[intOf]<;>omega⟩;rw[HEE.o];exact zBE _ (by omega)
  .obtain rfl:k=0:=by omega
   have xw:¬(0:Int)<=((0:Nat):Int)-1:=by omega
   have HE:Hid (cX (P-0) (λi=>s (i+0))=cX P s):=rfl;rw[HE.o];go_wp2
   go_ret;exact⟨rfl,rfl⟩
def Lw (w:nq) (P j:Nat) (hP:P<=5) (hj:j<=1024):Calls ZP 124 #[.int .i64 (P:Int),.int .i64 (j:Int)] w (λe w'=>(∃u,e=.returned u/\w'.ownsRow w.heap.size 3 1 u P ((ac P (dg j)).map (Value.int .i64)))/\Below w.heap.size w w'):=by
 obtain⟨i0,hi,m9,kd,lO⟩:=info_parts jq;go_enter ZF124,Tryz.ntmps124
 go_wp2
 go_loopw [1,5,6] (λnv v i wr=>∃k:Nat,k<=P/\nv=.int .i64 ((j/4^k:Nat):Int)/\i=.int .i64 k/\Hid (wr.ownsRow w.heap.size 3 1 v k ((ac k (dg j)).map (Value.int .i64)))/\Hid (Below w.heap.size w wr)) (λ_ _ i _=>P-(intOf i).toNat)
 case atStart=>exact⟨0,zAJ _,by simp,rfl,World.ownsRow_nil _ _ _ _,Below.refl _ _⟩
 case round=>
  obtain⟨k,hk,rfl,rfl,hO,hB⟩:=hrel;by_cases au:k<P
  .have Jc:(k:Int)<(P:Int):=by omega
   have cB:=hB.o.size;have HO:=hO;obtain⟨d,hd⟩:=ex1 (j/4^k);have Ic:d<=1024:=by rw[<-hd];exact zAM (Nat.div_le_self _ _) hj
   have HD:Hid (j/4^(k+1)=d/4):=by unfold Hid;rw[<-hd,zEE,Nat.div_div_eq_div_mul]
   have HDG:Hid (dg j k=((d%4:Nat):Int)):=by rw[<-hd];rfl
   rw[hd];go_wp2_with(at_builtin;refine wpList_append_own _ rfl (.tmp 12) (.tmp 15) 35 rfl w.heap.size 3 i0 (.int .i64 0) 1 8 dC hi m9 kd lO rfl (by decide) _ _ _ rfl (HO.o.alloc _) ⟨_,0,none⟩ 1 1 [.int .i64 ((d:Int)%4)] rfl rfl (io _ _ _) (iU _) (by unfold maxLen;omega) (by omega) (by simp;omega) ?_;intro v' w1 eN gh _)
   have oK:Hid (w1.ownsRow w.heap.size 3 1 v' (k+1) ((ac (k+1) (dg j)).map (Value.int .i64))):=by
    rw[tR,HDG.o,zCR];exact eN
   have eu:=hid (Below.grown (Below.alloc hB.o cB _) gh (by simp;omega) (ip HO.o));go_wp2
   refine⟨⟨k+1,by omega,?_,by go_num,oK,eu⟩,by simp[intOf];omega⟩;rw[HD.o];exact zBE _ (by omega)
  .have e:k=P:=by omega
   subst e;go_wp2
   go_ret;exact⟨⟨_,rfl,hO.o⟩,hB.o⟩
end Go.Proofs.Cz
end
namespace Go.Proofs.Cz
open Go.RowKit
def zx (m:Nat->Int):∀k i,bt m k i<=k
 |0,_=>zFU _
 |k+1,i=>by
  have:=zx m k i;unfold bt;split<;>omega
def Hj {w:nq} {g n:Nat} {l:List Int} (h:w.rowIs g 3 n (λi=>.int .i64 (l.getD i 0))) (hl:l.length=n) (hn:n<=maxLen):w.ownsRow g 3 1 (.slice (some ⟨g,0,none⟩) n n) n (l.map (Value.int .i64)):=by
 obtain⟨c,h1,h2,h3⟩:=h;refine⟨by simp[hl],.inr ⟨g,n,c,rfl,zAA _,h1,zAA _,hn,by rw[h2,Nat.mul_one],?_⟩⟩;apply List.ext_getElem?;intro i;rw[zCG,zDF];by_cases hi:i<n
 .rw[zAE (by omega),zDM,h3 i hi,zAI (by omega)];show some (Value.int .i64 (l.getD i 0))=some (Value.int .i64 l[i]);rw[zCA,zAI (by omega)];rfl
 .rw[zAG (by omega),zCT (by omega)];rfl
def EE {P i:Nat} (f:Nat->Int) (h:i<P):(ac P f).getD i 0=f i:=by rw[zCA,mK f h];rfl
def Hk (w:nq) (v:fu) (P N:Nat) (hP:P<=5) (hN:N<=4) (m:Nat->Int) (hm:∀i,i<N->0<=m i/\m i<P) (hl:ah w v (ac N m)):
 Calls ZP 138 #[.int .i64 (P:Int),v] w (λe w'=>(∃u,e=.returned u/\w'.ownsRow w.heap.size 3 1 u P ((ac P (bt m N)).map (Value.int .i64)))/\Below w.heap.size w w'):=by
 obtain⟨ma,mc,uN,L6⟩:=hl;obtain rfl:=uN.eq;have HM:Hid (bi w (.slice ma (ac N m).length mc) (ac N m).length ma mc/\∀d,ma=some d->∀(j:Nat) (x:Int),(ac N m)[j]?=some x->At w d j (.int .i64 x)):=⟨uN,L6⟩
 have BV:=hid hm;have BU:=uN.le;rw[dA]at BU⊢;have jb:=run_make_row' (P:=ZP) 35 3 (.int .i64 0) 8 dC jq rfl .i64 .i64 P (by omega) (by omega) w;obtain⟨A,hA⟩:=ex1 (w.alloc (.cells (madeCells #[.int .i64 0] P) 3));have PH:Hid (A.rowIs w.heap.size 3 P (λ_=>.int .i64 0)):=by unfold Hid;rw[<-hA];exact World.rowIs_made w _ P 3
 have HA:=hid ((bG hA).below (by simp) (zAA _));rw[hA]at jb;go_enter ZF138,Tryz.ntmps138
 go_wp2
 go_loopw [6] (λi wr=>∃k:Nat,k<=N/\i=.int .i64 k/\Hid (wr.rowIs w.heap.size 3 P (λi=>.int .i64 (bt m k i)))/\Hid (Below w.heap.size w wr)) (λi _=>N-(intOf i).toNat)
 case atStart=>exact⟨0,zAJ _,rfl,PH.o,HA.o⟩
 case round=>
  obtain⟨k,hk,rfl,hR,hB⟩:=hrel;by_cases au:k<N
  .obtain⟨⟨blk,off,sp⟩,x,rfl,hx,x0⟩:=HM.o.1.elem HM.o.2 (show k<(ac N m).length by rw[dA];exact au);obtain rfl:sp=none:=x0.1;rw[mK m au]at hx;cases hx;have g0:=(x0.later (Kp.of hB.o)).2;simp only at g0;obtain⟨q,hq⟩:∃q:Nat,m k=q:=⟨(m k).toNat,by have:=BV.o k au;omega⟩
   have HQ:=hid hq;have hqP:q<P:=by have:=BV.o k au;omega
   have hqI:(q:Int)<(P:Int):=by omega
   have hkN:(k:Int)<(N:Int):=by omega
   rw[hq]at g0;have sY:=lK m k q;have xh:=zx m k q;obtain⟨nv,Yi⟩:=ex1 (bt m k q);have c0:=hR.o.cell hqP;have f0:=hR.o.frozen q;simp only[Yi]at c0;rw[Yi]at sY xh;have HNV:=hid Yi;have lL:wrap64 (nv+1)=nv+1:=by unfold wrap64;omega
   go_wp2
   refine⟨⟨k+1,by omega,by go_num,?_,?_⟩,by simp[intOf];omega⟩
   .refine(hR.o.set q _).congr λi hi=>?_;have h1:=HQ.o;by_cases e:i=q
    .subst e;rw[zAE rfl,bt,zAE (by omega),HNV.o]
    .simp only[zAG e,zAG (show¬i=(m k).toNat by omega)];rw[bt,zAG (show¬i=(m k).toNat by omega),Int.add_zero]
   .exact hB.o.setCell (zAA _) _
  .obtain rfl:k=N:=by omega
   go_wp2
   go_ret;refine⟨⟨_,rfl,?_⟩,hB.o⟩;exact Hj (hR.o.congr λi hi=>by rw[EE _ hi]) (dA _ _) (by unfold maxLen;omega)
def Hl (w:nq) (v v':fu) (l x:List Int) (h:ah w v l) (h':ah w v' x) (hlen:l.length=x.length) (hx4:x.length<=100):
 Calls ZP 125 #[v,v'] w (λe w'=>(∃r,e=.returned (.bool r)/\Tr r (mJ l x))/\Below w.heap.size w w'):=by
 obtain⟨a,c,h1,h2⟩:=h;obtain⟨a',c',rZ,sQ⟩:=h';have H:Hid (bi w v l.length a c/\_):=⟨h1,h2⟩
 have H':Hid (bi w v' x.length a' c'/\_):=⟨rZ,sQ⟩
 obtain rfl:=h1.eq;obtain rfl:=rZ.eq;have m1:=h1.le;have m1':=rZ.le;have HL:=hid hlen;rw[hlen]at m1⊢;go_enter ZF125,Tryz.ntmps125
 go_wp2
 go_loopw [5] (λi wr=>∃k:Nat,k<=x.length/\i=.int .i64 k/\Hid (∀i y,i<k->x[i]?=some y->y<=l.getD i 0)/\∃n,wr=w.drewN n) (λi _=>x.length-(intOf i).toNat)
 case atStart=>exact⟨0,zAJ _,rfl,(λi y h=>absurd h (zDK _)),0,rfl⟩
 case round=>
  obtain⟨k,hk,rfl,hT,n,rfl⟩:=hrel;by_cases au:k<x.length
  .obtain⟨⟨blk,off,sp⟩,y,rfl,hy,y0⟩:=H.o.1.elem H.o.2 (show k<l.length by rw[HL.o];exact au);obtain⟨⟨zct,zcu,S8⟩,z,rfl,hz,z0⟩:=H'.out.1.elem H'.out.2 au;obtain rfl:sp=none:=y0.1;obtain rfl:S8=none:=z0.1;have HY:Hid (l[k]?=some y/\x[k]?=some z):=⟨hy,hz⟩
   have g0:=y0.2;have g0':=z0.2;simp only at g0 g0';have qu:(k:Int)<(x.length:Int):=by omega
   by_cases BE:y<z
   .have Lp:Hid (¬mJ l x):=λhe=>by
     have:=he k z HY.o.2;rw[zCA,HY.o.1]at this;simp at this;omega
    go_wp2
    go_quiet (fail)
    go_wp2
    go_ret;exact⟨⟨false,rfl,Tr.no Lp.o⟩,Below.drewN (Below.drewN (Below.refl _ _) _) _⟩
   .go_wp2
    go_quiet (fail)
    go_wp2
    go_round
    case rel=>exact⟨k+1,by omega,by go_num,(λi y' hi LR=>by
     by_cases e:i=k
     .subst e;rw[HY.o.2]at LR;cases LR;rw[zCA,HY.o.1];simp;omega
     .exact hT.o i y' (by omega) LR),_,rfl⟩
    case measure=>simp[intOf];omega
  .have e:k=x.length:=by omega
   subst e;go_wp2
   go_ret;exact⟨⟨true,rfl,Tr.yes λi y hy=>hT.o i y (zAO.1 hy).1 hy⟩,Below.drewN (Below.refl _ _) _⟩
def Hm {b:aj} {k:Nat} {x:Part} (h:b.ptz[k]?=some x):ci b b.ptz.length k=x.d8:=by unfold ci;rw[zAE (zAO.1 h).1,h]
def EF (w:nq) (v:fu) (b:aj) (hb:az w v b) (hn:b.ptz.length<=5):Calls ZP 80 #[v] w (GD w (ac b.ptz.length (ci b b.ptz.length))):=by
 have HB:=hid hb;obtain⟨a2,c2,a3,c3,a4,c4,rfl⟩:=hb.db;obtain⟨i0,hi,m9,kd,lO⟩:=info_parts jq;obtain⟨A1,aZ⟩:=ex1 (w.alloc (.cells (bx b a2 c2 a3 c3 a4 c4) 26));have B1:=hid (cF aZ);have HW:=hid ((bG aZ).below (by simp) (zAA _));obtain⟨pa,pc,rQ,hpe⟩:=hb.Sn;have hpq:=rQ.eq;cases hpq;have pw:Hid (bi w (.slice a2 b.ptz.length c2) b.ptz.length a2 c2/\_):=⟨rQ,hpe⟩
 have hle:=rQ.le;go_enter ZF80,Tryz.ntmps80
 go_wp2_with fail
 go_loopw [3,4] (λv i wr=>∃k:Nat,k<=b.ptz.length/\i=.int .i64 k/\Hid (wr.ownsRow A1.heap.size 3 1 v k ((ac k (ci b b.ptz.length)).map (Value.int .i64)))/\Hid (Below A1.heap.size A1 wr)) (λ_ i _=>b.ptz.length-(intOf i).toNat)
 case atStart=>exact⟨0,zAJ _,rfl,World.ownsRow_nil _ _ _ _,Below.refl _ _⟩
 case round=>
  obtain⟨k,hk,rfl,hO,hB⟩:=hrel;obtain⟨-,-,z2⟩:=(hidb B1 hB.o).o.c3;have j9:=HW.t hB.o;have cB:=hB.o.size;by_cases au:k<b.ptz.length
  .obtain⟨⟨lb,lf,sp⟩,x,rfl,hx,e0,e1,e2,_⟩:=pw.o.1.elem pw.o.2 au;obtain rfl:sp=none:=e2.1;have g0:=(e2.later (Kp.of j9.o)).2;simp only at g0;rw[<-zBD]at g0;have HX:=hid (Hm hx);obtain⟨st,cD⟩:=ex1 (x.d8);rw[cD]at g0 HX;have Jc:(k:Int)<(b.ptz.length:Int):=by omega
   go_wp2_with(at_builtin;refine wpList_append_own _ rfl (.tmp 12) (.tmp 19) 35 rfl A1.heap.size 3 i0 (.int .i64 0) 1 8 dC hi m9 kd lO rfl (by decide) _ _ _ rfl (hO.o.alloc _) ⟨_,0,none⟩ 1 1 [.int .i64 st] rfl rfl (io _ _ _) (iU _) (by unfold maxLen;omega) (by omega) (by simp;omega) ?_;intro v' w1 eN gh _)
   have oK:Hid (w1.ownsRow A1.heap.size 3 1 v' (k+1) ((ac (k+1) (ci b b.ptz.length)).map (Value.int .i64))):=by
    rw[tR,HX.o,zCR];exact eN
   have eu:=hid (Below.grown (Below.alloc hB.o cB _) gh (by simp;omega) (ip hO.o));go_wp2_with fail
   go_round
   case rel=>exact⟨k+1,by omega,by go_num,oK,eu⟩
   case measure=>simp[intOf];omega
  .have e:k=b.ptz.length:=by omega
   subst e;go_wp2_with fail
   go_ret;exact GD.mk (ah.bY (by rw[dA];exact hO.o)) j9.o
end Go.Proofs.Cz

namespace Go.Proofs.Cz
open Go.RowKit
variable {N P k:Nat} {S:List (Nat->Int)} {m:Nat->Int}
def Bx {l m:List Int} {y:Int} (h:l.take k=m.take k) (hy:l[k]?=some y) (hm:m[k]?=some y):l.take (k+1)=m.take (k+1):=by rw[zAX,zAX,h,hy,hm]
def Lx (w:nq) (v v':fu) (l m:List Int) (h:ah w v l) (h':ah w v' m):Calls ZP 18 #[v,v'] w (cg w (.bool (decide (l=m)))):=by
 by_cases hl:l.length=m.length
 .obtain⟨a,c,h1,h2⟩:=h;obtain⟨a',c',rZ,sQ⟩:=h';have H:Hid (bi w v l.length a c/\_):=⟨h1,h2⟩
  have H':Hid (bi w v' m.length a' c'/\_):=⟨rZ,sQ⟩
  obtain⟨rfl,l1,m1,n1,r1⟩:=h1;obtain⟨rfl,l1',m1',n1',WC⟩:=rZ;unfold maxLen at m1 m1';have HL:=hid hl;rw[<-hl];have hee:((l.length:Nat):Int)=((l.length:Nat):Int):=rfl;go_enter ZF18,Tryz.ntmps18
  go_wp2
  go_loopw [5] (λi wr=>∃k:Nat,k<=l.length/\i=.int .i64 k/\Hid (l.take k=m.take k)/\∃n,wr=w.drewN n) (λi _=>l.length-(intOf i).toNat)
  case atStart=>exact⟨0,zAJ _,rfl,(by unfold Hid;simp),0,rfl⟩
  case round=>
   obtain⟨k,hk,rfl,hT,n,rfl⟩:=hrel;by_cases au:k<l.length
   .obtain⟨⟨blk,off,sp⟩,y,rfl,hy,y0⟩:=H.o.1.elem H.o.2 au;obtain⟨⟨zct,zcu,S8⟩,y',rfl,LR,y0'⟩:=H'.out.1.elem H'.out.2 (show k<m.length by rw[<-HL.o];exact au);obtain rfl:sp=none:=y0.1;obtain rfl:S8=none:=y0'.1;have HY:Hid (l[k]?=some y/\m[k]?=some y'):=⟨hy,LR⟩
    have g0:=y0.2;have g0':=y0'.2;simp only at g0 g0';have qu:(k:Int)<(l.length:Int):=by omega
    by_cases ZF:y=y'
    .subst ZF;go_wp2
     go_quiet (fail)
     go_wp2
     go_round
     case rel=>exact⟨k+1,by omega,by go_num,Bx hT.o HY.o.1 HY.o.2,_,rfl⟩
     case measure=>simp[intOf];omega
    .have Lp:Hid (decide (l=m)=false):=zCE λe=>ZF (by have:=HY.o;rw[e]at this;exact zAW (this.1.symm.trans this.2));go_wp2
     go_quiet (fail)
     go_wp2
     go_ret;exact⟨by rw[Lp.o];rfl,Below.drewN (Below.drewN (Below.refl _ _) _) _⟩
   .have e:k=l.length:=by omega
    have HEQ:=hid (zCK (by have:=hT.o;rw[e,zBN,HL.o,zBN]at this;exact this));subst e;go_wp2
    go_ret;exact⟨by rw[HEQ.o];rfl,Below.drewN (Below.refl _ _) _⟩
 .have Lp:Hid (decide (l=m)=false):=zCE λe=>hl (by rw[e]);obtain⟨a,c,h1,_⟩:=h;obtain⟨a',c',rZ,_⟩:=h';obtain rfl:=h1.eq;obtain rfl:=rZ.eq;have m1:=h1.le;have m1':=rZ.le;have hll:¬((l.length:Nat):Int)=((m.length:Nat):Int):=by omega
  go_enter ZF18,Tryz.ntmps18
  go_wp2
  go_ret;exact⟨by rw[Lp.o];rfl,Below.refl _ _⟩
def Ly (hm:S[k]?=some m) (h:ac P (bt m N)∈bp P N S k):bp P N S (k+1)=bp P N S k:=by
 rw[bp,hm];simp only;rw[zAE h]
def O0 (hm:S[k]?=some m) (h:¬ac P (bt m N)∈bp P N S k):bp P N S (k+1)=bp P N S k++[ac P (bt m N)]:=by
 rw[bp,hm];simp only;rw[zAG h]
def fV.later {w W W':nq} {v:fu} {L:List (List Int)} (h:fV w v L W) (hb:Below W.heap.size W W'):fV w v L W':=by
 obtain⟨h1,fs,h2,h3⟩:=h;exact⟨h1.trans (hb.mono h1.size),fs,aR h2 λk e=>hb.block k (av h2 k e).2,h3.on λk cur e=>hb.block k (zAC.1 e).1⟩
def SK {K:List (List Int)} {X y:List Int} {q:Nat} (hy:K[q]?=some y) (h:Tr false (X∈K.take q)):Tr (decide (y=X)) (X∈K.take (q+1)):=by
 unfold Tr;rw[zAX,hy,zCF];constructor
 .intro e;subst e;exact List.mem_append_right _ (by simp)
 .intro h2;rcases zCD.1 h2 with h3|h3
  .exact absurd h3 h.f
  .simpa using(show X=y by simpa using h3).symm
def EG (w:nq) (v:fu) (P N:Nat) (hP:P<=5) (hN:N<=4) (S:List (Nat->Int)) (hS:∀m∈S,∀i,i<N->0<=m i/\m i<P) (hl:cz w v (S.map (ac N))) (hSl:S.length<=625):
 Calls ZP 122 #[.int .i64 (P:Int),v] w (λe w'=>(∃u,e=.returned u/\cz w' u (bp P N S S.length))/\Below w.heap.size w w'):=by
 obtain⟨ua,uc,uR,PO⟩:=hl;obtain rfl:=uR.eq;have HU:Hid (bi w (.slice ua (S.map (ac N)).length uc) (S.map (ac N)).length ua uc/\∀d,ua=some d->∀(j:Nat) (o:List Int),(S.map (ac N))[j]?=some o->∃vf,At w d j vf/\ah w vf o):=⟨uR,PO⟩
 have HS:=hid hS;have SI:=uR.le;have hlen:(S.map (ac N)).length=S.length:=by simp
 rw[hlen]at SI⊢;obtain⟨i0,xg,m9,kd,lO⟩:=info_parts Bc;go_enter ZF122,Tryz.ntmps122
 go_wp2_with fail
 go_loopw [6,5,7,8,9] (λi v _ _ _ wr=>∃(k:Nat) (v0:fu),k<=S.length/\i=.int .i64 k/\v0=v/\Hid (fV w v0 (bp P N S k) wr)) (λi _ _ _ _ _=>S.length-(intOf i).toNat)
 case atStart=>exact⟨0,_,zAJ _,rfl,rfl,Below.refl _ _,[],World.ownsRow_nil _ _ _ _,eJ.nil _⟩
 case round=>
  obtain⟨wo,rfl⟩:∃wo,wo=wr:=⟨wr,rfl⟩
  obtain⟨k,v0,hk,rfl,rfl,hO⟩:=hrel;obtain⟨oa,oc,UH⟩:=(let⟨_,fs,h2,_⟩:=hO.o;iV h2:∃a cap,v0=.slice a (bp P N S k).length cap)
  have zib:(bp P N S k).length<=oc:=by
   obtain⟨_,fs,h2,_⟩:=hO.o;obtain⟨a,cap,h4,_⟩:=Ja h2;have h5:=h4.eq;rw[UH]at h5;cases h5;exact h4.le
  subst UH;by_cases au:k<S.length
  .obtain⟨⟨lb,lf,sp⟩,o,rfl,ho,vf,e0,ef⟩:=HU.o.1.elem HU.o.2 (show k<(S.map (ac N)).length by rw[hlen];exact au);obtain rfl:sp=none:=e0.1;obtain⟨m,hm⟩:∃m,S[k]?=some m:=⟨_,zAI au⟩
   rw[zCG,hm]at ho;cases ho;have BV:=hid hm;have qu:(k:Int)<(S.length:Int):=by omega
   have Mg:=(e0.later (Kp.of hO.o.1)).2;simp only at Mg;have hC:=Hk wo vf P N hP hN m (HS.o m (zAT hm)) (ef.later (Kp.of hO.o.1));obtain⟨X,hX⟩:=ex1 (ac P (bt m N));have HX:=hid hX;have hXl:X.length=P:=by rw[<-hX];exact dA _ _
   rw[hX]at hC;obtain⟨K,hK⟩:=ex1 (bp P N S k);have HK:=hid hK;have hKl:K.length<=625:=by rw[<-hK];exact zAM (sK P N S k) (by omega)
   rw[hK]at hO zib⊢
   go_wp2_with(go_at_call 138
               refine hC.mono ?_;rintro e w2 ⟨⟨u,rfl,hu⟩,ib⟩;obtain⟨ga,gc,rfl⟩:=iV hu;have XT:=hid hu;have eu:=hid ib;have xp:=hO.o.later ib;obtain⟨h1,fs,h2,h3⟩:=xp;have H1:=hid h1;have EY:=hid h2;have I7:=hid h3)
   go_loopw [8,9] (λbv j wr=>∃(B:Bool) (q:Nat),q<=K.length/\bv=.bool B/\j=.int .i64 q/\Hid (Tr B (X∈K.take q))/\Hid (Below w2.heap.size w2 wr)) (λ_ j _=>K.length-(intOf j).toNat)
   case atStart=>exact⟨false,0,zAJ _,rfl,rfl,Tr.no (by simp),Below.refl _ _⟩
   case round=>
    obtain⟨B,q,hq,rfl,rfl,hT,Hn⟩:=hrel;by_cases So:q<K.length
    .have hqK:(q:Int)<(K.length:Int):=by omega
     cases B
     .obtain⟨ra,rc,Ri,Fy⟩:=cz.bY EY.o I7.o;obtain⟨⟨kb,kf,sp⟩,y,e5,hy,vy,y0,fy⟩:=Ri.elem Fy So;obtain rfl:sp=none:=y0.1;have h5:=Ri.eq;cases h5;have hkv:=(y0.later (Kp.of Hn.o)).2;simp only at hkv;subst e5;have HY:=hid hy;have hI:=Lx wr vy _ y X (fy.later (Kp.of Hn.o)) ((ah.bY (by rw[hXl];exact XT.o)).later (Kp.of Hn.o))
      go_wp2_with(go_at_call 18
                  refine hI.mono ?_;rintro e w5 ⟨rfl,qd⟩;have lQ:=Hn.t qd)
      go_round
      case rel=>exact⟨_,q+1,by omega,rfl,by go_num,SK HY.o hT.o,lQ⟩
      case measure=>simp[intOf];omega
     .go_wp2_with fail
      go_round
      case rel=>exact⟨true,q+1,by omega,rfl,by go_num,Tr.yes (by rw[zAX];exact zGE _ hT.o.t),Hn⟩
      case measure=>simp[intOf];omega
    .have e:q=K.length:=by omega
     subst e;have hqK:¬((K.length:Nat):Int)<((K.length:Nat):Int):=by omega
     rw[zBN]at hT;cases B
     .have HG:Hid (bp P N S (k+1)=K++[X]):=by
       unfold Hid;rw[O0 BV.o (by rw[HX.o,HK.o];exact hT.o.f),HX.o,HK.o]
      have Be:=hid (aR EY.o λk e=>Hn.o.block k (av EY.o k e).2);have OS:=hid (aR XT.o λk e=>Hn.o.block k (av XT.o k e).2);have zid:Hid (eJ wr K fs):=I7.o.on λk cur e=>Hn.o.block k (zAC.1 e).1;have zcG:=H1.t Hn.o;have cB:=zcG.o.size
      go_wp2_with(at_builtin
                  refine wpList_append_own _ rfl (.tmp 39) (.tmp 41) 98 rfl w.heap.size 35 i0 (.slice none 0 0) 1 24 nZ xg m9 kd lO rfl (by decide) _ K.length fs rfl (Be.o.alloc _) ⟨_,0,none⟩ 1 1 [.slice ga P gc] rfl rfl (io _ _ _) (λu hu=>by simp at hu;subst hu;rfl) (by unfold maxLen;omega) (by omega) (by simp;omega) ?_;intro v3 w3 B6 wJ _;have HO4:=hid B6;have BY:Hid (∀k:Nat,k<wr.heap.size->some k≠(Value.slice oa K.length oc).ownBlock->w3.heap[k]?=wr.heap[k]?):=(λk hk bu=>(wJ.block k (by simp;omega) bu).trans ((ab.alloc [] wr _).block k hk (by simp)))
                  have mV:=hid (Below.grown (zcG.o.alloc cB _) wJ (by simp;omega) (ip Be.o)))
      have wK:Hid (fV w v3 (K++[X]) w3):=by
       refine⟨mV.o,_,by rw[zAV];exact HO4.o,eJ.snoc (zid.o.on λk cur e=>BY.o k (zAC.1 e).1 λhm=>?_) ?_⟩
       .obtain⟨_,⟨e2,_⟩|⟨g,cap,XE,e2,_,hg,_⟩⟩:=Be.o
        .rw[e2]at hm;exact absurd hm (by simp[Value.ownBlock])
        .rw[e2]at hm;have e3:g=k:=by simpa [Value.ownBlock]using hm.symm
         rw[<-e3,hg]at e;exact absurd e (by simp)
       .rw[hXl];refine iq (aR OS.o λk e=>BY.o k (av OS.o k e).2 λe2=>?_) (zAJ _);obtain⟨_,⟨e3,_⟩|⟨g,cap,XE,e3,_,hg,_⟩⟩:=OS.o
        .rw[e3]at e;exact absurd e (by simp[Value.ownBlock])
        .obtain⟨_,⟨e4,_⟩|⟨g',kO,zpy,e4,_,Fb,_⟩⟩:=Be.o
         .rw[e4]at e2;exact absurd e2 (by simp[Value.ownBlock])
         .rw[e3]at e;rw[e4]at e2;have h6:g=k:=by simpa [Value.ownBlock]using e
          have h7:g'=k:=by simpa [Value.ownBlock]using e2.symm
          rw[h6]at hg;rw[h7,hg]at Fb;exact absurd Fb (by simp)
      go_wp2_with fail
      go_round
      case rel=>exact⟨k+1,_,by omega,by go_num,rfl,by rw[HG.o];exact wK⟩
      case measure=>simp[intOf];omega
     .have HG:Hid (bp P N S (k+1)=K):=by
       unfold Hid;rw[Ly BV.o (by rw[HX.o,HK.o];exact hT.o.t),HK.o]
      have HN3:=hid (fV.later ⟨H1.o,fs,EY.o,I7.o⟩ Hn.o);go_wp2_with fail
      go_round
      case rel=>exact⟨k+1,_,by omega,by go_num,rfl,by rw[HG.o];exact HN3⟩
      case measure=>simp[intOf];omega
  .have e:k=S.length:=by omega
   subst e;have qu:¬((S.length:Nat):Int)<((S.length:Nat):Int):=by omega
   obtain⟨h1,fs,h2,h3⟩:=hO.o;have XF:=hid (cz.bY h2 h3);have HB:=hid h1;go_wp2_with fail
   go_ret;exact⟨⟨_,rfl,XF.o⟩,HB.o⟩
def Ho {b:aj} (hv:Valid b) (i:Nat):0<=ci b b.ptz.length i/\ci b b.ptz.length i<=3:=by
 unfold ci;split
 .rename_i h;rw[zAI h];exact(hv.ptz.all i _ h (zAI h)).1.d8
 .omega
end Go.Proofs.Cz
namespace Go.Proofs.Cz
open Go.RowKit
variable {N P:Nat} {S:List (Nat->Int)}
def Ji:∀{P:Nat} {f:Nat->Int} {i:Nat},i<P->1<=f i->1<=cX P f
 |0,_,_,h,_=>absurd h (zDK _)
 |P+1,f,0,_,h1=>by rw[cX];omega
 |P+1,f,i+1,h,h1=>by
  have:=Ji (P:=P) (f:=λi=>f (i+1)) (i:=i) (by omega) h1;rw[cX];omega
def zy (P j:Nat):total (fP P j)<=15:=by
 have h0:=kM P j 0;have h1:=kM P j 1;have h2:=kM P j 2;have h3:=kM P j 3;have h4:=kM P j 4
 unfold total;omega
def Lz (hN:1<=N) (hS:∀m∈S,∀i,i<N->0<=m i/\m i<5) (j:Nat):∀q,eZ P N S j q<=16:=by
 intro q;unfold eZ;refine uQ (zAJ _) λn hn x hx=>?_;unfold oz;split
 .have h1:aY N S (fP P (j-Bw x))<=_:=oh hN hS (total (fP P (j-Bw x))+1) (fP P (j-Bw x));have h2:=zy P (j-Bw x);exact Nat.max_le.2 ⟨hn,by omega⟩
 .exact hn
def SL (hN:1<=N) (hS:∀m∈S,∀i,i<N->0<=m i/\m i<5) (j:Nat):aY N S (fP P j)<=15:=
 zAM (oh hN hS (total (fP P j)+1) (fP P j)) (zy P j)
def O4 {j:Nat} {x:List Int} (hN:1<=N) (hS:∀m∈S,∀i,i<N->0<=m i/\m i<P) (hj:j<4^P) (hx:x∈bp P N S S.length) (he:mJ (ac P (dg j)) x):
 ∃f:Nat->Int,x=ac P f/\(∀i,i<P->0<=f i/\f i<=3)/\Bw x=cX P f/\1<=cX P f/\cX P f<=j:=by
 obtain⟨i,m,_,hm,rfl⟩:=jG.1 hx;have XS:=zAT hm;have h1:=kW.1 he;obtain⟨r,hr⟩:=wW (hS m XS) h1;have h2:=wV hj (hS m XS) hr;refine⟨bt m N,rfl,λi hi=>⟨lK m N i,?_⟩,oy _ _,?_,h2.2.1⟩
 .have:=h1 i hi;have:=UR j i;omega
 .have h3:=hS m XS 0 hN;refine Ji (i:=(m 0).toNat) (by omega) ?_;have h4:bt m 1 (m 0).toNat=1:=by simp[bt]
  have h5:=ox m (k:=1) (n:=N) (m 0).toNat hN;omega
def By (w:nq) (v vs:fu) (P N:Nat) (hP:P<=5) (hN1:1<=N) (hN:N<=4) (S:List (Nat->Int)) (hS:∀m∈S,∀i,i<N->0<=m i/\m i<P) (s:Nat->Int) (hs:∀i,i<P->0<=s i/\s i<=3) (h0:∀i,P<=i->s i=0)
 (hl:ah w v (ac P s)) (hL:cz w vs (S.map (ac N))) (hSl:S.length<=625):Calls ZP 79 #[v,vs] w (cg w (.int .i64 (aY N S s:Nat))):=by
 have HS:=hid hS;have HS5:Hid (∀m∈S,∀i,i<N->0<=m i/\m i<5):=λm hm i hi=>by have:=hS m hm i hi;omega
 have PC:Hid (1<=N):=hN1;have B7:=hid hs;have HV:=hid hl;have Yj:=EG w vs P N hP hN S hS hL hSl;have hKl:(bp P N S S.length).length<=625:=zAM (sK P N S _) hSl;obtain⟨ma,mc,uN,L6⟩:=hl;obtain rfl:=uN.eq;have hmc:=uN.le;have XU:cX P s<4^P:=Bv hs;have h4P:(4:Nat)^P<=1024:=zAM (zDH (by omega) hP) (by decide);have zcH:Hid (aY N S (fP P (cX P s))=aY N S s):=by unfold Hid;rw[Ez hs h0]
 obtain⟨ns,Bz⟩:=ex1 (cX P s);have HNS:=hid Bz;rw[Bz]at XU zcH;have H4:Hid (ns<4^P):=XU;have Yz:ns<=1023:=by omega
 obtain⟨M,hM⟩:=ex1 (ns+1);have hMi:(M:Int)=(ns:Int)+1:=by omega
 obtain⟨K,hK⟩:=ex1 (bp P N S S.length);have HK:=hid hK;rw[hK]at Yj hKl;rw[dA]at hmc HV⊢;clear uN L6 hS hs h0 hL Bz XU hK h4P hN1;go_enter ZF79,Tryz.ntmps79
 go_wp2_with(first
  |(go_at_call 122
    refine Yj.mono ?_;rintro e w1 ⟨⟨vk,rfl,hvk⟩,bJ⟩;obtain⟨ka,kc,Uz,Ti⟩:=hvk;obtain rfl:=Uz.eq;have Mc:Hid (bi w1 (.slice ka K.length kc) K.length ka kc/\∀d,ka=some d->∀(j:Nat) (o:List Int),K[j]?=some o->∃vf,At w1 d j vf/\ah w1 vf o):=⟨Uz,Ti⟩
    have hkc:=Uz.le;have cO:=hid bJ;have jb:=run_make_row' (P:=ZP) 35 3 (.int .i64 0) 8 dC jq rfl .i64 .i64 M (by omega) (by omega) w1;obtain⟨A,hA⟩:=ex1 (w1.alloc (.cells (madeCells #[.int .i64 0] M) 3));have PH:Hid (A.rowIs w1.heap.size 3 M (λ_=>.int .i64 0)):=by unfold Hid;rw[<-hA];exact World.rowIs_made w1 _ M 3
    have HA:Hid (Below w1.heap.size w1 A):=(bG hA).below (by simp) (zAA _);rw[hA,hMi]at jb;clear Uz Ti bJ Yj hA hMi)
  |(go_at_call 123
    refine(qs w1 _ P hP s B7.o (HV.o.later (Kp.of cO.o))).mono ?_;rw[HNS.o];rintro e w' ⟨rfl,UJ⟩;obtain rfl:w1=w':=UJ.symm;clear UJ))
 go_loopw [7,8,9] (λi _ _ wr=>∃j:Nat,j<=M/\i=.int .i64 j/\Hid (wr.rowIs w1.heap.size 3 M (λz=>if z<j then .int .i64 (aY N S (fP P z):Nat)else .int .i64 0))/\Hid (Below w1.heap.size w1 wr)) (λi _ _ _=>M-(intOf i).toNat)
 case atStart=>exact⟨0,zAJ _,rfl,PH.o.congr (λz _=>by rw[zAG (zDK _)]),HA.o⟩
 case round=>
  obtain⟨wo,rfl⟩:∃wo,wo=wr:=⟨wr,rfl⟩
  obtain⟨j,hj,rfl,hR,hB⟩:=hrel;have j9:=cO.t hB.o;by_cases au:j<M
  .have hjM:(j:Int)<(M:Int):=by omega
   have Yv:j<4^P:=by have:=H4.o;omega
   have Uo:Hid (j<4^P):=Yv;have cD:=Lw wo P j hP (by omega);clear Yv
   go_wp2_with(go_at_call 124
               refine cD.mono ?_;rintro e w2 ⟨⟨u,rfl,hu⟩,ib⟩;have XT:=hid hu;have eu:=hid ib;clear hu ib cD)
   have oL:Hid (w2.rowIs w1.heap.size 3 M (λz=>if z<j then .int .i64 (aY N S (fP P z):Nat)else .int .i64 0)):=hR.o.of_block (eu.o.block _ hR.o.lt);go_loopw [9] (λk wr=>∃q:Nat,q<=K.length/\k=.int .i64 q/\Hid (wr.rowIs w1.heap.size 3 M (λz=>if z<j then .int .i64 (aY N S (fP P z):Nat)else if z=j then .int .i64 (eZ P N S j q:Nat)else .int .i64 0))/\Hid (wr.ownsRow wo.heap.size 3 1 u P ((ac P (dg j)).map (Value.int .i64)))/\Hid (Below w1.heap.size w1 wr)) (λk _=>K.length-(intOf k).toNat)
   case atStart=>exact⟨0,zAJ _,rfl,oL.o.congr (λz _=>by
    by_cases e:z<j
    .rw[zAE e,zAE e]
    .rw[zAG e,zAG e,EA];split<;>rfl),XT.o,hB.o.trans (eu.o.mono hB.o.size)⟩
   case round=>
    obtain⟨q,hq,rfl,hR3,Zi,Hn⟩:=hrel;by_cases So:q<K.length
    .have hqK:(q:Int)<(K.length:Int):=by omega
     obtain⟨⟨kb,kf,sp⟩,x,rfl,hx,vf,e0,ef⟩:=Mc.o.1.elem Mc.o.2 So;obtain rfl:sp=none:=e0.1;have HXK:Hid ((bp P N S S.length)[q]?=some x):=by unfold Hid;rw[HK.o];exact hx
     obtain⟨fa,Bt,fc,rfl⟩:=gN ef;have Hh:Hid (∀X:nq,Below wr.heap.size wr X->ah X (.slice fa Bt fc) x):=λX hX=>(ef.later (Kp.of Hn.o)).later (Kp.of hX);have Md:Hid (∀X:nq,Below wr.heap.size wr X->X.cell? ⟨kb,kf+q,none⟩=some (.slice fa Bt fc)):=λX hX=>((e0.later (Kp.of Hn.o)).later (Kp.of hX)).2;have Mg:=Md.o wr (Below.refl _ _)
     have YY:x.length=P:=by
      obtain⟨i,m,_,_,rfl⟩:=jG.1 (zAT HXK.o);exact dA _ _
     have hEN:=Hl wr u (.slice fa Bt fc) (ac P (dg j)) x (ah.bY (by rw[dA];exact Zi.o)) (Hh.o wr (Below.refl _ _)) (by rw[dA,YY]) (by omega);have Zg:Hid (eZ P N S j (q+1)=oz P N S j (eZ P N S j q) x):=EC HXK.o;clear hx e0 ef
     go_wp2_with(go_at_call 125
                 refine hEN.mono ?_;rintro e w3 ⟨⟨r,rfl,hr⟩,Oy⟩;have HT:=hid hr;have gJ:=hid Oy;have qf:Hid (w3.rowIs w1.heap.size 3 M (λz=>if z<j then .int .i64 (aY N S (fP P z):Nat)else if z=j then .int .i64 (eZ P N S j q:Nat)else .int .i64 0)):=hR3.o.of_block (Oy.block _ hR3.o.lt);have OS:Hid (w3.ownsRow wo.heap.size 3 1 u P ((ac P (dg j)).map (Value.int .i64))):=aR Zi.o λk e=>Oy.block k (av Zi.o k e).2;have LA:=Hn.t Oy;have zig:=Md.o w3 Oy;clear hr Oy hEN Mg;cases r)
     .have HST:Hid (eZ P N S j (q+1)=eZ P N S j q):=by
       unfold Hid;rw[Zg.o];unfold oz;rw[zAG HT.o.f]
      go_wp2_with fail
      go_round
      case rel=>exact⟨q+1,by omega,by go_num,by rw[HST.o];exact qf,OS,LA⟩
      case measure=>simp[intOf];omega
     .obtain⟨f,rfl,hf,EJ,sY,hnj⟩:=O4 PC.o HS.o Uo.o (zAT HXK.o) HT.o.t;obtain⟨nx,EP⟩:=ex1 (cX P f);obtain⟨z,hz⟩:=ex1 (j-nx);obtain⟨mo,kX⟩:=ex1 (aY N S (fP P z));obtain⟨ku,hku⟩:=ex1 (eZ P N S j q);have zcI:ku<=16:=by rw[<-hku];exact Lz PC.o HS5.o j q
      have zcJ:mo<=15:=by rw[<-kX];exact SL PC.o HS5.o z
      have HST:Hid (eZ P N S j (q+1)=max ku (1+mo)):=by
       unfold Hid;rw[Zg.o];unfold oz;rw[zAE HT.o.t,EJ,EP,hz,kX,hku]
      have hzj:z<j:=by omega
      have hzM:(z:Int)<(M:Int):=by omega
      have hjz:(j:Int)-(nx:Int)=(z:Int):=by omega
      have hwz:IntKind.i64.wrap (z:Int)=(z:Int):=IntWalk.i64_in _ ⟨by omega,by omega⟩;have hwy:IntKind.i64.wrap (1+(mo:Int))=1+(mo:Int):=IntWalk.i64_in _ ⟨by omega,by omega⟩;have m9:(0:Int)<=(z:Int):=by omega
      have hwm:wrap64 (1+(mo:Int))=1+(mo:Int):=by unfold wrap64;omega
      have c1:=qf.o.cell au;have c2:=qf.o.cell (show z<M by omega);have f1:=qf.o.frozen j;simp only[zAG (zEV j),zAE rfl,hku]at c1;simp only[zAE hzj,kX]at c2;clear kX hku EJ zig f1;refine wp_region_still_tail 19 (by kernel_rfl) (by kernel_rfl) ?_;have mV:Below w3.heap.size w3 {w3 with drawn:=w3.drawn+1}:=Below.drewN (Below.refl _ _) 1;obtain⟨wq,hwq⟩:=ex1 ({w3 with drawn:=w3.drawn+1});rw[hwq]at mV;rw[hwq];have sI:=hid mV;have d1:wq.cell? ⟨w1.heap.size,j,none⟩=some (.int .i64 (ku:Int)):=ak.cell ⟨wq,mV⟩ c1;have d2:wq.cell? ⟨w1.heap.size,z,none⟩=some (.int .i64 (mo:Int)):=ak.cell ⟨wq,mV⟩ c2;have d3:=Md.o wq (gJ.o.trans (mV.mono gJ.o.size));have d4:=(qf.o.of_block (mV.block _ qf.o.lt)).frozen j;have hNU:=qs wq (.slice fa Bt fc) P hP f hf (Hh.o wq (gJ.o.trans (mV.mono gJ.o.size)));rw[EP]at hNU;clear hwq mV c1 c2 EP hf;simp only[List.take_succ_cons,zGI,List.drop_succ_cons,List.drop_zero];repeat still_step
      still_call hNU
      repeat still_step
      refine wpStill_nil ?_;clear hNU hwz hwy hwm sY hnj YY;have hmx:max (ku:Int) (1+(mo:Int))=((max ku (1+mo):Nat):Int):=by omega
      obtain⟨mx,XV⟩:=ex1 (max ku (1+mo));rw[XV]at hmx;have HMX:=hid XV;rw[hmx];clear hmx XV zcI zcJ;go_wp2_with fail
      have HRq:Hid (wq.rowIs w1.heap.size 3 M (λz=>if z<j then .int .i64 (aY N S (fP P z):Nat)else if z=j then .int .i64 (eZ P N S j q:Nat)else .int .i64 0)):=qf.o.of_block (sI.o.block _ qf.o.lt);have HUq:Hid (wq.ownsRow wo.heap.size 3 1 u P ((ac P (dg j)).map (Value.int .i64))):=aR OS.o λk e=>sI.o.block k (av OS.o k e).2;have zil:=LA.t sI.o;refine⟨⟨q+1,by omega,by go_num,?_,?_,zil.o.setCell (zAA _) _⟩,by simp[intOf];omega⟩
      .refine(HRq.o.set j _).congr λy _=>?_;by_cases e1:y=j
       .subst e1;rw[zAE rfl,zAG (zEV y),zAE rfl,HST.o,HMX.o]
       .rw[zAG e1,zAG e1,zAG e1]
      .exact ownsRow_setCell_other HUq.o (λe=>by
        have h1:=(av HUq.o _ e).1;have h2:=hR.o.lt;simp only at h1;omega) _
    .have e:q=K.length:=by omega
     subst e;have hqK:¬((K.length:Nat):Int)<((K.length:Nat):Int):=by omega
     have HAL:Hid (eZ P N S j K.length=aY N S (fP P j)):=by unfold Hid;rw[<-HK.o];exact Hi hP PC.o HS.o Uo.o
     have HRE:Hid (wr.rowIs w1.heap.size 3 M (λz=>if z<j+1 then .int .i64 (aY N S (fP P z):Nat)else .int .i64 0)):=hR3.o.congr λy _=>by
      by_cases e1:y=j
      .subst e1;rw[zAG (zEV y),zAE rfl,zAE (zBT y),HAL.o]
      .by_cases e2:y<j
       .rw[zAE e2,zAE (by omega)]
       .rw[zAG e2,zAG e1,zAG (by omega)]
     go_wp2_with fail
     go_round
     case rel=>exact⟨j+1,by omega,by go_num,HRE,Hn⟩
     case measure=>simp[intOf];omega
  .have e:j=M:=by omega
   subst e;have hjM:¬((j:Nat):Int)<((j:Nat):Int):=by omega
   have c1:=hR.o.cell (show ns<j by omega);have hnj:ns<j:=by omega
   have hni:(ns:Int)<(j:Int):=by omega
   simp only[zAE hnj,zcH.o]at c1;have hnu:=qs wo _ P hP s B7.o (HV.o.later (Kp.of j9.o));rw[HNS.o]at hnu
   go_wp2_with(go_at_call 123
               refine hnu.mono ?_;rintro e w' ⟨rfl,UJ⟩;obtain rfl:wo=w':=UJ.symm)
   go_ret;exact⟨rfl,j9.o⟩
def ye (w:nq) (v:fu) (b:aj) (hb:az w v b) (hs:gU b):Calls ZP 25 #[v] w (cg w (.tuple #[.int .i64 (gu b:Nat),.int .i64 (aT b 0)])):=by
 have HB:=hid hb;have HS:=hid hs;obtain⟨a2,c2,a3,c3,a4,c4,rfl⟩:=hb.db;obtain⟨A1,aZ⟩:=ex1 (w.alloc (.cells (bx b a2 c2 a3 c3 a4 c4) 26));have B1:=hid (cF aZ);have HW:=hid ((bG aZ).below (by simp) (zAA _));have z0:=B1.o.cell 0 rfl;have z1:=B1.o.cell 1 rfl;have z2:=B1.o.cell 2 rfl;have z3:=B1.o.cell 3 rfl;have z4:=B1.o.cell 4 rfl;clear hb hs;go_enter ZF25,Tryz.ntmps25
 go_wp2_with fail
 refine(tG A1 _ b 0 (HB.o.later (Kp.of HW.o)) HS.o).mono ?_;rintro e w1 ⟨⟨vp,rfl,hn6,Zk⟩,bJ⟩;have cO:=hid bJ;have jd:=HW.t bJ;clear bJ aZ z0 z1 z2 z3 z4 hn6;by_cases e:aT b 0=0
 .obtain⟨e1,_,e3⟩:=pA e;have HV:=hid (dN.1 e1);have LZ:=HV.o.ptz.many;have tU:=HV.o.aq;have HL6:=hid (Zk e);have Xs:=hid e3;have HE:=hid e;have HBV:Hid (gu b=aY b.aq.toNat (ar b (an b (ao b))) (ci b b.ptz.length)):=by unfold Hid gu;rw[zAE e]
  have Mb:Hid (∀X:nq,Below w1.heap.size w1 X->(bz X w.heap.size b a2 c2 a3 c3 a4 c4)/\Below w1.heap.size w1 X):=λX hX=>by
   have BX:=B1.o.below (cO.o.trans (hX.mono cO.o.size)) B1.o.lt;exact⟨⟨BX.cell 0 rfl,BX.cell 1 rfl,BX.cell 2 rfl,BX.cell 3 rfl,BX.cell 4 rfl⟩,hX⟩
  have PP:Hid (∀X:nq,((bz X w.heap.size b a2 c2 a3 c3 a4 c4)/\Below w1.heap.size w1 X)->Below w1.heap.size w1 X):=λ_ h=>h.2;have zcK:Hid (∀X:nq,Below w1.heap.size w1 X->Calls ZP 80 #[.agg (bx b a2 c2 a3 c3 a4 c4)] X (GD X (ac b.ptz.length (ci b b.ptz.length)))):=λX hX=>EF X _ b (HB.o.later (Kp.of (jd.o.trans (hX.mono jd.o.size)))) HV.o.ptz.many.2;have zcL:Hid (∀X:nq,Below w1.heap.size w1 X->Calls ZP 81 #[.agg (bx b a2 c2 a3 c3 a4 c4),vp] X (λe w'=>(∃u,e=.returned u/\da w' u (gO b))/\Below X.heap.size X w')):=λX hX=>tM X _ vp b (HB.o.later (Kp.of (jd.o.trans (hX.mono jd.o.size)))) HV.o (HL6.o.later (Kp.of hX)) Xs.o
  have zim:Hid (∀(X:nq) (v1 v2:fu),ah X v1 (ac b.ptz.length (ci b b.ptz.length))->da X v2 (gO b)->Calls ZP 79 #[v1,v2] X (cg X (.int .i64 (gu b:Nat)))):=λX v1 v2 h1 h2=>by
   rw[HBV.o];refine By X v1 v2 b.ptz.length b.aq.toNat HV.o.ptz.many.2 (by omega) (by omega) _ (λm hm i hi=>?_) _ (λi hi=>?_) (λi hi=>?_) h1 (by rw[<-gP];exact h2.at) (iy HV.o _)
   .obtain⟨g1,g2,g3,g4⟩:=rL HV.o hm;have:=g1.range i (m i) (by rw[g3];exact hi) (mK m hi);omega
   .exact Ho HV.o i
   .unfold ci;rw[zAG (by omega)]
  clear Zk e1 e3 tU;go_wp2_with fail
  go_region_held3 (λX:nq=>(X.cell? ⟨w.heap.size,0,none⟩=some (.int .i64 b.aB)/\X.cell? ⟨w.heap.size,1,none⟩=some (.int .i64 b.aq)/\X.cell? ⟨w.heap.size,2,none⟩=some (.slice a2 b.ptz.length c2)/\X.cell? ⟨w.heap.size,3,none⟩=some (.slice a3 b.cj.length c3)/\X.cell? ⟨w.heap.size,4,none⟩=some (.slice a4 b.cR.length c4))/\Below w1.heap.size w1 X)
   (first
     |with_reducible exact Mb.o _ sI.o
     |with_reducible exact Mb.o _ HBz.o
     |with_reducible exact Mb.o _ SB.o
     |exact Mb.o _ (Below.drewN (Below.refl w1.heap.size w1) 1)
     |fail)
   (first
     |(go_at_call 79
       refine(zim.o _ _ _ HA.o HL.o).mono ?_;rintro e wq ⟨rfl,Lq⟩;have sI:=HBz.t Lq;clear Lq)
     |(go_at_call 80
       have hh:=PP.o _ (by assumption);have hx:=HL1.o;refine(zcK.o _ hh).mono ?_;rintro e wz ⟨⟨ua,rfl,hua⟩,hb⟩;have HA:=hid hua;have HL:=hid (HL1.o.later (Kp.of hb));have HBz:=hid (hh.trans (hb.mono hh.size));clear hua hb hh hx)
     |(go_at_call 81
       have hh:=PP.o _ (by assumption);have hx:=EQ.o;refine(zcL.o _ hh).mono ?_;rintro e wz ⟨⟨ul,rfl,hul⟩,hb⟩;have HL:=hid hul;have HA:=hid (EQ.o.later (Kp.of hb));have HBz:=hid (hh.trans (hb.mono hh.size));clear hul hb hh hx)
     |(go_at_call 80
       have hh:=PP.o _ (by assumption);refine(zcK.o _ hh).mono ?_;rintro e wy ⟨⟨ua,rfl,hua⟩,hb⟩;have EQ:=hid hua;have SB:=hid (hh.trans (hb.mono hh.size));clear hua hb hh)
     |(go_at_call 81
       have hh:=PP.o _ (by assumption);refine(zcL.o _ hh).mono ?_;rintro e wy ⟨⟨ul,rfl,hul⟩,hb⟩;have HL1:=hid hul;have SB:=hid (hh.trans (hb.mono hh.size));clear hul hb hh))
  all_goals
   go_wp2_with fail
   go_ret2;exact⟨by rw[HE.o];rfl,jd.o.trans (sI.o.mono jd.o.size)⟩
 .have HP:Hid (gu b=0):=by unfold Hid gu;rw[zAG e]
  obtain⟨ob,xX⟩:=ex1 (aT b 0);have Eb:=hid xX;rw[xX]at e⊢;clear xX Zk;go_wp2_with fail
  go_ret2;exact⟨by rw[HP.o,Eb.o];rfl,jd.o⟩
end Go.Proofs.Cz
namespace Go.Proofs.Cz
open Go.RowKit
def zz (w:nq):Calls ZP 9 #[] w (cg w (.bool true)):=by
 go_enter ZF9,Tz.ntmps9
 unfold Tz.stub;go_wp2
 go_ret;exact⟨rfl,Below.refl _ _⟩
def zio (w:nq) (v:fu) (b:aj) (hb:az w v b) (hc:rz w):
 Calls ZP 4 #[v] w λe _=>e=.returned (.bool true):=by
 have HB:=hid hb;have HC:=hid hc;obtain⟨a2,c2,a3,c3,a4,c4,rfl⟩:=hb.db;obtain⟨A1,aZ⟩:=ex1 (w.alloc (.cells (bx b a2 c2 a3 c3 a4 c4) 26));have B1:=hid (cF aZ);have HW:=hid ((bG aZ).below (by simp) (zAA _))
 have HZ:Hid (∀X:nq,Below A1.heap.size A1 X->bz X w.heap.size b a2 c2 a3 c3 a4 c4):=λX hX=>by
  have BX:=B1.o.below hX B1.o.lt;exact⟨BX.cell 0 rfl,BX.cell 1 rfl,BX.cell 2 rfl,BX.cell 3 rfl,BX.cell 4 rfl⟩
 have D9:Hid (∀X:nq,Below A1.heap.size A1 X->az X (.agg (bx b a2 c2 a3 c3 a4 c4)) b):=λX hX=>HB.o.later (Kp.of (HW.o.trans (hX.mono HW.o.size)));have Sp:Hid (∀X:nq,Below A1.heap.size A1 X->rz X):=λX hX=>HC.o.later (HW.o.trans (hX.mono HW.o.size));obtain⟨z0,z1,z2,z3,z4⟩:=HZ.o A1 (Below.refl _ _);have hG:=KE A1 _ b (D9.o A1 (Below.refl _ _));go_enter ZF4,Tryz.ntmps4
 go_wp2_with fail
 refine hG.mono ?_;rintro e w1 ⟨⟨r,rfl,hr⟩,bJ⟩;have cO:=hid bJ;cases r with
 |true=>
  go_wp2_with(go_at_call 9;refine(zz _).mono ?_;rintro e w2 ⟨rfl,_⟩)
  go_ret;rfl
 |false=>
  have HS:=hid (hr rfl);obtain⟨z0,z1,z2,z3,z4⟩:=HZ.o w1 cO.o;obtain⟨s,hs⟩:=ex1 (aI b);obtain⟨s5,hs5⟩:=ex1 (aT b 0);obtain⟨n1,sY⟩:=ex1 (cP b [cG b,aS b] (cG b));obtain⟨n2,xh⟩:=ex1 (cP b [aS b] (aS b));obtain⟨lo,tB⟩:=ex1 (cP b [bL b] (gv b));obtain⟨hi,A9⟩:=ex1 (cP b [bL b] (bL b));obtain⟨n5,hn5⟩:∃n:Int,((gu b:Nat):Int)=n:=⟨_,rfl⟩
  obtain⟨L1,hL1⟩:=ex1 (dw b [cG b,aS b]);obtain⟨L2,OE⟩:=ex1 (dw b [aS b]);obtain⟨L3,hL3⟩:=ex1 (dw b [bL b]);obtain⟨L4,hL4⟩:=ex1 (ou b);have H16:Hid (∀X:nq,Below A1.heap.size A1 X->Calls ZP 16 #[.agg (bx b a2 c2 a3 c3 a4 c4)] X (mX X L1 (.int .i64 n1) s)):=λX hX=>by rw[<-hs,<-hL1,<-sY];exact Er X _ b (D9.o X hX) HS.o (Sp.o X hX)
  have H17:Hid (∀X:nq,Below A1.heap.size A1 X->Calls ZP 17 #[.agg (bx b a2 c2 a3 c3 a4 c4)] X (mX X L1 (.int .i64 n1) s)):=λX hX=>by rw[<-hs,<-hL1,<-sY];exact yd X _ b (D9.o X hX) HS.o
  have H19:Hid (∀X:nq,Below A1.heap.size A1 X->Calls ZP 19 #[.agg (bx b a2 c2 a3 c3 a4 c4)] X (mX X L2 (.int .i64 n2) s)):=λX hX=>by rw[<-hs,<-OE,<-xh];exact x9 X _ b (D9.o X hX) HS.o (Sp.o X hX)
  have H20:Hid (∀X:nq,Below A1.heap.size A1 X->Calls ZP 20 #[.agg (bx b a2 c2 a3 c3 a4 c4)] X (mX X L2 (.int .i64 n2) s)):=λX hX=>by rw[<-hs,<-OE,<-xh];exact us X _ b (D9.o X hX) HS.o
  have H21:Hid (∀X:nq,Below A1.heap.size A1 X->Calls ZP 21 #[.agg (bx b a2 c2 a3 c3 a4 c4)] X (mX X L3 (.agg #[.int .i64 lo,.int .i64 hi]) s)):=λX hX=>by rw[<-hs,<-hL3,<-tB,<-A9];exact yc X _ b (D9.o X hX) HS.o (Sp.o X hX)
  have H22:Hid (∀X:nq,Below A1.heap.size A1 X->Calls ZP 22 #[.agg (bx b a2 c2 a3 c3 a4 c4)] X (mX X L3 (.agg #[.int .i64 lo,.int .i64 hi]) s)):=λX hX=>by rw[<-hs,<-hL3,<-tB,<-A9];exact ut X _ b (D9.o X hX) HS.o
  have H23:Hid (∀X:nq,Below A1.heap.size A1 X->Calls ZP 23 #[.agg (bx b a2 c2 a3 c3 a4 c4)] X (tL X L4 s)):=λX hX=>by rw[<-hs,<-hL4];exact Hf X _ b (D9.o X hX) HS.o (Sp.o X hX)
  have H24:Hid (∀X:nq,Below A1.heap.size A1 X->Calls ZP 24 #[.agg (bx b a2 c2 a3 c3 a4 c4)] X (tL X L4 s)):=λX hX=>by rw[<-hs,<-hL4];exact Bu X _ b (D9.o X hX) HS.o
  have PB:Hid (∀X:nq,Below A1.heap.size A1 X->Calls ZP 10 #[.agg (bx b a2 c2 a3 c3 a4 c4)] X (cg X (.tuple #[.int .i64 n5,.int .i64 s5]))):=λX hX=>by rw[<-hn5,<-hs5];exact Es X _ b (D9.o X hX) HS.o (Sp.o X hX)
  have YZ:Hid (∀X:nq,Below A1.heap.size A1 X->Calls ZP 25 #[.agg (bx b a2 c2 a3 c3 a4 c4)] X (cg X (.tuple #[.int .i64 n5,.int .i64 s5]))):=λX hX=>by rw[<-hn5,<-hs5];exact ye X _ b (D9.o X hX) HS.o
  have hC:=H16.o _ cO.o;go_wp2_with fail
  refine hC.mono ?_;rintro e w2 ⟨⟨u2,rfl,U1⟩,ib⟩;have eu:=cO.t ib;have XT:=hid U1;obtain⟨z0,z1,z2,z3,z4⟩:=HZ.o w2 eu.o;have hC:=H17.o _ eu.o;go_wp2_with fail
  refine hC.mono ?_;rintro e w3 ⟨⟨u3,rfl,Zs⟩,Oy⟩;have gJ:=eu.t Oy;have OS:=hid Zs;have XQ:=hid (XT.o.later (Kp.of Oy));obtain⟨z0,z1,z2,z3,z4⟩:=HZ.o w3 gJ.o;have hC:=jv w3 u2 u3 L1 XQ.o OS.o;go_wp2_with fail
  refine hC.mono ?_;rintro e w4 ⟨rfl,yZ⟩;have mV:=gJ.t yZ;obtain⟨z0,z1,z2,z3,z4⟩:=HZ.o w4 mV.o;have hC:=H19.o _ mV.o;go_wp2_with fail
  refine hC.mono ?_;rintro e w5 ⟨⟨u5,rfl,hu5⟩,qd⟩;have lQ:=mV.t qd;have HU5:=hid hu5;obtain⟨z0,z1,z2,z3,z4⟩:=HZ.o w5 lQ.o;have hC:=H20.o _ lQ.o;go_wp2_with fail
  refine hC.mono ?_;rintro e w6 ⟨⟨u6,rfl,hu6⟩,L7⟩;have qw:=lQ.t L7;have HU6:=hid hu6;have HX5:=hid (HU5.o.later (Kp.of L7));obtain⟨z0,z1,z2,z3,z4⟩:=HZ.o w6 qw.o;have hC:=jv w6 u5 u6 L2 HX5.o HU6.o;go_wp2_with fail
  refine hC.mono ?_;rintro e w7 ⟨rfl,PK⟩;have GT:=qw.t PK;obtain⟨z0,z1,z2,z3,z4⟩:=HZ.o w7 GT.o;have hC:=H21.o _ GT.o;go_wp2_with fail
  refine hC.mono ?_;rintro e w8 ⟨⟨u8,rfl,hu8⟩,hb8⟩;have HB8:=GT.t hb8;have HU8:=hid hu8;obtain⟨z0,z1,z2,z3,z4⟩:=HZ.o w8 HB8.o;obtain⟨V8,hV8⟩:=ex1 (w8.alloc (.cells #[.int .i64 0,.int .i64 0] 34));obtain⟨w9,hT8⟩:=ex1 ((V8.setCell ⟨w8.heap.size,0,none⟩ (.int .i64 lo)).setCell ⟨w8.heap.size,1,none⟩ (.int .i64 hi));have O5:=cF hV8;have HQ8:Hid (aL w9 w8.heap.size 34 #[.int .i64 lo,.int .i64 hi]):=by rw[<-hT8];exact(O5.set 0 _).set 1 _
  have HK8:Hid (Below w8.heap.size w8 w9):=by rw[<-hT8];exact(((bG hV8).below (by simp) (zAA _)).setCell (zAA _) _).setCell (zAA _) _
  have HB9:=HB8.t HK8.o;have q0:=O5.cell 0 rfl;have q1:=O5.cell 1 rfl;have f0:=O5.aH 0;have f1:=O5.aH 1;go_upto_region 12 with fail
  obtain⟨z0,z1,z2,z3,z4⟩:=HZ.o w9 HB9.o;have zir:=hid (HU8.o.later (Kp.of HK8.o));have hC:=H22.o _ HB9.o;go_wp2_with fail
  refine hC.mono ?_;rintro e Ub ⟨⟨LU,rfl,zis⟩,XW⟩;have zcO:=HB9.t XW;have zit:=hid zis;have ziu:=hid (zir.o.later (Kp.of XW));have ziv:=hidb HQ8 XW;obtain⟨z0,z1,z2,z3,z4⟩:=HZ.o Ub zcO.o;obtain⟨V10,zcP⟩:=ex1 (Ub.alloc (.cells #[.int .i64 0,.int .i64 0] 34));obtain⟨YE,zcQ⟩:=ex1 ((V10.setCell ⟨Ub.heap.size,0,none⟩ (.int .i64 lo)).setCell ⟨Ub.heap.size,1,none⟩ (.int .i64 hi));have O5:=cF zcP;have zcR:Hid (aL YE Ub.heap.size 34 #[.int .i64 lo,.int .i64 hi]):=by rw[<-zcQ];exact(O5.set 0 _).set 1 _
  have SM:Hid (Below Ub.heap.size Ub YE):=by rw[<-zcQ];exact(((bG zcP).below (by simp) (zAA _)).setCell (zAA _) _).setCell (zAA _) _
  have zcS:=zcO.t SM.o;have q0:=O5.cell 0 rfl;have q1:=O5.cell 1 rfl;have f0:=O5.aH 0;have f1:=O5.aH 1;go_upto_region 13 with fail
  obtain⟨z0,z1,z2,z3,z4⟩:=HZ.o YE zcS.o;have HX8:=hid (ziu.o.later (Kp.of SM.o));have ziw:=hid (zit.o.later (Kp.of SM.o));have zcT:=hidb ziv SM.o;have hG:=Lo;have hC:=jv YE u8 LU L3 HX8.o ziw.o
  go_wp2_with(go_at_call 18
              refine hC.mono ?_;rintro e w12 ⟨rfl,XX⟩;have XY:=zcS.t XX;have b1:=zcT.o.below XX zcT.o.lt;have b2:=zcR.o.below XX zcR.o.lt;have y0:=b1.cell 0 rfl;have y1:=b1.cell 1 rfl;have x0:=b2.cell 0 rfl;have x1:=b2.cell 1 rfl;obtain⟨z0,z1,z2,z3,z4⟩:=HZ.o w12 XY.o)
  have hC:=H23.o _ XY.o;refine hC.mono ?_;rintro e w13 ⟨⟨u13,rfl,zix⟩,ziy⟩;have LA:=XY.t ziy;have ziz:=hid zix;obtain⟨z0,z1,z2,z3,z4⟩:=HZ.o w13 LA.o;have hC:=H24.o _ LA.o;go_wp2_with fail
  refine hC.mono ?_;rintro e w14 ⟨⟨u14,rfl,ziA⟩,zcU⟩;have zcV:=LA.t zcU;have ziB:=hid ziA;have ziC:=hid (ziz.o.later (Kp.of zcU));obtain⟨z0,z1,z2,z3,z4⟩:=HZ.o w14 zcV.o;have hC:=jv w14 u13 u14 L4 ziC.o ziB.o;go_wp2_with fail
  refine hC.mono ?_;rintro e w15 ⟨rfl,ziD⟩;have XZ:=zcV.t ziD;obtain⟨z0,z1,z2,z3,z4⟩:=HZ.o w15 XZ.o;have hC:=PB.o _ XZ.o;go_wp2_with fail
  refine hC.mono ?_;rintro e w16 ⟨rfl,ziE⟩;have X5:=XZ.t ziE;obtain⟨z0,z1,z2,z3,z4⟩:=HZ.o w16 X5.o;have hC:=YZ.o _ X5.o;go_wp2_with fail
  refine hC.mono ?_;rintro e w17 ⟨rfl,ziF⟩;have ziG:=X5.t ziF;obtain⟨z0,z1,z2,z3,z4⟩:=HZ.o w17 ziG.o;go_wp2_with(go_at_call 9;refine(zz _).mono ?_;rintro e w30 ⟨rfl,_⟩)
  go_ret;rfl
open Go.Conc Go.aD
def S1 (n:Nat):Bool:=(Nat.blt n 196&&!([0,1,2,9,86,167,168,169,170,171,172,173,174,175,176,177,178,179,180,181,182,191,192,193].contains n))||Nat.beq n JK||Nat.beq n (JK+10)
def X6:bC ZP:=λt i v h1 h2=>Cw.jp t i v h1 h2
def O6:aN ZP:=λt i u h=>Cw.eE t i u h
noncomputable def rk (lo n:Nat):Bool:=(List.range n).all λi=>!S1 (lo+i)||Nat.beq (lo+i) 30||(match Tryz.funcs[lo+i]? with
 |some fn=>(match fn.body with|some c=>codeOk ZP S1 c&&!(fn.name== "runtime.NumGoroutine")|none=>false)
 |none=>false)
def ok0:rk 0 40=true:=by kernel_rfl
def ok1:rk 40 60=true:=by kernel_rfl
def ok2:rk 100 95=true:=by kernel_rfl
def vT {lo n i:Nat} (h:rk lo n=true) (h1:lo<=i) (h2:i<lo+n) (hs:S1 i=true) (sR:i≠30):∃fn c,Tryz.funcs[i]? =some fn/\fn.body=some c/\codeOk ZP S1 c=true/\fn.name≠ "runtime.NumGoroutine" :=by
 have:=zCM.1 h (i-lo) (by simp;omega);rw[show lo+(i-lo)=i by omega,hs,show Nat.beq i 30=false by cases hq:Nat.beq i 30 with|false=>rfl|true=>exact absurd (zAN hq) sR]at this;simp only[zEJ,zDZ]at this;cases hf:Tryz.funcs[i]? with
 |none=>rw[hf]at this;cases this
 |some fn=>
  rw[hf]at this;simp only at this;cases xF:fn.body with
  |none=>rw[xF]at this;cases this
  |some c=>
   rw[xF]at this;simp only[zAF,zCO,zEU]at this;exact⟨fn,c,rfl,xF,this.1,this.2⟩
def Jj {f:Nat} (h:S1 f=true):f<196\/f=JK\/f=JK+10:=by
 simp only[S1,zBQ,zAF]at h;rcases h with(⟨h,_⟩|h)|h
 .exact .inl (by simpa using h)
 .exact .inr (.inl (zAN h))
 .exact .inr (.inr (zAN h))
def US {f:Nat} (h1:196<=f) (h2:f≠JK) (h3:f≠JK+10):S1 f=false:=by
 cases h:S1 f with
 |false=>rfl
 |true=>rcases Jj h with h|h|h<;>omega
def zA:ZP.funcs.size=195:=by rw[Tz.rq];unfold Tz.funcs;rw[zDV,zDV,Tz.size]
def wX:ZP.globals.size=1:=by kernel_rfl
def X1:Code->Code|.seq a _=>a|_=>.skip
def X2:Code->Code|.seq _ b=>b|_=>.skip
noncomputable def fe:Code:=(Tryz.f30.body).getD .skip
def LB:fe=.seq (X1 fe) (.seq (X1 (X2 fe)) (.seq (X1 (X2 (X2 fe))) (.seq (X1 (X2 (X2 (X2 fe)))) (X2 (X2 (X2 (X2 fe))))))):=rfl
def O7:Tz.cut (.refuse "") fe=.seq (X1 fe) (.seq (X1 (X2 fe)) (.seq (X1 (X2 (X2 fe))) (.seq (X1 (X2 (X2 (X2 fe)))) (.refuse "")))):=rfl
def SN:(codeOk ZP S1 (X1 fe)&&codeOk ZP S1 (X1 (X2 fe))&&codeOk ZP S1 (X1 (X2 (X2 fe)))&&codeOk ZP S1 (X1 (X2 (X2 (X2 fe)))))=true:=by kernel_rfl
def ziH {H:Code->Code->Prop} (hn:∀a b,¬H a b):CR ZP S1 H (Tz.cut (.refuse "") fe) fe:=by
 have h:=SN;simp only[zAF]at h;obtain⟨⟨⟨h1,h2⟩,h3⟩,h4⟩:=h;rw[O7];refine cast (zBE (CR ZP S1 H _) LB.symm) ?_;exact .seq (.same h1 (.inr hn)) (.seq (.same h2 (.inr hn)) (.seq (.same h3 (.inr hn)) (.seq (.same h4 (.inr hn)) (.refuse _ _ hn))))
def Jk:Closed ZP Tryz.funcs S1 Pq where
 jp:=X6
 eE:=O6
 Zw:=λ_=>by kernel_rfl
 size:=by rw[zA,Tz.size]
 yp:=λf hf=>by
  rw[zA,wX];refine⟨λ_=>?_,λ_ a b h=>h⟩;have hJ:JK=1000000:=rfl;rcases Jj hf with h|h|h<;>refine US ?_ ?_ ?_<;>omega
 body:=λf hf=>by
  have hJ:JK=1000000:=rfl;rcases Jj hf with h|h|h
  .by_cases h9:f=195
   .subst h9;exact .inl ⟨zAY (by rw[zA];omega),zAY (by rw[Tz.size];omega)⟩
   .by_cases sR:f=30
    .subst sR;exact .inr ⟨Tz.f30,Tryz.f30,_,fe,ZF30,Tryz.func30,rfl,rfl,ziH λ_ _ hh=>hh,by decide,by decide,rfl,rfl⟩
    obtain⟨fn,c,h1,h2,h3,h4⟩:∃fn c,Tryz.funcs[f]? =some fn/\fn.body=some c/\codeOk ZP S1 c=true/\fn.name≠ "runtime.NumGoroutine" :=by
     by_cases l1:f<40
     .exact vT ok0 (by omega) (by omega) hf sR
     .by_cases l2:f<100
      .exact vT ok1 (by omega) (by omega) hf sR
      .exact vT ok2 (by omega) (by omega) hf sR
    have wY:9≠f:=λe=>by subst e;cases hf
    exact .inr ⟨fn,fn,c,c,(Tz.same f ⟨wY,Ne.symm sR⟩).trans h1,h1,h2,h2,.same h3 (.inr λ_ _ hh=>hh),h4,h4,rfl,rfl⟩
  .exact .inl ⟨zAY (by rw[zA];omega),zAY (by rw[Tz.size];omega)⟩
  .exact .inl ⟨zAY (by rw[zA];omega),zAY (by rw[Tz.size];omega)⟩
def SO:S1 (ZP.funcs.size+ZP.globals.size)=false:=by rw[zA,wX];exact US (by omega) (by decide) (by decide)
def zcW:ai ZP Tryz.funcs=Tryz.prog:=rfl
end Go.Proofs.Cz

namespace Go.Proofs.Cz
open Go.Conc Go.aD Go.RowKit
variable {P:un} {fn:Func}
def f10 (n:Nat) (h:S1 (JK+1+n)=true):n=9:=by
 have hJ:JK=1000000:=rfl;rcases Jj h with h|h|h<;>omega
def O8 {o:Op} (h:ia S1 o=true):∃ts,o=.call {callee:=.value (.func 9),args:=#[],argTypes:=ts}:=by
 unfold ia at h;cases o with
 |call c=>
  obtain⟨cl,xs,ts⟩:=c;cases cl with
  |value x=>
   cases x with
   |func f=>
    simp only[zAF]at h;have hf:=f10 f h.1;subst hf;have:xs=#[]:=by simpa using h.2
    subst this;exact⟨ts,rfl⟩
   |_=>cases h
  |_=>cases h
 |_=>cases h
def LC (hf:P.funcs[9]? =some fn) (hb:fn.body.isNone=false) (hn:(fn.name== "runtime.NumGoroutine")=false) (w:World) (es:Array Event):
 (Go.callFunc 9 #[]).runT P w es=(.ok (.enter 9 #[]) w,es):=by
 unfold Go.callFunc
 show Sem.runT P ((match P.funcs[9]? with
  |none=>stuck "call: no such function"
  |some fn=>_):Sem Next) w es=_
 rw[hf];simp only[hn,hb,zAL,zBC];rfl
def Jl (hf:P.funcs[9]? =some fn) (hb:fn.body.isNone=false) (hn:(fn.name== "runtime.NumGoroutine")=false) (main:Bool) (f:Frame) (cs:List Frame) (w:World) (hh:ny S1 f) (hk:f.kind=.normal):
 stepG P main (jx f cs) w=.go (jx (Frame.enter P 9 #[] .normal) (f::cs)) w #[]:=by
 obtain⟨hm,o,ops,i,is,k,h1,h2,h3,h4⟩:=hh;obtain⟨ts,ho⟩:=O8 h3;obtain⟨oS,tmps,todo,defers,mode,kind,ro⟩:=f;simp only at hm h1 h4 hk;subst hm;subst h1;subst hk
 have hr:(execOp (Frame.eval {fn:=oS,tmps:=tmps,todo:=.inRegion ops (i::is)::k,defers:=defers,mode:=.run,kind:=.normal,roundOf:=ro}) o).runT P w #[]=(.ok (.enter 9 #[]) w,#[]):=by
  obtain⟨d,op,ty,pos,af,gd⟩:=o;simp only at ho;subst ho
  have e:∀ρ:Operand->fu,ρ (.func 9)=.func (.func 9) #[] #[]->execOp ρ {dst:=d,op:=.call {callee:=.value (.func 9),args:=#[],argTypes:=ts},type:=ty,pos:=pos,after:=af,guard:=gd}=Go.callFunc 9 #[]:=by
   intro ρ hρ;have e1:execOp ρ {dst:=d,op:=.call {callee:=.value (.func 9),args:=#[],argTypes:=ts},type:=ty,pos:=pos,after:=af,guard:=gd}=(Deferred.ofValue (ρ (.func 9)) (#[].map ρ)>>=λd=>invoke d.target d.args):=rfl;rw[e1,hρ];have e2:(Deferred.ofValue (.func (.func 9) #[] #[]) ((#[]:Array Operand).map ρ)>>=λd=>invoke d.target d.args)=Go.callFunc 9 ((#[]++((#[]:Array Operand).map ρ))++#[]):=rfl;rw[e2];simp
  rw[e _ rfl];exact LC hf hb hn w #[]
 have cr:(Frame.oper? {fn:=oS,tmps:=tmps,todo:=.inRegion ops (i::is)::k,defers:=defers,mode:=.run,kind:=.normal,roundOf:=ro}:Option Oper)=some o:=by
  unfold Frame.oper?;exact h2
 unfold stepG;simp only;unfold stepG.exec;simp only[h2,zBJ,zAD,h4,zBM];unfold stepG.oper;simp only[cr]
 have key:stepG.apply P true {fn:=oS,tmps:=tmps,todo:=.inRegion ops (i::is)::k,defers:=defers,mode:=.run,kind:=.normal,roundOf:=ro} cs none (execOp (Frame.eval {fn:=oS,tmps:=tmps,todo:=.inRegion ops (i::is)::k,defers:=defers,mode:=.run,kind:=.normal,roundOf:=ro}) o) w=.go (jx (Frame.enter P 9 #[] .normal) ({fn:=oS,tmps:=tmps,todo:=.inRegion ops (i::is)::k,defers:=defers,mode:=.run,kind:=.normal,roundOf:=ro}::cs)) w #[]:=by
  unfold stepG.apply;simp only[zBM,hr];rfl
 split
 .rename_i hx;rw[ho]at hx;cases hx
 .exact key
def X7 (lf:Frame) (cs:List Frame) (v:nq) (hh:ny S1 lf) (hk:lf.kind=.normal):∃n,1<=n/\runN ZP n (lone lf cs v)=.next (lone (lf.finish (.bool true)) cs v):=by
 have h1:step ZP (lone lf cs v)=.next (lone (Frame.enter ZP 9 #[] .normal) (lf::cs) v):=step_lone_go (by
  rw[show stepG ZP true {frame:=lf,callers:=cs,status:=.running,dying:=none} v=_ from Jl ZF9 (by rfl) (by rfl) true lf cs v hh hk];rfl)
 have hc:Calls ZP 9 #[] v λe w'=>e=.returned (.bool true)/\w'=v:=by
  go_enter ZF9,Tz.ntmps9
  unfold Tz.stub;go_wp2
  go_ret;exact⟨rfl,rfl⟩
 obtain⟨e,w',fr,⟨rfl,rfl⟩,⟨n,hn⟩,_,hl⟩:=hc (lf::cs);have h2:=step_leave_returned (c:=lf) (cs:=cs) hl;refine⟨1+(n+1),by omega,?_⟩;rw[runN_add];have e1:runN ZP 1 (lone lf cs w')=.next (lone (Frame.enter ZP 9 #[] .normal) (lf::cs) w'):=by simp only[runN,h1]
 rw[e1];simp only;rw[runN_add,hn];simp only[runN,h2]
def zcX:TA ZP Tryz.funcs S1 9 where
 marked:=SO
 lone:=X7
 comp:=λmain f cs w hh hk=>Jl (P:=Tryz.prog) Tryz.func9 (by rfl) (by rfl) main f cs w hh hk
end Go.Proofs.Cz
namespace Go.Proofs.Cz
open Go.Conc Go.aD
variable {fz:Nat×Nat} {w:nq}
def fQ:Array fu:=#[.func (.func 183) #[] #[],.func (.func 184) #[] #[],.func (.func 185) #[] #[],.func (.func 186) #[] #[]]
def ziI:m6:=λkn _ f w=>f=Frame.enter Tryz.prog 9 #[] .normal/\kn 0/\∃fz,w.heap[0]?=some (.cells fQ 144 fz)
def p0:Pi:=⟨λa b=>a=0/\b=0,λ_ _=>False,false⟩
def Hq {p:Pi}:AR Cw.Sm p fQ fQ:=by
 have key:∀f,Cw.Sm f=true->VR Cw.Sm p (.func (.func f) #[] #[]) (.func (.func f) #[] #[]):=λf h=>.func h rfl rfl (λi v v' h=>by simp at h) λi v v' h=>by simp at h
 have e:=(((AR.empty (S:=Cw.Sm) (p:=p)).push (key 183 (by decide))).push (key 184 (by decide))).push (key 185 (by decide))|>.push (key 186 (by decide));exact e
def w0 (w:nq):nq:={w with heap:=#[.cells fQ 144 (0,4)]}
def wr0 (h:w.heap[0]?=some (.cells fQ 144 fz)):WR WP Cw.Sm (KS WP Cw.Sm) 1 p0 (w0 w) w:=by
 have au:0<w.heap.size:=(zAC.1 h).1;have hg:=Cw.dp;refine⟨λr r' s s' x y=>⟨λ_=>x.2.trans y.2.symm,λ_=>x.1.trans y.1.symm⟩,λr r' x=>?_,zAA _,λr r' x=>by rw[x.1,x.2],by rw[hg];exact zAA _,by rw[hg];exact au,rfl,λ_ _ h=>h⟩;obtain⟨rfl,rfl⟩:=x;exact⟨.cells fQ 144 (0,4),_,rfl,h,.inl ⟨by omega,fQ,fQ,144,fz,rfl,rfl,Hq⟩⟩
def LD {val:fu} {v:nq} (h:Cw.CC Cw.Ko val v) (S:Nat->Bool) (q:Pi) (v':fu) (hS:S (WP.funcs.size+WP.globals.size)=false):¬VR S q val v':=by
 obtain⟨r1,r5,b0,b1,b2,b3,a0,YC,c0,c1,c2,c3,a,cp,fz,gA,pU,_⟩:=h;subst pU;intro hv;cases hv with
 |iface h=>cases h with
  |func hs _ _ _ _=>
   rw[Cw.Di,Cw.dp]at hS;rw[hS]at hs;cases hs
def zcY:Bar WP (Frame.enter WP 9 #[] .normal) [] (w0 w) (λv _=>v=.bool true) (Cw.CC Cw.Ko):=by
 intro T;obtain⟨e,w',fr,he,hs,_,hl⟩:=Cw.built (w:={w0 w with tape:=T}) (fz:=(0,4)) rfl [Base WP];rcases he with rfl|⟨chain,rfl,val,rfl,hC⟩
 .obtain⟨n,hn⟩:=hs;exact⟨n,fr,w',hn,.inl ⟨_,hl,rfl⟩⟩
 .obtain⟨n,hn⟩:=hs;exact⟨n,fr,w',hn,.inr ⟨_,[],hl,hC,LD hC⟩⟩
def O9 (X:Nat->Prop):aD.Leaves X (Cw.HA Cw.Ko) Cw.HP:=by
 refine⟨λkn own f w h=>h.more _ λr hr=>.inl hr,λkn own f w v w3 fH bQ h=>?_⟩;obtain⟨r,cap,n,h1,h2,h3,h4,h5,h6,h7,h8,rfl,rfl⟩:=h;refine⟨λs=>kn s\/s=r,⟨r,cap,n,h1,λh=>h2 (.inl h),h3,h4,h5,h6,h7,h8.mono λs hs=>.inl hs,rfl,rfl⟩,?_,h8.mono λs hs=>.inr hs,λs hs=>?_⟩
 .funext s;apply propext;constructor
  .rintro((h|h)|h)
   .exact .inl (.inl h)
   .exact .inr h
   .exact .inl (.inr h)
  .rintro((h|h)|h)
   .exact .inl (.inl h)
   .exact .inr h
   .exact .inl (.inr h)
 .rcases hs with hs|rfl
  .exact .inl hs
  .exact .inr λh=>h2 (.inr h)
def X8:zX Tryz.prog ziI z7:=by
 intro kn own f c rest w gs sl t q h0 hq nD ⟨hf,qA,fz,Ib⟩;subst hf;have hbound:∀r,kn r->r<w.heap.size:=λr hr=>nD.bound 0 rfl r hr;have je:∀c c',¬Cw.BO 9 c c':=λc c' h=>absurd h.1 (by decide)
 have ct:=yt (P:=WP) (F:=Tryz.funcs) (N:=1) (p:=p0) Cw.IN (λg hg _=>by
  have:WP.globals.size=1:=Cw.dp;exact⟨by omega,by omega⟩) (wr0 Ib) (.one (mZ.enter (xs:=#[]) (de:=#[]) Cw.IN (f:=9) (by decide) AR.empty rfl rfl) ⟨rfl,je⟩) (Cw.zbp 1) zcY true (c::rest) λe=>by cases e
 rw[Cw.back]at ct;have cq:∀r,cJ 1 p0 r->¬kn r:=λr ⟨s,hs,h1⟩=>by have:=hs.1;omega
 have ct2:=CT.keep kn (O9 kn) ct hbound cq
 have ekn:(λr=>lp p0 r\/kn r)=kn:=by
  funext r;apply propext;constructor
  .rintro(⟨s,hs⟩|h)
   .exact hs.2▸qA
   .exact h
  .exact .inr
 rw[ekn]at ct2;have Vq:Co (λg=>g=0) (λ_=>kn) (λ_=>cJ 1 p0) w.heap.size t:=nD.shrink (λ_ _ _ h=>h) (λg hg r ⟨s,hs,h1⟩=>by have:=hs.1;omega) λg hg r ⟨s,hs,h1⟩=>by have:=hs.1;omega
 obtain⟨N,v,w3,fH,bQ,fT,iW,t',q',r1,⟨⟨_,_,v0,_,rfl,hv,_⟩,r2⟩,r3,r4,r5⟩:=FP (Cw.zfK Cw.Ko Cw.EB Cw.least Cw.WH) (λkn own f w d h=>Cw.za6 _ h) (λkn own f w d v w3 fH bQ h=>Cw.za7 h) ct2 gs w sl t q (Env.refl _ _) h0 hq Vq;obtain rfl:v=.bool true:=by cases hv;rfl
 exact⟨N,_,w3,kn,own,fT,iW,t',q',r1,⟨rfl,r2,rfl,rfl⟩,r3,r4,r5.grow (λr hr=>zAZ (hbound r hr) r2.1) λr hr=>nD.sub 0 rfl r hr⟩
def Zo:S1 JK=true:=by decide
def zX.weaken {P:un} {HA HA':m6} {HP:eG} (h:zX P HA HP) (k:∀kn own f w,HA' kn own f w->HA kn own f w):zX P HA' HP:=
 λkn own f c rest w gs sl t q h0 hq nD hA=>h kn own f c rest w gs sl t q h0 hq nD (k _ _ _ _ hA)
def Pa {f:FuncId} (hf:S1 f=true) {args:Array fu} {W:nq} (h0:W.heap[0]?=some (.cells fQ 144 fz)) (ha:AR S1 (rowsOf W) args args)
 (ziK:Alone ZP f args (kz S1 W) λv _=>v=.bool true):
 ∃M last o w' t',runNT Tryz.prog (M+1) (solo (G (Frame.enter Tryz.prog f args .normal) []) W) #[]=(.ended o w',t')/\runN Tryz.prog M (solo (G (Frame.enter Tryz.prog f args .normal) []) W)=.next last/\
  step Tryz.prog last=.ended o w'/\Conc.Good Tryz.prog (λv w'=>v=.bool true/\Env (λr=>r<W.heap.size) W w') last o w' t':=by
 have au:0<W.heap.size:=(zAC.1 h0).1;have hgl:ZP.globals.size<=W.heap.size:=by rw[wX];exact au
 have zcZ:jJ ZP S1 (rowsOf W):=λg hg _=>by
  rw[wX]at hg;obtain rfl:g=0:=by omega
  exact⟨rfl,_,_,_,h0⟩
 have ct:=CD (P:=ZP) (F:=Tryz.funcs) Jk zcZ (VC Zo hgl) (.one (mZ.enter Jk hf ha rfl rfl) ⟨rfl,λ_ _ h=>h⟩) zcX (ziK.bar λ_ _=>False) true [] (λ_=>⟨rfl,λf hf=>by
  have e:ZP.inits=#[2]:=Tryz.inits_eq;rw[e];have h2:f≠2:=λe=>by subst e;cases hf
  rw[Array.idxOf?_eq_none_iff];simp[h2]⟩)
 rw[zcW]at ct;have cq:∀r,cJ W.heap.size (rowsOf W) r->¬r<W.heap.size:=λr ⟨s,hs,h1⟩=>by have:=hs.1;omega
 have ct2:=CT.Z8 (λr=>r<W.heap.size) ct (λr h=>h) cq;have FG:=zX.weaken (HA':=λkn own f w1=>EQ Tryz.prog 9 kn own f w1/\(∀r,r<W.heap.size->kn r)/\Env (λr=>r<W.heap.size) W w1) X8 λkn own f w1 ⟨h1,h2,h3⟩=>⟨h1,h2 0 au,fz,by rw[h3.same 0 au];exact h0⟩
 obtain⟨M,last,o,w',t',r1,r2,r3,r4⟩:=FH FG (λkn own f w d ⟨h1,h2,h3⟩=>⟨h1,h2,⟨h3.1,h3.2,h3.os,h3.out⟩⟩) (λkn own f w d v w3 fH bQ ⟨h1,h2,h3⟩=>⟨h1,⟨h2.1,h2.2,h2.os,h2.out⟩,h3⟩) ct2 (λr hr=>by
  rcases hr with⟨s,hs,c,e,z,hc⟩|hr
  .have:=(zAC.1 hc).1;omega
  .exact hr) (λr ⟨s,hs,_⟩=>.inl ⟨s,hs⟩)
 refine⟨M,last,o,w',t',r1,r2,r3,r4.mono λv ⟨kn,own,⟨_,_,v0,_,hv0,hv,_⟩,he⟩=>⟨?_,he⟩⟩;subst hv0;cases hv;rfl
end Go.Proofs.Cz
namespace Go.Proofs.Cz
open Go.Conc Go.aD Go.RowKit
variable {a:Option Addr} {b:aj} {cap n:Nat} {l:List Int} {v:fu} {w:nq}
def bi.clean (h:bi w v n a cap):VR S1 (rowsOf w) v v:=by
 rw[h.eq];cases a with
 |none=>exact .dH _ _
 |some b=>
  rcases h.row b rfl with h0|⟨c,e,fz,hc⟩
  .have:=h.le;obtain rfl:cap=0:=h0;obtain rfl:n=0:=by omega
   exact .eD rfl _ _
  .obtain⟨r,o,sp⟩:=b;exact .slice o sp _ _ ⟨rfl,c,e,fz,hc⟩ λ_ _ h=>h
def bi.kz (h:bi w v n a cap):bi (kz S1 w) v n a cap:=
 ⟨h.eq,h.le,h.IU,h.nil,λb e=>(h.row b e).imp id λ⟨c,t,fz,hc⟩=>⟨_,_,_,z8 hc⟩⟩
def At.kz {b:Addr} {k:Nat} (h:At w b k v) (hv:VR S1 (rowsOf w) v v):At (kz S1 w) b k v:=⟨h.1,nE Zo h.2 hv⟩
def ah.clean (h:ah w v l):VR S1 (rowsOf w) v v:=let⟨_,_,h1,_⟩:=h;h1.clean
def ah.kz (h:ah w v l):ah (kz S1 w) v l:=
 let⟨a,cap,h1,h2⟩:=h
 ⟨a,cap,h1.kz,λb e j x hj=>(h2 b e j x hj).kz (.int _ _)⟩
def fL.kz {l:List (Int×Int)} (h:fL w v l):fL (kz S1 w) v l:=
 let⟨a,cap,h1,h2⟩:=h
 ⟨a,cap,h1.kz,λb e j x hj=>⟨(h2 b e j x hj).1.kz (.int _ _),(h2 b e j x hj).2.kz (.int _ _)⟩⟩
def ff.kz {l:List Part} (h:ff w v l):ff (kz S1 w) v l:=
 let⟨a,cap,h1,h2⟩:=h
 ⟨a,cap,h1.kz,λb e j x hj=>
   let⟨x0,x1,x2,x3,x4,vf,x5,x6⟩:=h2 b e j x hj
   ⟨x0.kz (.string _),x1.kz (.int _ _),x2.kz (.int _ _),x3.kz (.int _ _),x4.kz (.int _ _),vf,x5.kz x6.clean,x6.kz⟩⟩
def fZ.kz {l:List iC} (h:fZ w v l):fZ (kz S1 w) v l:=
 let⟨a,cap,h1,h2⟩:=h
 ⟨a,cap,h1.kz,λb e j x hj=>
   let⟨⟨vf,x0,x1⟩,x2,x3⟩:=h2 b e j x hj
   ⟨⟨vf,x0.kz x1.clean,x1.kz⟩,x2.kz (.int _ _),x3.kz (.int _ _)⟩⟩
def az.kz (h:az w v b):az (kz S1 w) v b:=
 let⟨v2,v3,v4,e,h2,h3,h4⟩:=h
 ⟨v2,v3,v4,e,h2.kz,h3.kz,h4.kz⟩
def az.clean (h:az w v b):VR S1 (rowsOf w) v v:=by
 obtain⟨v2,v3,v4,rfl,⟨_,_,h2,_⟩,⟨_,_,h3,_⟩,_,_,h4,_⟩:=h;exact((((((AR.empty.push (.int _ _)).push (.int _ _)).push h2.clean).push h3.clean).push h4.clean)).agg
end Go.Proofs.Cz
namespace Go.Proofs.Cz
open Go.Conc Go.aD Go.RowKit Go.Deep
variable {P:un} {a:Addr} {e t:a00} {fuel n sz:Nat} {v v0 v1 v2 v3 v4:fu} {α:Type}
section
variable {H:Type} {enc:a00 × fu->H} {w:nq} {held:Bool}
def EH (h:w.cell? a=some v):∃c e fz,w.heap[a.block]?=some (.cells c e fz):=by
 unfold World.cell? at h;split at h
 .rename_i c e fz hx;exact⟨c,e,fz,hx⟩
 .cases h
def Pb (h:a.spot=none) (n:Nat):a.add n=⟨a.block,a.off+n,none⟩:=by
 obtain⟨b,o,s⟩:=a;simp only at h;subst h;unfold Addr.add;split
 .rename_i h0;subst h0;rfl
 .rfl
def zc0 {x:DataW H×List MemPlace} (ht:P.underlying t=some (.slice e)) (hc:P.cellsOf e=sz) (hz:0<sz)
 (h:DataW.trod enc P w 0 (λ_=>true) held fuel t [v]=some x):
 ∃n a cap,bi w v n a cap/\∀b,a=some b->∀i,i<n->b.spot=none/\∃(cs:List fu) (m:Nat) (y:DataW H×List MemPlace),cs.length=sz/\(∀c,c<sz->w.cell? ⟨b.block,b.off+(i*sz+c),none⟩=cs[c]?)/\
  DataW.trod enc P w 0 (λ_=>true) held m e cs=some y:=by
 rcases open_slice ht h with⟨h0,_⟩|⟨a,len,cap,m,n,D,Pl,h0,_,hl,hm,y7,_,hx⟩
 .obtain rfl:v=.slice none 0 0:=by simpa using h0
  exact⟨0,none,0,⟨rfl,zAA _,zAJ _,λ_=>rfl,λb e=>by cases e⟩,λb e=>by cases e⟩
 .obtain rfl:v=.slice (some a) len cap:=by simpa using h0
  obtain rfl:m=cap:=y7
  have first:0<m->a.spot=none/\∃c e fz,w.heap[a.block]?=some (.cells c e fz):=λh=>by
   obtain⟨lM,h1,_⟩:=hx 0 h;obtain⟨_,hlen,bm⟩:=World.cells?_some h1;have hcz:=bm 0 (by omega);rw[Nat.zero_mul]at hcz;have e0:(a.add 0).add 0=a:=by simp[Addr.add]
   rw[e0,zAI (by omega)]at hcz;exact⟨World.cell?_spot hcz,EH hcz⟩
  refine⟨len,some a,m,⟨rfl,hl,hm,(λe=>by cases e),λb e=>?_⟩,λb e i hi=>?_⟩
  .cases e;rcases zCB m with h|h
   .exact .inl h
   .exact .inr (first h).2
  .cases e;obtain⟨hs,_⟩:=first (by omega)
   obtain⟨lM,h1,h2⟩:=hx i (by omega);obtain⟨_,hlen,bm⟩:=World.cells?_some h1;rw[hc]at hlen bm;refine⟨hs,lM,n,_,hlen,λc LO=>?_,h2⟩;have:=bm c LO;rw[Pb hs,Pb rfl]at this;rw[<-this,zBD]
def SP [Inhabited α] {p:Nat->α->Prop} (h:∀i,i<n->∃x,p i x):∃l:List α,l.length=n/\∀i x,l[i]?=some x->p i x:=by
 obtain⟨f,hf⟩:=choose_lt h;refine⟨(List.range n).map f,by simp,λi x hx=>?_⟩;rw[zCG]at hx;cases hr:(List.range n)[i]? with
 |none=>rw[hr]at hx;cases hx
 |some j=>
  rw[hr]at hx;obtain⟨au,he⟩:=zAO.1 hr;simp at he au;subst he;simp only[zBJ,zAB]at hx;subst hx;exact hf i au
def rN {x:DataW H×List MemPlace} (ht:P.underlying t=some (.slice e)) (hc:P.cellsOf e=sz) (hz:0<sz)
 (h:DataW.trod enc P w 0 (λ_=>true) held fuel t [v]=some x) [Inhabited α] {p:Addr->Nat->α->Prop}
 (hp:∀(b:Addr) (i:Nat) (cs:List fu) (m:Nat) (y:DataW H×List MemPlace),b.spot=none->cs.length=sz->(∀c,c<sz->w.cell? ⟨b.block,b.off+(i*sz+c),none⟩=cs[c]?)->DataW.trod enc P w 0 (λ_=>true) held m e cs=some y->∃z,p b i z):
 ∃(l:List α) (a:Option Addr) (cap:Nat),bi w v l.length a cap/\∀b,a=some b->∀j z,l[j]?=some z->p b j z:=by
 obtain⟨n,a,cap,h1,h2⟩:=zc0 ht hc hz h;cases a with
 |none=>
  have:cap=0:=h1.nil rfl;obtain rfl:n=0:=by have:=h1.le;omega
  exact⟨[],none,cap,h1,λb e=>by cases e⟩
 |some b=>
  obtain⟨l,hl,tW⟩:=SP (n:=n) (p:=p b) λi hi=>by
   obtain⟨h3,cs,m,y,h4,h5,h6⟩:=h2 b rfl i hi;exact hp b i cs m y h3 h4 h5 h6
  exact⟨l,some b,cap,by rw[hl];exact h1,λb' e j z hj=>by cases e;exact tW j z hj⟩
def rO:Tryz.prog.cellsOf 3=1:=by kernel_rfl
def SQ:Tryz.prog.cellsOf 37=6:=by kernel_rfl
def Pc:Tryz.prog.cellsOf 53=2:=by kernel_rfl
def ST:Tryz.prog.cellsOf 56=3:=by kernel_rfl
def X9:Tryz.prog.cellsOf 9=1:=by kernel_rfl
def Jm:Tryz.prog.cellsOf 34=2:=by kernel_rfl
def Jn:Tryz.prog.cellsOf 35=1:=by kernel_rfl
def SU:Tryz.prog.cellsOf 26=5:=by kernel_rfl
def SV:Tryz.prog.cellsOf 22=1:=by kernel_rfl
def SW:Tryz.prog.cellsOf 23=1:=by kernel_rfl
def SX:Tryz.prog.cellsOf 24=1:=by kernel_rfl
def Au {x:DataW H×List MemPlace} (h:DataW.trod enc Tryz.prog w 0 (λ_=>true) held fuel 35 [v]=some x):∃l,ah w v l:=by
 obtain⟨l,a,cap,h1,h2⟩:=rN (α:=Int) Tryz.underlying35 rO (by decide) h (p:=λb i z=>At w b i (.int .i64 z)) λb i cs m y hs hl bm ht=>by
  obtain⟨n,rfl,_⟩:=DataW.trod_int Tryz.underlying3 ht;have:=bm 0 (by decide);exact⟨n,hs,by simpa using this⟩
 exact⟨l,a,cap,h1,h2⟩
def fld {fs:Array Field} {cs:List fu} {x:DataW H×List MemPlace} (ht:P.underlying t=some (.struct fs)) (h:DataW.trod enc P w 0 (λ_=>true) held fuel t cs=some x):
 ∃n,∀(i:Nat) (f:Field),fs[i]?=some f->∃y,DataW.trod enc P w 0 (λ_=>true) held n f.type ((cs.drop f.offset).take (P.cellsOf f.type))=some y:=by
 obtain⟨xs,n,_,_,_,hl,hf⟩:=DataW.trod_struct ht h;refine⟨n,λi f hi=>?_⟩;have:=hf i f hi;have au:i<xs.length:=by rw[hl];exact(zAC.1 hi).1
 rw[zAI au]at this;exact⟨_,this⟩
abbrev Rd (enc:a00×fu->H) (w:nq) (held:Bool) (n:Nat) (t:a00) (cs:List fu):Prop:=∃y,DataW.trod enc Tryz.prog w 0 (λ_=>true) held n t cs=some y
def oA (h:Rd enc w held n 3 [v]):∃k,v=.int .i64 k:=by
 obtain⟨y,h⟩:=h;obtain⟨k,e,_⟩:=DataW.trod_int Tryz.underlying3 h;exact⟨k,by simpa using e⟩
def Ya (h:Rd enc w held n 9 [v]):∃s,v=.string s:=by
 obtain⟨y,h⟩:=h;obtain⟨k,e,_⟩:=DataW.trod_string Tryz.underlying9 h;exact⟨k,by simpa using e⟩
def Jo (h:Rd enc w held n 35 [v]):∃l,ah w v l:=let⟨_,h⟩:=h;Au h
def SY (h:Rd enc w held n 53 [v0,v1]):∃a b,v0=.int .i64 a/\v1=.int .i64 b:=by
 obtain⟨y,h⟩:=h;obtain⟨m,hf⟩:=fld Tryz.underlying53 h;have t0:Rd enc w held m 3 (([v0,v1].drop 0).take (Tryz.prog.cellsOf 3)):=hf 0 _ rfl;have t1:Rd enc w held m 3 (([v0,v1].drop 1).take (Tryz.prog.cellsOf 3)):=hf 1 _ rfl;rw[rO]at t0 t1;obtain⟨a,rfl⟩:=oA t0;obtain⟨b,rfl⟩:=oA t1;exact⟨a,b,rfl,rfl⟩
def Jp (h:Rd enc w held n 34 [v0,v1]):∃a b,v0=.int .i64 a/\v1=.int .i64 b:=by
 obtain⟨y,h⟩:=h;obtain⟨m,hf⟩:=fld Tryz.underlying34 h;have t0:Rd enc w held m 3 (([v0,v1].drop 0).take (Tryz.prog.cellsOf 3)):=hf 0 _ rfl;have t1:Rd enc w held m 3 (([v0,v1].drop 1).take (Tryz.prog.cellsOf 3)):=hf 1 _ rfl;rw[rO]at t0 t1;obtain⟨a,rfl⟩:=oA t0;obtain⟨b,rfl⟩:=oA t1;exact⟨a,b,rfl,rfl⟩
def SZ {v5:fu} (h:Rd enc w held n 37 [v0,v1,v2,v3,v4,v5]):∃x:Part,v0=.string x.name/\v1=.int .i64 x.cost/\v2=.int .i64 x.d8/\v3=.int .i64 x.lo/\v4=.int .i64 x.hi/\ah w v5 x.fits:=by
 obtain⟨y,h⟩:=h;obtain⟨m,hf⟩:=fld Tryz.underlying37 h;have t0:Rd enc w held m 9 (([v0,v1,v2,v3,v4,v5].drop 0).take (Tryz.prog.cellsOf 9)):=hf 0 _ rfl;have t1:Rd enc w held m 3 (([v0,v1,v2,v3,v4,v5].drop 1).take (Tryz.prog.cellsOf 3)):=hf 1 _ rfl;have t2:Rd enc w held m 3 (([v0,v1,v2,v3,v4,v5].drop 2).take (Tryz.prog.cellsOf 3)):=hf 2 _ rfl;have t3:Rd enc w held m 34 (([v0,v1,v2,v3,v4,v5].drop 3).take (Tryz.prog.cellsOf 34)):=hf 3 _ rfl;have t4:Rd enc w held m 35 (([v0,v1,v2,v3,v4,v5].drop 5).take (Tryz.prog.cellsOf 35)):=hf 4 _ rfl;rw[X9]at t0;rw[rO]at t1 t2;rw[Jm]at t3;rw[Jn]at t4;obtain⟨s,rfl⟩:=Ya t0;obtain⟨a,rfl⟩:=oA t1;obtain⟨b,rfl⟩:=oA t2;obtain⟨c,d,rfl,rfl⟩:=Jp t3;obtain⟨l,hl⟩:=Jo t4;exact⟨⟨s,a,b,c,d,l⟩,rfl,rfl,rfl,rfl,rfl,hl⟩
def Pd (h:Rd enc w held n 56 [v0,v1,v2]):∃x:iC,ah w v0 x.ptz/\v1=.int .i64 x.lo/\v2=.int .i64 x.hi:=by
 obtain⟨y,h⟩:=h;obtain⟨m,hf⟩:=fld Tryz.underlying56 h;have t0:Rd enc w held m 35 (([v0,v1,v2].drop 0).take (Tryz.prog.cellsOf 35)):=hf 0 _ rfl;have t1:Rd enc w held m 34 (([v0,v1,v2].drop 1).take (Tryz.prog.cellsOf 34)):=hf 1 _ rfl;rw[Jn]at t0;rw[Jm]at t1;obtain⟨l,hl⟩:=Jo t0;obtain⟨c,d,rfl,rfl⟩:=Jp t1;exact⟨⟨l,c,d⟩,hl,rfl,rfl⟩
instance : Inhabited Part := ⟨⟨ByteArray.empty, 0, 0, 0, 0, []⟩⟩
instance : Inhabited iC := ⟨⟨[], 0, 0⟩⟩
def Pe (h:Rd enc w held n 23 [v]):∃l,fL w v l:=by
 obtain⟨y,h⟩:=h
 obtain⟨l,a,cap,h1,h2⟩:=rN (α:=Int×Int) Tryz.underlying23 Pc (by decide) h (p:=λb i z=>At w b (i*2) (.int .i64 z.1)/\At w b (i*2+1) (.int .i64 z.2)) λb i cs m y hs hl bm ht=>by
  match cs,hl with
  | [v0,v1],_=>
    obtain⟨a,b',rfl,rfl⟩:=SY ⟨y,ht⟩;exact⟨(a,b'),⟨hs,bm 0 (by decide)⟩,hs,bm 1 (by decide)⟩
 exact⟨l,a,cap,h1,h2⟩
def Pf (h:Rd enc w held n 22 [v]):∃l,ff w v l:=by
 obtain⟨y,h⟩:=h
 obtain⟨l,a,cap,h1,h2⟩:=rN (α:=Part) Tryz.underlying22 SQ (by decide) h (p:=λb i x=>At w b (i*6) (.string x.name)/\At w b (i*6+1) (.int .i64 x.cost)/\At w b (i*6+2) (.int .i64 x.d8)/\
  At w b (i*6+3) (.int .i64 x.lo)/\At w b (i*6+4) (.int .i64 x.hi)/\∃vf,At w b (i*6+5) vf/\ah w vf x.fits) λb i cs m y hs hl bm ht=>by
  match cs,hl with
  | [v0,v1,v2,v3,v4,v5],_=>
    obtain⟨x,rfl,rfl,rfl,rfl,rfl,h5⟩:=SZ ⟨y,ht⟩;exact⟨x,⟨hs,bm 0 (by decide)⟩,⟨hs,bm 1 (by decide)⟩,⟨hs,bm 2 (by decide)⟩,⟨hs,bm 3 (by decide)⟩,⟨hs,bm 4 (by decide)⟩,v5,⟨hs,bm 5 (by decide)⟩,h5⟩
 exact⟨l,a,cap,h1,h2⟩
def LE (h:Rd enc w held n 24 [v]):∃l,fZ w v l:=by
 obtain⟨y,h⟩:=h
 obtain⟨l,a,cap,h1,h2⟩:=rN (α:=iC) Tryz.underlying24 ST (by decide) h (p:=λb i x=>(∃vf,At w b (i*3) vf/\ah w vf x.ptz)/\At w b (i*3+1) (.int .i64 x.lo)/\At w b (i*3+2) (.int .i64 x.hi)) λb i cs m y hs hl bm ht=>by
  match cs,hl with
  | [v0,v1,v2],_=>
    obtain⟨x,h5,rfl,rfl⟩:=Pd ⟨y,ht⟩;exact⟨x,⟨v0,⟨hs,bm 0 (by decide)⟩,h5⟩,⟨hs,bm 1 (by decide)⟩,⟨hs,bm 2 (by decide)⟩⟩
 exact⟨l,a,cap,h1,h2⟩
def S0 (h:Rd enc w held n 26 [v0,v1,v2,v3,v4]):∃b,az w (.agg #[v0,v1,v2,v3,v4]) b:=by
 obtain⟨y,h⟩:=h;obtain⟨m,hf⟩:=fld Tryz.underlying26 h;have t0:Rd enc w held m 3 (([v0,v1,v2,v3,v4].drop 0).take (Tryz.prog.cellsOf 3)):=hf 0 _ rfl;have t1:Rd enc w held m 3 (([v0,v1,v2,v3,v4].drop 1).take (Tryz.prog.cellsOf 3)):=hf 1 _ rfl;have t2:Rd enc w held m 22 (([v0,v1,v2,v3,v4].drop 2).take (Tryz.prog.cellsOf 22)):=hf 2 _ rfl;have t3:Rd enc w held m 23 (([v0,v1,v2,v3,v4].drop 3).take (Tryz.prog.cellsOf 23)):=hf 3 _ rfl;have t4:Rd enc w held m 24 (([v0,v1,v2,v3,v4].drop 4).take (Tryz.prog.cellsOf 24)):=hf 4 _ rfl;rw[rO]at t0 t1;rw[SV]at t2;rw[SW]at t3;rw[SX]at t4;obtain⟨a,rfl⟩:=oA t0;obtain⟨b,rfl⟩:=oA t1;obtain⟨l2,h2⟩:=Pf t2;obtain⟨l3,h3⟩:=Pe t3;obtain⟨l4,h4⟩:=LE t4;exact⟨⟨a,b,l2,l3,l4⟩,v2,v3,v4,rfl,h2,h3,h4⟩
end
end Go.Proofs.Cz

namespace Go.Proofs.Cz
open Go.Conc Go.aD Go.RowKit Go.ChangeShapes
open Go.Proofs.YtddlcmejelobdaaGreatDoor (Tryz.pinned)
def Jq:Tryz.prog.globalNamed "nosale/build.checks" =some 0:=by kernel_rfl
def S4:(Tryz.prog.globals[0]?).map (·.type)=some 144:=by kernel_rfl
def S5:Tryz.prog.cellsOf 84=1:=by kernel_rfl
noncomputable def NJ:Bool:=match(((begin Tryz.prog (λ_ _=>0) default).world.heap[0]?).bind Obj.row?)with|some (_,t)=>Nat.beq t 144|none=>false
def S6:NJ=true:=by kernel_rfl
def LF {W:World} (h:laidMetH Tryz.prog [("nosale/build.checks",YtddlcmejelobdaaGreatDoor.Rows.laid_nosale_build_checks)] W) (hs:W.ShapedOpen Tryz.prog):∃fz,W.heap[0]? =some (.cells fQ 144 fz):=by
 obtain⟨g,t,cs,fuel,p,hg,ht,hv,hd⟩:=h.funcs (zBU.2 rfl);obtain rfl:=zAW (Jq.symm.trans hg);obtain rfl:=zAW (S4.symm.trans ht);obtain⟨xs,m,_,hx,hl,YY,VG⟩:=DataW.trod_array Tryz.underlying144 hd;have hc:Tryz.prog.cellsOf 144=4:=by kernel_rfl
 rw[hc]at hl;rw[S5]at VG
 have rP:cs=fQ:=by
  obtain⟨l⟩:=cs;match l,hl with
  | [v0,v1,v2,v3],_=>
    match xs,YY with
    | [y0,y1,y2,y3],_=>
      have e0:=VG 0 (by decide);have e1:=VG 1 (by decide);have e2:=VG 2 (by decide);have e3:=VG 3 (by decide);obtain⟨d0,q0⟩:=y0;obtain⟨d1,q1⟩:=y1;obtain⟨d2,q2⟩:=y2;obtain⟨d3,q3⟩:=y3;have Kq:=zBE Prod.fst hx;change DataW.agg [.held [40,110,111,115,97,108,101,47,98,117,105,108,100,46,98,111,111,107,41,46,111,114,100,101,114],.held [40,110,111,115,97,108,101,47,98,117,105,108,100,46,98,111,111,107,41,46,112,97,114,116,115],.held [40,110,111,115,97,108,101,47,98,117,105,108,100,46,98,111,111,107,41,46,112,97,105,114,115],.held [40,110,111,115,97,108,101,47,98,117,105,108,100,46,98,111,111,107,41,46,116,114,105,97,108,115]]=DataW.agg [d0,d1,d2,d3]at Kq;injection Kq with Kq;injection Kq with a0 Kq;injection Kq with a1 Kq;injection Kq with a2 Kq;injection Kq with a3 Kq;subst a0;subst a1;subst a2;subst a3;obtain rfl:=Go.func_of_trod (f0:=183) Tryz.underlying84 (by kernel_rfl) e0;obtain rfl:=Go.func_of_trod (f0:=184) Tryz.underlying84 (by kernel_rfl) e1;obtain rfl:=Go.func_of_trod (f0:=185) Tryz.underlying84 (by kernel_rfl) e2;obtain rfl:=Go.func_of_trod (f0:=186) Tryz.underlying84 (by kernel_rfl) e3;rfl
 subst rP;have G8:=S6;unfold NJ at G8;cases hr:((begin Tryz.prog (λ_ _=>0) default).world.heap[0]?).bind Obj.row? with
 |none=>rw[hr]at G8;cases G8
 |some zt=>
  obtain⟨zero,t⟩:=zt;rw[hr]at G8;obtain rfl:=zAN G8;obtain⟨cs,bm,_⟩:=hs.1 0 zero 144 (by rw[show Tryz.prog.globals.size=1 from wX];decide) hr;refine⟨(0,0),?_⟩
  have U2:W.var? Tryz.prog "nosale/build.checks" =some cs:=by
   simp only[World.var?,Jq,zDT,bm]
  rw[U2]at hv;rw[bm,zAW hv]
end Go.Proofs.Cz

namespace Go.Proofs.Cz
open Go.Conc Go.aD Go.RowKit Go.ChangeShapes Go.WideShapes Go.ChangeAt
open Go.Proofs.YtddlcmejelobdaaGreatDoor
variable {P:Program} {W w:World} {args:Array Value} {base:Nat} {held:Bool} {spare:Nat->Bool} {t0:TypeId} {v0:Value}
abbrev Jr:List (String×DataW Unit):=[("nosale/build.checks",Rows.laid_nosale_build_checks)]
theorem ziL:ownKnob Tryz.prog.godebug=none:=by kernel_rfl
theorem Pg:laidOutB Tryz.prog=true:=by kernel_rfl
theorem Ph (os:Os) (args:Array Value):laidMetH Tryz.prog Jr ((World.doorLaid Tryz.prog 14 os).forCall (λ_ _=>0) ⟨#[],args,[]⟩).memory:=
 laidMetH_of_parts3 (fuel:=8) (laidMet_of_run' 8 (by kernel_rfl) (by kernel_rfl)) (by kernel_rfl) (by kernel_rfl)
def LG:Prop:=∀(w:World) (v0:Value) (b0:aj),az w v0 b0->rz w->Calls ZP 4 #[v0] w λe _=>e=.returned (.bool true)
theorem mL {f:Nat} {p:Pi} (h:S1 f=true):VR S1 p (.func (.func f) #[] #[]) (.func (.func f) #[] #[]):=
 .func h rfl rfl (λi v v' hv=>by simp at hv) (λi v v' hv=>by simp at hv)
theorem rz.kz {fz:Nat×Nat} (h:w.heap[0]?=some (.cells fQ 144 fz)):rz (kz S1 w):=by
 have c:∀(i:Nat) (v:Value),fQ[i]?=some v->w.cell? ⟨0,i,none⟩=some v:=λi v hv=>by
  simp only[World.cell?,h];exact hv
 exact⟨nE Zo (c 0 _ rfl) (mL (by decide)),nE Zo (c 1 _ rfl) (mL (by decide)),nE Zo (c 2 _ rfl) (mL (by decide)),nE Zo (c 3 _ rfl) (mL (by decide))⟩
theorem LG.alone (h:LG) {b0:aj} (h0:az w v0 b0) (hc:rz w):
 Alone ZP 4 #[v0] w λv _=>v=.bool true:=λT=>
 (h {w with tape:=T} v0 b0 (az.later (w:=w) (w':={w with tape:=T}) (λ_ _=>rfl) h0) ⟨hc.c0,hc.c1,hc.c2,hc.c3⟩).mono λe w' he=>⟨.bool true,he,rfl⟩
section
variable {H:Type} {enc:TypeId × Value->H}
theorem Pj {v:Value} {d:DataW H} {p:List MemPlace} (pU:Value.okWide Tryz.prog W .any base 26 v) (h:DataW.Trod enc Tryz.prog W 0 (λ_=>true) true 26 v d p):∃b,az W v b:=by
 unfold Value.okWide at pU;rw[Tryz.underlying26]at pU;obtain⟨cs,rfl,cB,_⟩:=pU;rw[SU]at cB;obtain⟨fuel,hf⟩:=h;obtain⟨l⟩:=cs;match l,cB with
 | [c0,c1,c2,c3,c4],_=>exact S0 ⟨_,hf⟩
theorem LH {ds:List (DataW H)} {ps:List MemPlace} (h:DataW.TrodAll enc P w base spare held [t0] args.toList ds ps):
 ∃v0 d0 p0,args=#[v0]/\ds=[d0]/\ps=p0/\DataW.Trod enc P w base spare held t0 v0 d0 p0:=by
 obtain⟨v0,vs0,d0,ds0,p0,q0,yR,rfl,rfl,h0,hr⟩:=trodAll_cons h;obtain⟨rfl,rfl,rfl⟩:=trodAll_nil hr;exact⟨v0,d0,p0,by cases args;simp_all,rfl,by simp,h0⟩
theorem EI {d0:DataW H} {p0:List MemPlace} (h0:DataW.Trod enc P w base spare held t0 v0 d0 p0):
 DataW.TrodAll enc P w base spare held [t0] [v0] [d0] (p0):=trodAll_mk1 h0
theorem Pk (Hr:LG) {ds gs:List (DataW H)} {before:List MemPlace}
 (zc2:∀(j:Nat) t v,Tryz.f4.params[j]?=some t->args[j]?=some v->Value.okWide Tryz.prog W .any base t v)
 (hW:DataW.Whole enc Tryz.prog Tryz.f4.params.toList Rows.buildChoicesSpec.vars false W args.toList ds gs before) (hL:laidMetH Tryz.prog Jr W) (YP:W.ShapedOpen Tryz.prog):
 ∃M last o w' t',runNT Tryz.prog (M+1) (solo (G (Frame.enter Tryz.prog 4 args .normal) []) W) #[]=(.ended o w',t')/\runN Tryz.prog M (solo (G (Frame.enter Tryz.prog 4 args .normal) []) W)=.next last/\
  step Tryz.prog last=.ended o w'/\Conc.Good Tryz.prog (λv w'=>Rows.buildChoicesSpec.post enc Tryz.prog Tryz.f4 false true false false W args v w') last o w' t':=by
 have hW':=hW;obtain⟨p,q,DP,hV,rfl,Yk,JF⟩:=hW;have hA:=DP;have pU:=zc2;rw[Tryz.params4]at hA pU;obtain⟨v0,d0,p0,rfl,rfl,YN,h0⟩:=LH hA;obtain rfl:p0=p:=YN.symm;obtain⟨rfl,rfl⟩:=trodVars_none hV;obtain⟨b0,TJ⟩:=Pj (pU 0 26 v0 rfl rfl) h0;obtain⟨fz,Ib⟩:=LF hL YP;have hg:=Pa (f:=4) (args:=#[v0]) (by decide) Ib (AR.empty.push TJ.clean) (Hr.alone TJ.kz (rz.kz Ib));obtain⟨M,last,o,w',t',r1,r2,r3,r4⟩:=hg;refine⟨M,last,o,w',t',r1,r2,r3,r4.mono λv ⟨hv,he⟩=>?_⟩;subst hv;have hB:Below W.heap.size W {w' with tape:=W.tape}:=⟨he.os,rfl,he.out,he.size,λk hk=>he.same k hk⟩
 have Si:∀y∈p0,y.block<W.heap.size:=λy hy=>hW'.lt y (by simp[hy])
 have yR:DataW.TrodAll enc Tryz.prog {w' with tape:=W.tape} 0 (λb=>decide (b<W.heap.size)) true [26] [v0] [d0] (p0):=
  EI (Below.trod Pg (by kernel_rfl) (by rw[Tryz.types_size];decide) h0 hB Si)
 have hk:=Below.frame (w':={w' with tape:=W.tape}) hB (λ_=>False);refine⟨_,_,_,[],p0,[],hW',?_,?_,rfl,World.keptBut_mono (λ_ h=>False.elim h) hk,λh=>by cases h⟩
 .exact trodAll_mk1 (shut_bool Tryz.underlying4 _)
 .show DataW.TrodAll enc Tryz.prog w' 0 (λb=>decide (b<W.heap.size)) true Tryz.f4.params.toList [v0] [d0] (p0);rw[Tryz.params4];exact DataW.TrodAll.of_heap (w:={w' with tape:=W.tape}) (w':=w') rfl yR
end
theorem Ht (Hr:LG) (os:Os) (started:os.Started) (H:Type) (enc:TypeId×Value->H):
 ReturnsInLeavingWide {} Tryz.checked os 4 .any (λw args=>(Rows.buildChoicesSpec.pre enc Tryz.prog Tryz.f4 [] false w args/\laidMetH Tryz.prog Jr w)/\sizedMet enc Tryz.prog Tryz.f4 (OpenSpec.ofChange Rows.buildChoicesSpec) false w args)
  (Rows.buildChoicesSpec.post enc Tryz.prog Tryz.f4 false true false false):=by
 refine returnsInLeavingWide_of_good (C:=Tryz.checked) ziL started
  (ChangeSpec.witness_shaped (enc:=enc) (C:=Tryz.checked) (os:=os) (X:=λw _=>laidMetH Tryz.prog Jr w) false (World.doorLaid Tryz.prog 14 os) #[.agg #[.int .i64 0,.int .i64 0,.slice none 0 0,.slice none 0 0,.slice none 0 0]] 8 rfl (World.shaped_of_RefB (by kernel_rfl) (by kernel_rfl)) (by kernel_rfl) (by kernel_rfl) (by kernel_rfl) (Ph os _)) ?_
 intro w tape i _ YP _ uy vx _;obtain⟨_,_,_,oS,ziM,_,_,_,_,pU⟩:=uy;have e:=zAW (ziM.symm.trans Tryz.func4);subst e;obtain⟨⟨⟨ds,gs,before,hw,_⟩,hL⟩,_⟩:=vx;have hw':=DataW.Whole.of_heap (w':=w.forCall tape i) (by rfl) hw;obtain⟨M,last,o,w',t',r1,r2,r3,r4⟩:=Pk Hr pU hw' (hL.of_heap (by rfl)) YP;exact⟨M,last,o,w',t',r1,r2,r3,r4.mono λv hp=>ChangeSpec.post_blind hp⟩
theorem LI (Hr:LG):Rows.BuildChoicesSaid:=
 OpenClaim.holds_of_wide_leaving 4 Tryz.f4 rfl rfl rfl rfl rfl rfl rfl ⟨rfl,rfl,rfl,rfl,rfl⟩ rfl rfl rfl rfl rfl (by kernel_rfl) Tryz.func4 (by kernel_rfl)
  (zEZ (by kernel_rfl)) (by unfold Func.isWrapper;first|(rw[zAE (by decide+kernel)];kernel_rfl)|(rw[zAG (by decide+kernel)];exact⟨rfl,rfl⟩))
  (λos started H enc _=>Ht Hr os started H enc)
theorem Pm (Hr:LG):Rows.BuildChoicesCardSaid:=by
 have hl:∀f fn,Tryz.prog.funcNamed "nosale/nosalelaw05.BuildChoices" =some f->Tryz.prog.funcs[f]? =some fn->false=Tryz.prog.looks []/\∀(j:Nat) t,fn.params[j]? =some t->Tryz.prog.wantsStandIn t=false:=fun f fn hf xK=>by
  obtain rfl:f=4:=Option.some.inj ((show Tryz.prog.funcNamed "nosale/nosalelaw05.BuildChoices" =some 4 by kernel_rfl).symm.trans hf)|>.symm;obtain rfl:fn=Tryz.f4:=(Option.some.inj (Tryz.func4.symm.trans xK)).symm
  exact⟨by kernel_rfl,λj t ht=>by
   rw[Tryz.params4]at ht;have hm:t∈ [26]:=by simpa using zDN ht
   have cn:([26].all λu=>!Tryz.prog.wantsStandIn u)=true:=by kernel_rfl
   exact(show Tryz.prog.wantsStandIn t=false by simpa using zCM.1 cn t hm)⟩
 have Yr:(true,"d21bd67031cd145a7d6763941cd9ecf1711f3297c089475bad4f10b97f158b8c").1=true:=rfl;refine⟨Claim7.tied_new_at .later [.funcs] true (Claim7.new_of_sixth (LI Hr) (true,"d21bd67031cd145a7d6763941cd9ecf1711f3297c089475bad4f10b97f158b8c") false rfl ⟨rfl,rfl⟩ (by kernel_rfl) (by rfl) hl) (by kernel_rfl),(fun D h=>by cases h),buildChoices_row_tie,(fun h=>by cases h),by kernel_rfl⟩
end Go.Proofs.Cz
namespace Go.Proofs.YtddlcmejelobdaaGreatDoor
theorem buildChoices_true:Rows.BuildChoicesCardSaid:=Go.Proofs.Cz.Pm Go.Proofs.Cz.zio
end Go.Proofs.YtddlcmejelobdaaGreatDoor
