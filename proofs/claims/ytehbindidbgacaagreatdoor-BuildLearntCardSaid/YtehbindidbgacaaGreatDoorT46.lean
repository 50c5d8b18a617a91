/- A part. Conditions: none. -/
import Derived.Test.YtehbindidbgacaaGreatDoorT41
set_option linter.all false
set_option maxHeartbeats 8000000
set_option maxRecDepth 100000
namespace Go.Proofs.Cz
open Go.RowKit
theorem pa (w:World) (v v':Value) (l:List Int) (h:am w v l) (h':am w v' l):Calls ZP 75 #[v,v'] w (di w (.bool true)):=by
 obtain⟨a,c,h1,h2⟩:=h;obtain⟨a',c',zg,qm⟩:=h';have H:Hid (bA w v l.length a c/\_):=⟨h1,h2⟩
 have H':Hid (bA w v' l.length a' c'/\_):=⟨zg,qm⟩
 obtain⟨rfl,l1,m1,n1,r1⟩:=h1;obtain⟨rfl,l1',m1',n1',PP⟩:=zg;unfold maxLen at m1 m1';clear h2 n1 r1 qm n1' PP;go_enter ZF75,Tryz.ntmps75
 go_wp2
 go_loopw [5] (λi wr=>∃k:Nat,k<=l.length/\i=.int .i64 k/\∃n,wr=w.drewN n) (λi _=>l.length-(intOf i).toNat)
 case atStart=>exact⟨0,zAR _,rfl,0,rfl⟩
 case round=>
  obtain⟨k,hk,rfl,n,rfl⟩:=hrel;by_cases az:k<l.length
  .obtain⟨⟨blk,off,sp⟩,y,rfl,hy,y0⟩:=H.o.1.elem H.o.2 az;obtain⟨⟨ik,il,LM⟩,y',rfl,Q6,y0'⟩:=H'.out.1.elem H'.out.2 az;obtain rfl:sp=none:=y0.1;obtain rfl:LM=none:=y0'.1;rw[hy]at Q6;obtain rfl:y=y':=zAY Q6;have g0:=y0.2;have g0':=y0'.2;simp only at g0 g0';clear y0 y0' hy Q6;go_wp2
   go_quiet (fail)
   go_wp2
   go_round
   case rel=>exact⟨k+1,by omega,by go_num,_,rfl⟩
   case measure=>simp[intOf];omega
  .have e:k=l.length:=by omega
   subst e;go_wp2
   go_ret;exact⟨rfl,Below.drewN (Below.refl _ _) _⟩
theorem wB:ZP.eqGuardType ZP.depth 43=false:=by kernel_rfl
theorem yI (w:World) (x:Part) (vf Fm:Value) (h:am w vf x.fits) (h':am w Fm x.fits):
 Calls ZP 74 #[.agg #[.string x.name,.int .i64 x.cost,.int .i64 x.bY,.int .i64 x.lo,.int .i64 x.hi,vf],.agg #[.string x.name,.int .i64 x.cost,.int .i64 x.bY,.int .i64 x.lo,.int .i64 x.hi,Fm]] w (di w (.bool true)):=by
 obtain⟨A1,aV⟩:=ex1 (w.alloc (.cells #[.string x.name,.int .i64 x.cost,.int .i64 x.bY,.int .i64 x.lo,.int .i64 x.hi,vf] 77));obtain⟨A2,bc⟩:=ex1 (A1.alloc (.cells #[.string x.name,.int .i64 x.cost,.int .i64 x.bY,.int .i64 x.lo,.int .i64 x.hi,Fm] 77));have cS:=snew aV;have B1:=(bnewk aV bc).o;have B2:=(bnew2 bc cS).o;have HW:=wnew2 aV bc;have y0:=B1.cell 0 rfl;have y1:=B1.cell 1 rfl;have y2:=B1.cell 2 rfl;have y3:=B1.cell 3 rfl;have y4:=B1.cell 4 rfl;have y5:=B1.cell 5 rfl;have z0:=B2.cell 0 rfl;have z1:=B2.cell 1 rfl;have z2:=B2.cell 2 rfl;have z3:=B2.cell 3 rfl;have z4:=B2.cell 4 rfl;have z5:=B2.cell 5 rfl;have hC:=pa A2 vf Fm x.fits (h.later (Kp.of HW.o)) (h'.later (Kp.of HW.o));have hG:=wB;clear B1 B2 h h';go_enter ZF74,Tryz.ntmps74
 go_wp2_with(go_at_call 75;refine hC.mono ?_;rintro e w' ⟨rfl,hb⟩)
 go_ret;exact⟨rfl,HW.o.trans (hb.mono HW.o.size)⟩
def yJ (w:World) (L:List (Nat->Int)) (e:Ending) (w':World):Prop:=e=.returned (.tuple #[.int .i64 L.length,.int .i64 0])/\Below w.heap.size w w'
theorem m9 (w:World) (v:Value) (b:ap) (hb:ar w v b) (hv:Valid b) (hc:iv w):Calls ZP 10 #[v] w (yJ w (aq b (ai b))):=by
 have HB:=hid hb;have HV:Hid (Valid b):=hv;have HC:Hid (iv w):=hc;have AO:Hid (kE w v (ai b)):=eP hb hv;obtain⟨a2,c2,a3,c3,a4,c4,rfl⟩:=hb.dA;obtain⟨A1,aV⟩:=ex1 (w.alloc (.cells #[.int .i64 b.ac,.int .i64 b.places,.slice a2 b.parts.length c2,.slice a3 b.apart.length c3,.slice a4 b.aa.length c4] 26));have B1:Hid (aA A1 w.heap.size 26 #[.int .i64 b.ac,.int .i64 b.places,.slice a2 b.parts.length c2,.slice a3 b.apart.length c3,.slice a4 b.aa.length c4]):=bC aV;have HW:Hid (Below w.heap.size w A1):=(aF aV).below (by simp) (zAC _);have z0:=B1.o.cell 0 rfl;have z1:=B1.o.cell 1 rfl;have z2:=B1.o.cell 2 rfl;have z3:=B1.o.cell 3 rfl;have z4:=B1.o.cell 4 rfl;clear hb hv hc;go_enter ZF10,Tryz.ntmps10
 go_wp2_with(first
  |(go_at_call 44
    refine(iV A1 _ b (HB.o.later (Kp.of HW.o)) HV.o (HC.o.later HW.o)).mono ?_;rintro e w1 ⟨⟨r,rfl,rfl⟩,bi⟩;have dh:=hid bi;have tu:=HW.t bi;clear bi z0 z1 z2 z3 z4;have X1:=B1.o.below dh.o B1.o.lt;have z0:=X1.cell 0 rfl;have z1:=X1.cell 1 rfl;have z2:=X1.cell 2 rfl;have z3:=X1.cell 3 rfl;have z4:=X1.cell 4 rfl;clear X1)
  |(go_at_call 45
    refine(Fc _ b a2 c2 _ _ (ai b) (HB.o.later (Kp.of tu.o)) HV.o (λX t hX=>AO.o X t (tu.o.trans (hX.mono tu.o.size)))).mono ?_;rintro e w2 ⟨⟨r,rfl,hr⟩,fJ⟩;obtain⟨a,cap,rfl⟩:=cN hr;have gm:=tu.t fJ;clear hr fJ))
 go_ret2;exact⟨rfl,gm.o⟩
end Go.Proofs.Cz
