/- A part. Conditions: none. -/
import Derived.Test.YtboiakcocelkmaaGreatDoorT44
import Derived.Deep.RegionWith
set_option linter.all false
set_option maxHeartbeats 8000000
set_option maxRecDepth 100000
namespace Go.Proofs.Cz
open Go.RowKit
theorem pC (f:Value) (w:World) (v:Value) (b:ao) (hb:au w v b) (hs:de b) (hc:jH w) (hn:aO b≠0):
 Calls ZP 45 #[v,f] w (bK w (.tuple #[ku,.int .i64 (aO b)])):=by
 have HB:=hid hb;obtain⟨a2,c2,a3,c3,a4,c4,rfl⟩:=hb.cj;obtain⟨A1,aV⟩:=ex1 (w.alloc (.cells #[.int .i64 b.ak,.int .i64 b.places,.slice a2 b.parts.length c2,.slice a3 b.apart.length c3,.slice a4 b.ab.length c4] 26));obtain⟨A2,bY⟩:=ex1 (A1.alloc (.cells #[.int .i64 0,.int .i64 0,.slice none 0 0,.slice none 0 0,.slice none 0 0,.slice none 0 0] 71));have eE:=rh aV;have B1:Hid (aF A2 w.heap.size 26 #[.int .i64 b.ak,.int .i64 b.places,.slice a2 b.parts.length c2,.slice a3 b.apart.length c3,.slice a4 b.ab.length c4]):=(bh bY).box (cz aV) (by simp);have B2:Hid (aF A2 (w.heap.size+1) 71 #[.int .i64 0,.int .i64 0,.slice none 0 0,.slice none 0 0,.slice none 0 0,.slice none 0 0]):=by have:=cz bY;rw[eE]at this;exact this
 have HW:Hid (Below w.heap.size w A2):=((bh aV).trans' (bh bY)).below (by simp) (Nat.le_refl _);obtain⟨z0,z1,z2,z3,z4⟩:=B1.o.c5;have hC:=lA A2 _ b (HB.o.later (Kp.of HW.o)) hs (hc.later HW.o);obtain⟨s,Ei⟩:=ex1 (aO b);rw[Ei]at hC hn⊢;clear hb hc hs Ei;go_enter ZF45,Tryz.ntmps45
 go_wp2_with fail
 refine hC.mono ?_;rintro e w1 ⟨⟨r,rfl,rfl⟩,bj⟩;have eI:=hid bj;have kE:=HW.t bj;have HR:=B2.o.below bj B2.o.lt;obtain⟨⟨t0,t1,t2,t3,t4,t5⟩,f0,f1,f2,f3,f4,f5⟩:=vr HR;have e0:=HR.same (i:=0) (v:=.int .i64 0) rfl;have e1:=HR.same (i:=1) (v:=.int .i64 0) rfl;have e2:=HR.same (i:=2) (v:=.slice none 0 0) rfl;have e3:=HR.same (i:=3) (v:=.slice none 0 0) rfl;have e4:=HR.same (i:=4) (v:=.slice none 0 0) rfl;have e5:=HR.same (i:=5) (v:=.slice none 0 0) rfl;clear bj z0 z1 z2 z3 z4 hC aV bY HR eE;go_wp2_with fail
 refine bodyPost_ret (v:=.tuple #[ku,.int .i64 r]) ?_ rfl ⟨rfl,kE.o⟩;rw[results_cell_tmp rfl];go_simp
end Go.Proofs.Cz
