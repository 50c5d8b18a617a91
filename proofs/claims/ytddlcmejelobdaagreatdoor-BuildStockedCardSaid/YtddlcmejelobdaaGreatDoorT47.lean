/- A part. Conditions: none. -/
import Derived.Test.YtddlcmejelobdaaGreatDoorT46
import Derived.Deep.RegionWith
set_option linter.all false
set_option maxHeartbeats 8000000
set_option maxRecDepth 100000
namespace Go.Proofs.Cz
open Go.RowKit
theorem vu (f:Value) (w:World) (v:Value) (b:ai) (hb:au w v b) (hs:fL b) (hc:me w) (hn:bt b≠0):
 Calls ZP 51 #[v,f] w (dQ w (.tuple #[oC,.int .i64 (bt b)])):=by
 have HB:=hid hb;obtain⟨a2,c2,a3,c3,a4,c4,rfl⟩:=hb.gi;obtain⟨A1,bI⟩:=ex1 (w.alloc (.cells #[.int .i64 b.ao,.int .i64 b.places,.slice a2 b.parts.length c2,.slice a3 b.apart.length c3,.slice a4 b.ab.length c4] 26));obtain⟨A2,cF⟩:=ex1 (A1.alloc (.cells #[.int .i64 0,.int .i64 0,.slice none 0 0,.slice none 0 0,.slice none 0 0,.slice none 0 0] 81));have fW:=lW bI;have B1:Hid (aD A2 w.heap.size 26 #[.int .i64 b.ao,.int .i64 b.places,.slice a2 b.parts.length c2,.slice a3 b.apart.length c3,.slice a4 b.ab.length c4]):=(dd cF).box (fe bI) (by simp);have B2:Hid (aD A2 (w.heap.size+1) 81 #[.int .i64 0,.int .i64 0,.slice none 0 0,.slice none 0 0,.slice none 0 0,.slice none 0 0]):=by have:=fe cF;rw[fW]at this;exact this
 have HW:Hid (Below w.heap.size w A2):=((dd bI).trans' (dd cF)).below (by simp) (Nat.le_refl _);obtain⟨z0,z1,z2,z3,z4⟩:=B1.o.c5;have hC:=lA A2 _ b (HB.o.later (Kp.of HW.o)) hs (hc.later HW.o);obtain⟨s,Tf⟩:=ex1 (bt b);rw[Tf]at hC hn⊢;clear hb hc hs Tf;go_enter ZF51,Tryz.ntmps51
 go_wp2_with fail
 refine hC.mono ?_;rintro e w1 ⟨⟨r,rfl,rfl⟩,bE⟩;have fB:=hid bE;have xP:=HW.t bE;have HR:=B2.o.below bE B2.o.lt;obtain⟨⟨t0,t1,t2,t3,t4,t5⟩,f0,f1,f2,f3,f4,f5⟩:=O0 HR;have e0:=HR.same (i:=0) (v:=.int .i64 0) rfl;have e1:=HR.same (i:=1) (v:=.int .i64 0) rfl;have e2:=HR.same (i:=2) (v:=.slice none 0 0) rfl;have e3:=HR.same (i:=3) (v:=.slice none 0 0) rfl;have e4:=HR.same (i:=4) (v:=.slice none 0 0) rfl;have e5:=HR.same (i:=5) (v:=.slice none 0 0) rfl;clear bE z0 z1 z2 z3 z4 hC bI cF HR fW;go_wp2_with fail
 refine bodyPost_ret (v:=.tuple #[oC,.int .i64 r]) ?_ rfl ⟨rfl,xP.o⟩;rw[results_cell_tmp rfl];go_simp
end Go.Proofs.Cz
