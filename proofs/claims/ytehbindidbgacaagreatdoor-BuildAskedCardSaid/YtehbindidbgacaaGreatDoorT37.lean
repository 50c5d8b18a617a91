/- A part. Conditions: none. -/
import Derived.Test.YtehbindidbgacaaGreatDoorT36
import Derived.ChangeKeysEq
set_option linter.all false
set_option maxHeartbeats 8000000
namespace Go.Proofs.Cz
open Go.RowKit
theorem Ay (w:World) (v:Value) (b:aW) (k:Int) (g:Nat) (hb:az w v b) (hv:Valid b) (hk:0<=k/\k<b.parts.length) (hg:w.cell? ⟨g,0,none⟩=some (.int .i64 k)):
 Calls ZP 91 #[v,ptr g] w (iw w (.int .i64 0)):=by
 obtain⟨a2,c2,a3,c3,a4,c4,rfl⟩:=hb.kL;have hm:=hv.parts.many;obtain⟨A1,dE⟩:=ex1 (w.alloc (.cells #[.int .i64 b.ap,.int .i64 b.places,.slice a2 b.parts.length c2,.slice a3 b.apart.length c3,.slice a4 b.ah.length c4] 84));have B1:=(bnew dE).o;have HW:=wnew dE;obtain⟨-,-,x2⟩:=B1.c3;have y0:A1.cell? ⟨g,0,none⟩=some (.int .i64 k):=aj.cell ⟨A1,HW.o⟩ hg;have nB:wrap64 ((b.parts.length:Int)-1)=b.parts.length-1:=by unfold wrap64;omega
 have hC:Calls ZP 92 #[.int .i64 k,.int .i64 0,.int .i64 (b.parts.length-1)] A1 (kc A1 (.bool true)):=(cG _ _ _ _).mono fun e w' h=>⟨by rw[h.1];simp;omega,h.2⟩
 clear hb hv hg B1 hk hm;go_enter ZF91,Tryz.ntmps91
 go_wp2_with(go_at_call 92;refine hC.mono ?_;rintro e w1 ⟨rfl,rfl⟩)
 go_ret;exact⟨rfl,HW.o⟩
def Ic (o m:Nat->Int):Prop:=o 0=m 0/\o 1=m 1/\o 2=m 2/\o 3=m 3
instance (o m : Nat -> Int) : Decidable (Ic o m) := by unfold Ic; infer_instance
end Go.Proofs.Cz
