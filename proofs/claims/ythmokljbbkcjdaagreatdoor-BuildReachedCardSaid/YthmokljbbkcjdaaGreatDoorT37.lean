/- A part. Conditions: none. -/
import Derived.Test.YthmokljbbkcjdaaGreatDoorT36
import Derived.ChangeKeysEq
set_option linter.all false
set_option maxHeartbeats 8000000
namespace Go.Proofs.Cz
open Go.RowKit
theorem rz (w:World) (v:Value) (b:aS) (k:Int) (g:Nat) (hb:ar w v b) (hv:Valid b) (hk:0<=k/\k<b.parts.length) (hg:w.cell? ⟨g,0,none⟩=some (.int .i64 k)):
 Calls ZP 103 #[v,ptr g] w (eX w (.int .i64 0)):=by
 obtain⟨a2,c2,a3,c3,a4,c4,rfl⟩:=hb.ls;have hm:=hv.parts.many;obtain⟨A1,dv⟩:=ex1 (w.alloc (.cells #[.int .i64 b.am,.int .i64 b.places,.slice a2 b.parts.length c2,.slice a3 b.apart.length c3,.slice a4 b.aa.length c4] 79));have B1:=(bnew dv).o;have HW:=wnew dv;obtain⟨-,-,x2⟩:=B1.c3;have y0:A1.cell? ⟨g,0,none⟩=some (.int .i64 k):=an.cell ⟨A1,HW.o⟩ hg;have pR:wrap64 ((b.parts.length:Int)-1)=b.parts.length-1:=by unfold wrap64;omega
 have hC:Calls ZP 75 #[.int .i64 k,.int .i64 0,.int .i64 (b.parts.length-1)] A1 (kA A1 (.bool true)):=(cP _ _ _ _).mono fun e w' h=>⟨by rw[h.1];simp;omega,h.2⟩
 clear hb hv hg B1 hk hm;go_enter ZF103,Tryz.ntmps103
 go_wp2_with(go_at_call 75;refine hC.mono ?_;rintro e w1 ⟨rfl,rfl⟩)
 go_ret;exact⟨rfl,HW.o⟩
def JD (o m:Nat->Int):Prop:=o 0=m 0/\o 1=m 1/\o 2=m 2/\o 3=m 3
instance (o m : Nat -> Int) : Decidable (JD o m) := by unfold JD; infer_instance
end Go.Proofs.Cz
