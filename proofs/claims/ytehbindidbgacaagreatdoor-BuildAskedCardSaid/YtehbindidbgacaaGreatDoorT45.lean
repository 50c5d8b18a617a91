/- A part. Conditions: none. -/
import Derived.Test.YtehbindidbgacaaGreatDoorT42
set_option linter.all false
set_option maxHeartbeats 8000000
set_option maxRecDepth 100000
namespace Go.Proofs.Cz
open Go.RowKit
def td (w:World) (L:List (Nat->Int)) (e:Ending) (w':World):Prop:=e=.returned (.tuple #[.int .i64 L.length,.int .i64 0])/\Below w.heap.size w w'
theorem KH (w:World) (a b:Int):Calls ZP 41 #[.int .i64 a,.int .i64 b] w (iw w (.agg #[.int .i64 a,.int .i64 b])):=by
 obtain⟨A1,dE⟩:∃A,w.alloc (.cells #[.int .i64 a,.int .i64 b] 43)=A:=⟨_,rfl⟩
 have B1:=iQ dE;have HW:Hid (Below w.heap.size w A1):=(eR dE).below (by simp) (Nat.le_refl _);have z0:A1.cell? ⟨w.heap.size,0,none⟩=some (.int .i64 a):=B1.cell 0 rfl;have z1:A1.cell? ⟨w.heap.size,1,none⟩=some (.int .i64 b):=B1.cell 1 rfl;clear B1;go_enter ZF41,Tryz.ntmps41
 go_wp2
 refine bodyPost_ret (v:=.agg #[.int .i64 a,.int .i64 b]) ?_ rfl ⟨rfl,HW.out⟩;rw[fD rfl];go_simp
theorem Gf (w:World) (a:Int):Calls ZP 38 #[.int .i64 a] w (iw w (.agg #[.int .i64 a,.int .i64 a])):=by
 obtain⟨A1,dE⟩:∃A,w.alloc (.cells #[.int .i64 0,.int .i64 0] 43)=A:=⟨_,rfl⟩
 have B1:Hid (bc A1 w.heap.size 43 #[.int .i64 0,.int .i64 0]):=iQ dE;have HW:Hid (Below w.heap.size w A1):=(eR dE).below (by simp) (Nat.le_refl _);go_enter ZF38,Tryz.ntmps38
 go_wp2_with
  (go_at_call 41
   refine(KH _ _ _).mono ?_;rintro e w2 ⟨rfl,iW⟩;have iz:Hid (Below w.heap.size w w2):=HW.out.trans (iW.mono HW.out.size);have B2:Hid (bc w2 w.heap.size 43 #[.int .i64 0,.int .i64 0]):=B1.out.below iW B1.out.lt;have z0:w2.cell? ⟨w.heap.size,0,none⟩=some (.int .i64 0):=B2.out.cell 0 rfl;have z1:w2.cell? ⟨w.heap.size,1,none⟩=some (.int .i64 0):=B2.out.cell 1 rfl;have f0:=B2.out.et 0;have f1:=B2.out.et 1;clear iW dE)
 obtain⟨WF,xC⟩:∃V,(w2.setCell ⟨w.heap.size,0,none⟩ (.int .i64 a)).setCell ⟨w.heap.size,1,none⟩ (.int .i64 a)=V:=⟨_,rfl⟩
 have my:bc WF w.heap.size 43 #[.int .i64 a,.int .i64 a]:=by rw[<-xC];exact(B2.out.set 0 _).set 1 _
 have Di:ak [w.heap.size] w2 WF:=by rw[<-xC];exact(ak.set w2 (by simp) _).trans' (ak.set _ (by simp) _)
 have Kt:Hid (Below w.heap.size w WF):=iz.out.trans (Di.below (by simp) iz.out.size);have u0:WF.cell? ⟨w.heap.size,0,none⟩=some (.int .i64 a):=my.cell 0 rfl;have u1:WF.cell? ⟨w.heap.size,1,none⟩=some (.int .i64 a):=my.cell 1 rfl;rw[xC];clear xC my Di z0 z1 f0 f1;refine bodyPost_ret (v:=.agg #[.int .i64 a,.int .i64 a]) ?_ rfl ⟨rfl,Kt.out⟩;rw[fD rfl];go_simp
theorem kg (w:World) (v:Value) (b:aW) (hb:az w v b) (hv:Valid b) (hc:m8 w):Calls ZP 10 #[v] w (td w (bU b (aO b))):=by
 have HB:Hid (az w v b):=hb;have HV:Hid (Valid b):=hv;have HC:Hid (m8 w):=hc;have Ko:Hid (sV w v (aO b)):=jE hb hv;obtain⟨a2,c2,a3,c3,a4,c4,rfl⟩:=hb.kL;obtain⟨A1,dE⟩:∃A,w.alloc (.cells #[.int .i64 b.ap,.int .i64 b.places,.slice a2 b.parts.length c2,.slice a3 b.apart.length c3,.slice a4 b.ah.length c4] 26)=A:=⟨_,rfl⟩
 have B1:Hid (bc A1 w.heap.size 26 #[.int .i64 b.ap,.int .i64 b.places,.slice a2 b.parts.length c2,.slice a3 b.apart.length c3,.slice a4 b.ah.length c4]):=iQ dE;have HW:Hid (Below w.heap.size w A1):=(eR dE).below (by simp) (Nat.le_refl _);have z0:=B1.out.cell 0 rfl;have z1:=B1.out.cell 1 rfl;have z2:=B1.out.cell 2 rfl;have z3:=B1.out.cell 3 rfl;have z4:=B1.out.cell 4 rfl;clear hb hv hc;go_enter ZF10,Tryz.ntmps10
 go_wp2_with(first
  |(go_at_call 44
    refine(oX A1 _ b (HB.out.later (Kp.of HW.out)) HV.out (HC.out.later HW.out)).mono ?_;rintro e w1 ⟨⟨r,rfl,rfl⟩,cO⟩;have nK:Hid (Below A1.heap.size A1 w1):=cO;have Ig:Hid (Below w.heap.size w w1):=HW.out.trans (cO.mono HW.out.size);clear cO z0 z1 z2 z3 z4;have X1:=B1.out.below nK.out B1.out.lt;have z0:=X1.cell 0 rfl;have z1:=X1.cell 1 rfl;have z2:=X1.cell 2 rfl;have z3:=X1.cell 3 rfl;have z4:=X1.cell 4 rfl;clear X1)
  |(go_at_call 45
    refine(yT _ b a2 c2 _ _ (aO b) (HB.out.later (Kp.of Ig.out)) HV.out (fun X t hX=>Ko.out X t (Ig.out.trans (hX.mono Ig.out.size)))).mono ?_;rintro e w2 ⟨⟨r,rfl,hr⟩,iW⟩;obtain⟨a,cap,rfl⟩:=hQ hr;have iz:Hid (Below w.heap.size w w2):=Ig.out.trans (iW.mono Ig.out.size);clear hr iW))
 go_ret2;exact⟨rfl,iz.out⟩
end Go.Proofs.Cz
