/- A part. Conditions: none. -/
import Derived.Test.YtboiakcocelkmaaGreatDoorT33
import Derived.Laws.CopyOwn
set_option linter.all false
set_option maxHeartbeats 8000000
set_option maxRecDepth 100000
namespace Go.Proofs.Cz
open Go.RowKit
theorem yB:∀(l:List Int),l.length<=4->splice (dC fun _=>0).toList 0 (l.map (Value.int .i64))=(dC (ak l)).toList
 | [],_=>rfl
 | [_],_=>rfl
 | [_,_],_=>rfl
 | [_,_,_],_=>rfl
 | [_,_,_,_],_=>rfl
 |_::_::_::_::_::_,h=>by simp at h
theorem OI:(ZP.info? 3).map (·.size)=some 1:=by
 have h:(ZP.info? 3).map (fun i=>(i.zero,i.size,i.bytes))=some (some (.int .i64 0),1,8):=jh;cases hi:ZP.info? 3 with
 |none=>rw[hi]at h;cases h
 |some i=>rw[hi]at h;simp at h;rw[Option.map_some,h.2.1]
theorem te (w:World) (v:Value) (l:List Int) (hl:l.length<=4) (h:ae w v l):Calls ZP 55 #[v] w (dU w (.agg (dC (ak l)))):=by
 obtain⟨a,c,h1,h2⟩:=h;have H:Hid (bB w v l.length a c/\∀b,a=some b->∀j x,l[j]?=some x->At w b j (.int .i64 x)):=⟨h1,h2⟩
 obtain⟨rfl,l1,m1,n1,r1⟩:=h1;obtain⟨A1,bH⟩:=ex1 (w.alloc (.cells #[.int .i64 0,.int .i64 0,.int .i64 0,.int .i64 0] 86));obtain⟨A2,eQ⟩:=ex1 (A1.alloc (.cells #[.int .i64 0,.int .i64 0,.int .i64 0,.int .i64 0] 86));have j9:=snew bH;have lD:=knew bH;have pR:=knew eQ;have B1:Hid (aX A2 w.heap.size 86 (dC fun _=>0)):=pR.box (by rw[<-bH];exact aX.new _ _ _) (by simp);have B2:=bnew2 eQ j9;have hk:ac [] w A2:=lD.trans pR (by simp);have HKP:Hid (Kp w A2):=fun k y7=>hk.block k y7 (by simp);have HW:Hid (Below w.heap.size w A2):=hk.below (by simp) (Nat.le_refl _);have HS:Hid (A2.heap.size=w.heap.size+2):=(by rw[<-eQ];simp[j9]:A2.heap.size=w.heap.size+2)
 have HSL:=hid hl;have u32:=dt;clear h2 n1 r1 lD pR hk;go_enter ZF55,Tryz.ntmps55
 go_wp2_with(refine wpList_copy_splice rfl (.tmp 4) (.tmp 5) 27 27 rfl 3 u32 OI (some ⟨w.heap.size+1,0,none⟩) a 4 4 l.length c rfl rfl (w.heap.size+1) 0 (dC fun _=>0).toList 86 B2.o (l.map (Value.int .i64)) (by rw[List.length_map];exact(Nat.min_eq_left hl).symm) ?_ (by rw[List.length_map];show 0+l.length<=4;omega) (fun v hv=>by obtain⟨x,_,rfl⟩:=List.mem_map.1 hv;rfl) (w.heap.size+1) A2 (Below.refl _ _) (Nat.le_refl _) ?_)
 .intro hp;have h0:0<l.length:=by simpa using hp
  obtain⟨b,x,rfl,_,qa⟩:=H.o.1.elem H.o.2 h0;refine⟨b,rfl,fun j v hj=>?_⟩;have h3:=(H.o.2 b rfl j v hj).later HKP.o;obtain⟨bb,bo,bs⟩:=b;obtain rfl:bs=none:=h3.1;rw[show(⟨bb,bo,none⟩:Addr).add j=⟨bb,bo+j,none⟩ by unfold Addr.add;split<;>simp_all];exact h3.2
 .intro w2 Ug SF;have jV:=hid SF
  have AN:Hid (aX w2 (w.heap.size+1) 86 (dC (ak l))):=by
   have h:=Ug.o;rw[yB l HSL.o]at h;exact h
  have PF:Hid (aX w2 w.heap.size 86 (dC fun _=>0)):=(SF.block _ (by omega)).trans B1.o;obtain⟨z0,z1,z2,z3⟩:=AN.o.c4;have f0:=PF.o.bV 0;have f1:=PF.o.bV 1;have f2:=PF.o.bV 2;have f3:=PF.o.bV 3;obtain⟨y0,y1,y2,y3⟩:=PF.o.c4;clear SF Ug bH eQ j9;go_wp2
  obtain⟨WF,KA⟩:=ex1 (((((w2.setCell ⟨w.heap.size,0,none⟩ (.int .i64 (ak l 0))).setCell ⟨w.heap.size,1,none⟩ (.int .i64 (ak l 1))).setCell ⟨w.heap.size,2,none⟩ (.int .i64 (ak l 2))).setCell ⟨w.heap.size,3,none⟩ (.int .i64 (ak l 3))))
  have HBF:aX WF w.heap.size 86 #[.int .i64 (ak l 0),.int .i64 (ak l 1),.int .i64 (ak l 2),.int .i64 (ak l 3)]:=by
   rw[<-KA];exact(((PF.o.set 0 _).set 1 _).set 2 _).set 3 _
  have Uy:ac [w.heap.size] w2 WF:=by
   rw[<-KA];exact((((ac.set w2 (by simp) _).trans' (ac.set _ (by simp) _)).trans' (ac.set _ (by simp) _)).trans' (ac.set _ (by simp) _))
  have bP:=jV.o.size;have hs:=HS.o;have KC:Below w.heap.size w WF:=HW.o.trans ((jV.o.mono (by omega)).trans (Uy.below (by simp) (by omega)));obtain⟨u0,u1,u2,u3⟩:=HBF.c4;rw[KA];refine bodyPost_ret (v:=.agg (dC (ak l))) ?_ rfl ⟨rfl,KC⟩;rw[jI rfl];go_simp;simp[dC]
end Go.Proofs.Cz
