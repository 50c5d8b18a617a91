/- A part. Conditions: none. -/
import Derived.Test.YtddlcmejelobdaaGreatDoorT34
import Derived.Laws.CopyOwn
set_option linter.all false
set_option maxHeartbeats 8000000
set_option maxRecDepth 100000
namespace Go.Proofs.Cz
open Go.RowKit
theorem Ab:∀(l:List Int),l.length<=4->splice (cA fun _=>0).toList 0 (l.map (Value.int .i64))=(cA (aj l)).toList
 | [],_=>rfl
 | [_],_=>rfl
 | [_,_],_=>rfl
 | [_,_,_],_=>rfl
 | [_,_,_,_],_=>rfl
 |_::_::_::_::_::_,h=>by simp at h
theorem RS:(ZP.info? 3).map (·.size)=some 1:=by
 have h:(ZP.info? 3).map (fun i=>(i.zero,i.size,i.bytes))=some (some (.int .i64 0),1,8):=pU;cases hi:ZP.info? 3 with
 |none=>rw[hi]at h;cases h
 |some i=>rw[hi]at h;simp at h;rw[Option.map_some,h.2.1]
theorem mB (w:World) (v:Value) (l:List Int) (hl:l.length<=4) (h:aC w v l):Calls ZP 61 #[v] w (dQ w (.agg (cA (aj l)))):=by
 obtain⟨a,c,h1,h2⟩:=h;have H:Hid (bS w v l.length a c/\∀b,a=some b->∀j x,l[j]?=some x->At w b j (.int .i64 x)):=⟨h1,h2⟩
 obtain⟨rfl,l1,m1,n1,r1⟩:=h1;obtain⟨A1,bI⟩:=ex1 (w.alloc (.cells #[.int .i64 0,.int .i64 0,.int .i64 0,.int .i64 0] 94));obtain⟨A2,cF⟩:=ex1 (A1.alloc (.cells #[.int .i64 0,.int .i64 0,.int .i64 0,.int .i64 0] 94));have fW:=snew bI;have oL:=knew bI;have mO:=knew cF;have B1:Hid (aD A2 w.heap.size 94 (cA fun _=>0)):=mO.box (by rw[<-bI];exact aD.new _ _ _) (by simp);have B2:=bnew2 cF fW;have hk:aa [] w A2:=oL.trans mO (by simp);have HKP:Hid (Kp w A2):=fun k xA=>hk.block k xA (by simp);have HW:Hid (Below w.heap.size w A2):=hk.below (by simp) (Nat.le_refl _);have HS:Hid (A2.heap.size=w.heap.size+2):=(by rw[<-cF];simp[fW]:A2.heap.size=w.heap.size+2)
 have HSL:=hid hl;have u32:=lT;clear h2 n1 r1 oL mO hk;go_enter ZF61,Tryz.ntmps61
 go_wp2_with(refine wpList_copy_splice rfl (.tmp 4) (.tmp 5) 35 35 rfl 3 u32 RS (some ⟨w.heap.size+1,0,none⟩) a 4 4 l.length c rfl rfl (w.heap.size+1) 0 (cA fun _=>0).toList 94 B2.o (l.map (Value.int .i64)) (by rw[List.length_map];exact(Nat.min_eq_left hl).symm) ?_ (by rw[List.length_map];show 0+l.length<=4;omega) (fun v hv=>by obtain⟨x,_,rfl⟩:=List.mem_map.1 hv;rfl) (w.heap.size+1) A2 (Below.refl _ _) (Nat.le_refl _) ?_)
 .intro hp;have h0:0<l.length:=by simpa using hp
  obtain⟨b,x,rfl,_,xz⟩:=H.o.1.elem H.o.2 h0;refine⟨b,rfl,fun j v hj=>?_⟩;have h3:=(H.o.2 b rfl j v hj).later HKP.o;obtain⟨bb,bo,bs⟩:=b;obtain rfl:bs=none:=h3.1;rw[show(⟨bb,bo,none⟩:Addr).add j=⟨bb,bo+j,none⟩ by unfold Addr.add;split<;>simp_all];exact h3.2
 .intro w2 Xv hB2;have iI:=hid hB2
  have RT:Hid (aD w2 (w.heap.size+1) 94 (cA (aj l))):=by
   have h:=Xv.o;rw[Ab l HSL.o]at h;exact h
  have S7:Hid (aD w2 w.heap.size 94 (cA fun _=>0)):=(hB2.block _ (by omega)).trans B1.o;obtain⟨z0,z1,z2,z3⟩:=RT.o.c4;have f0:=S7.o.cz 0;have f1:=S7.o.cz 1;have f2:=S7.o.cz 2;have f3:=S7.o.cz 3;obtain⟨y0,y1,y2,y3⟩:=S7.o.c4;clear hB2 Xv bI cF fW;go_wp2
  obtain⟨WF,CH⟩:=ex1 (((((w2.setCell ⟨w.heap.size,0,none⟩ (.int .i64 (aj l 0))).setCell ⟨w.heap.size,1,none⟩ (.int .i64 (aj l 1))).setCell ⟨w.heap.size,2,none⟩ (.int .i64 (aj l 2))).setCell ⟨w.heap.size,3,none⟩ (.int .i64 (aj l 3))))
  have sJ:aD WF w.heap.size 94 #[.int .i64 (aj l 0),.int .i64 (aj l 1),.int .i64 (aj l 2),.int .i64 (aj l 3)]:=by
   rw[<-CH];exact(((S7.o.set 0 _).set 1 _).set 2 _).set 3 _
  have GZ:aa [w.heap.size] w2 WF:=by
   rw[<-CH];exact((((aa.set w2 (by simp) _).trans' (aa.set _ (by simp) _)).trans' (aa.set _ (by simp) _)).trans' (aa.set _ (by simp) _))
  have bQ:=iI.o.size;have hs:=HS.o;have M6:Below w.heap.size w WF:=HW.o.trans ((iI.o.mono (by omega)).trans (GZ.below (by simp) (by omega)));obtain⟨u0,u1,u2,u3⟩:=sJ.c4;rw[CH];refine bodyPost_ret (v:=.agg (cA (aj l))) ?_ rfl ⟨rfl,M6⟩;rw[j9 rfl];go_simp;simp[cA]
end Go.Proofs.Cz
