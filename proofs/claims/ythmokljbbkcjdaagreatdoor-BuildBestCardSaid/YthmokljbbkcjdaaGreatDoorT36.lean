/- A part. Conditions: none. -/
import Derived.Test.YthmokljbbkcjdaaGreatDoorT35
import Derived.Laws.CopyOwn
set_option linter.all false
set_option maxHeartbeats 8000000
set_option maxRecDepth 100000
namespace Go.Proofs.Cz
open Go.RowKit
theorem zZ:∀(l:List Int),l.length<=4->splice (bD fun _=>0).toList 0 (l.map (Value.int .i64))=(bD (ai l)).toList
 | [],_=>rfl
 | [_],_=>rfl
 | [_,_],_=>rfl
 | [_,_,_],_=>rfl
 | [_,_,_,_],_=>rfl
 |_::_::_::_::_::_,h=>by simp at h
theorem Qf:(ZP.info? 3).map (·.size)=some 1:=by
 have h:(ZP.info? 3).map (fun i=>(i.zero,i.size,i.bytes))=some (some (.int .i64 0),1,8):=mM;cases hi:ZP.info? 3 with
 |none=>rw[hi]at h;cases h
 |some i=>rw[hi]at h;simp at h;rw[Option.map_some,h.2.1]
theorem gC (w:World) (v:Value) (l:List Int) (hl:l.length<=4) (h:az w v l):Calls ZP 64 #[v] w (dd w (.agg (bD (ai l)))):=by
 obtain⟨a,c,h1,h2⟩:=h;have H:Hid (cn w v l.length a c/\∀b,a=some b->∀j x,l[j]?=some x->At w b j (.int .i64 x)):=⟨h1,h2⟩
 obtain⟨rfl,l1,m1,n1,r1⟩:=h1;obtain⟨A1,bB⟩:=ex1 (w.alloc (.cells #[.int .i64 0,.int .i64 0,.int .i64 0,.int .i64 0] 91));obtain⟨A2,cu⟩:=ex1 (A1.alloc (.cells #[.int .i64 0,.int .i64 0,.int .i64 0,.int .i64 0] 91));have eS:=snew bB;have j8:=knew bB;have ka:=knew cu;have B1:Hid (aF A2 w.heap.size 91 (bD fun _=>0)):=ka.box (by rw[<-bB];exact aF.new _ _ _) (by simp);have B2:=bnew2 cu eS;have hk:aa [] w A2:=j8.trans ka (by simp);have HKP:Hid (Kp w A2):=fun k xG=>hk.block k xG (by simp);have HW:Hid (Below w.heap.size w A2):=hk.below (by simp) (Nat.le_refl _);have HS:Hid (A2.heap.size=w.heap.size+2):=(by rw[<-cu];simp[eS]:A2.heap.size=w.heap.size+2)
 have HSL:=hid hl;have u32:=fJ;clear h2 n1 r1 j8 ka hk;go_enter ZF64,Tryz.ntmps64
 go_wp2_with(refine wpList_copy_splice rfl (.tmp 4) (.tmp 5) 32 32 rfl 3 u32 Qf (some ⟨w.heap.size+1,0,none⟩) a 4 4 l.length c rfl rfl (w.heap.size+1) 0 (bD fun _=>0).toList 91 B2.o (l.map (Value.int .i64)) (by rw[List.length_map];exact(Nat.min_eq_left hl).symm) ?_ (by rw[List.length_map];show 0+l.length<=4;omega) (fun v hv=>by obtain⟨x,_,rfl⟩:=List.mem_map.1 hv;rfl) (w.heap.size+1) A2 (Below.refl _ _) (Nat.le_refl _) ?_)
 .intro hp;have h0:0<l.length:=by simpa using hp
  obtain⟨b,x,rfl,_,qd⟩:=H.o.1.elem H.o.2 h0;refine⟨b,rfl,fun j v hj=>?_⟩;have h3:=(H.o.2 b rfl j v hj).later HKP.o;obtain⟨bb,bo,bs⟩:=b;obtain rfl:bs=none:=h3.1;rw[show(⟨bb,bo,none⟩:Addr).add j=⟨bb,bo+j,none⟩ by unfold Addr.add;split<;>simp_all];exact h3.2
 .intro w2 Xs hB2;have jT:=hid hB2
  have HBX:Hid (aF w2 (w.heap.size+1) 91 (bD (ai l))):=by
   have h:=Xs.o;rw[zZ l HSL.o]at h;exact h
  have RK:Hid (aF w2 w.heap.size 91 (bD fun _=>0)):=(hB2.block _ (by omega)).trans B1.o;obtain⟨z0,z1,z2,z3⟩:=HBX.o.c4;have f0:=RK.o.aN 0;have f1:=RK.o.aN 1;have f2:=RK.o.aN 2;have f3:=RK.o.aN 3;obtain⟨y0,y1,y2,y3⟩:=RK.o.c4;clear hB2 Xs bB cu eS;go_wp2
  obtain⟨WF,jW⟩:=ex1 (((((w2.setCell ⟨w.heap.size,0,none⟩ (.int .i64 (ai l 0))).setCell ⟨w.heap.size,1,none⟩ (.int .i64 (ai l 1))).setCell ⟨w.heap.size,2,none⟩ (.int .i64 (ai l 2))).setCell ⟨w.heap.size,3,none⟩ (.int .i64 (ai l 3))))
  have jX:aF WF w.heap.size 91 #[.int .i64 (ai l 0),.int .i64 (ai l 1),.int .i64 (ai l 2),.int .i64 (ai l 3)]:=by
   rw[<-jW];exact(((RK.o.set 0 _).set 1 _).set 2 _).set 3 _
  have nA:aa [w.heap.size] w2 WF:=by
   rw[<-jW];exact((((aa.set w2 (by simp) _).trans' (aa.set _ (by simp) _)).trans' (aa.set _ (by simp) _)).trans' (aa.set _ (by simp) _))
  have cM:=jT.o.size;have hs:=HS.o;have pT:Below w.heap.size w WF:=HW.o.trans ((jT.o.mono (by omega)).trans (nA.below (by simp) (by omega)));obtain⟨u0,u1,u2,u3⟩:=jX.c4;rw[jW];refine bodyPost_ret (v:=.agg (bD (ai l))) ?_ rfl ⟨rfl,pT⟩;rw[fK rfl];go_simp;simp[bD]
end Go.Proofs.Cz
