/- A part. Conditions: none. -/
import Derived.Test.YtehbindidbgacaaGreatDoorT33
import Derived.Laws.ResultCell
set_option linter.all false
set_option maxHeartbeats 8000000
set_option maxRecDepth 100000
namespace Go.Proofs.Cz
open Go.RowKit
variable {b:aW} {n:Nat} {v:Value} {w:World}
theorem vd (w:World) (a b c d e:Value):Calls ZP 54 #[.agg #[a,b,c,d,e]] w (iw w (.int .i64 0)):=by
 go_enter ZF54,Tryz.ntmps54
 go_wp2
 go_ret;exact⟨rfl,(ak.alloc [] w _).below (by simp) (Nat.le_refl _)⟩
abbrev NW (b:aW) (v2 v3 v4 v5:Value):Value:=.agg #[.int .i64 b.ap,.int .i64 b.places,v2,v3,v4,v5]
abbrev H7:Value:=.agg #[.int .i64 0,.int .i64 0,.slice none 0 0,.slice none 0 0,.slice none 0 0,.slice none 0 0]
theorem ve {W:World} {g t:Nat} {c0 c1 c2 c3 c4 c5:Value} (v0 v1 v2 v3 v4 v5:Value) (h:bc W g t #[c0,c1,c2,c3,c4,c5]):
 bc ((((((W.setCell ⟨g,0,none⟩ v0).setCell ⟨g,1,none⟩ v1).setCell ⟨g,2,none⟩ v2).setCell ⟨g,3,none⟩ v3).setCell ⟨g,4,none⟩ v4).setCell ⟨g,5,none⟩ v5) g t #[v0,v1,v2,v3,v4,v5]/\
 ak [g] W ((((((W.setCell ⟨g,0,none⟩ v0).setCell ⟨g,1,none⟩ v1).setCell ⟨g,2,none⟩ v2).setCell ⟨g,3,none⟩ v3).setCell ⟨g,4,none⟩ v4).setCell ⟨g,5,none⟩ v5):=
 ⟨(((((h.set 0 v0).set 1 v1).set 2 v2).set 3 v3).set 4 v4).set 5 v5,
  (((((ak.set W (by simp) v0).trans' (ak.set _ (by simp) v1)).trans' (ak.set _ (by simp) v2)).trans' (ak.set _ (by simp) v3)).trans' (ak.set _ (by simp) v4)).trans' (ak.set _ (by simp) v5)⟩
def vg (w:World) (b:aW) (v2 v3 v4:Value) (L:List (Nat->Int)) (e:Ending) (w':World):Prop:=
 ((L=[]/\e=.returned (.tuple #[H7,.int .i64 9]))\/
  (L≠ []/\∃a c,e=.returned (.tuple #[NW b v2 v3 v4 (.slice a L.length c),.int .i64 0])/\dV 5 w' (.slice a L.length c) L/\qT w (.slice a L.length c)))/\
 Below w.heap.size w w'
theorem qV (f:Nat) (hf:∀(args:Array Value) (w:World),Sem.run ZP (Go.callFunc f args) w=.ok (.enter f args) w) (w:World) (b:aW) (v:Value) (a2:Option Addr) (c2:Nat) (v3 v4:Value) (ag:(Nat->Int)->Bool) (Li:v=.agg #[.int .i64 b.ap,.int .i64 b.places,.slice a2 b.parts.length c2,v3,v4]) (hb:az w v b) (hv:Valid b) (hc:m8 w)
 (cs:Array Value) (jY:∀X t,Below w.heap.size w X->Calls ZP 108 #[v,.agg (tick t)] X (iw X (.bool (ag t))))
 (cr:∀X,Below w.heap.size w X->Calls ZP f (#[v]++cs) X (iw X (.int .i64 0))):
 Calls ZP 50 #[v,.func (.func f) #[] cs] w (vg w b (.slice a2 b.parts.length c2) v3 v4 (bU b ag)):=by
 subst Li;have HB:Hid (az w (.agg #[.int .i64 b.ap,.int .i64 b.places,.slice a2 b.parts.length c2,v3,v4]) b):=hb;have HV:Hid (Valid b):=hv;obtain⟨_,_,_,Ei,_,⟨a3,c3,⟨e3,_,_,_,_⟩,_⟩,⟨a4,c4,⟨e4,_,_,_,_⟩,_⟩⟩:=hb;simp only[Value.agg.injEq,Array.mk.injEq,List.cons.injEq,true_and,and_true]at Ei;obtain⟨rfl,rfl,rfl⟩:=Ei;subst e3 e4;obtain⟨A1,dE⟩:∃A,w.alloc (.cells #[.int .i64 b.ap,.int .i64 b.places,.slice a2 b.parts.length c2,.slice a3 b.apart.length c3,.slice a4 b.ah.length c4] 26)=A:=⟨_,rfl⟩
 obtain⟨A2,gV⟩:∃A,A1.alloc (.cells #[.int .i64 0,.int .i64 0,.slice none 0 0,.slice none 0 0,.slice none 0 0,.slice none 0 0] 93)=A:=⟨_,rfl⟩
 have ns:A1.heap.size=w.heap.size+1:=by rw[<-dE];simp
 have pq:A2.heap.size=w.heap.size+2:=by rw[<-gV];simp[ns]
 have xA:Hid (bc A2 w.heap.size 26 #[.int .i64 b.ap,.int .i64 b.places,.slice a2 b.parts.length c2,.slice a3 b.apart.length c3,.slice a4 b.ah.length c4]):=by
  rw[<-gV];refine(ak.alloc [] _ _).box ?_ (by simp);rw[<-dE];exact bc.new _ _ _
 have U6:Hid (bc A2 (w.heap.size+1) 93 #[.int .i64 0,.int .i64 0,.slice none 0 0,.slice none 0 0,.slice none 0 0,.slice none 0 0]):=by rw[<-gV,<-ns];exact bc.new _ _ _
 have yV:Hid (Below w.heap.size w A2):=by rw[<-gV,<-dE];exact((ak.alloc [] _ _).oY _).below (by simp) (Nat.le_refl _)
 have HC:Hid (m8 w):=hc;have Ko:Hid (∀X t,Below w.heap.size w X->Calls ZP 108 #[.agg #[.int .i64 b.ap,.int .i64 b.places,.slice a2 b.parts.length c2,.slice a3 b.apart.length c3,.slice a4 b.ah.length c4],.agg (tick t)] X (iw X (.bool (ag t)))):=jY;have z0:A2.cell? ⟨w.heap.size,0,none⟩=some (.int .i64 b.ap):=xA.out.cell 0 rfl;have z1:A2.cell? ⟨w.heap.size,1,none⟩=some (.int .i64 b.places):=xA.out.cell 1 rfl;have z2:A2.cell? ⟨w.heap.size,2,none⟩=some (.slice a2 b.parts.length c2):=xA.out.cell 2 rfl;have z3:A2.cell? ⟨w.heap.size,3,none⟩=some (.slice a3 b.apart.length c3):=xA.out.cell 3 rfl;have z4:A2.cell? ⟨w.heap.size,4,none⟩=some (.slice a4 b.ah.length c4):=xA.out.cell 4 rfl;have SX:Hid (∀X,Below w.heap.size w X->Calls ZP f (#[.agg #[.int .i64 b.ap,.int .i64 b.places,.slice a2 b.parts.length c2,.slice a3 b.apart.length c3,.slice a4 b.ah.length c4]]++cs) X (iw X (.int .i64 0))):=cr;clear hv hc jY cr;go_enter ZF50,Tryz.ntmps50
 go_wp2_with fail
 refine(oX A2 _ b (HB.out.later (Kp.of yV.out)) HV.out (HC.out.later yV.out)).mono ?_;rintro e w1 ⟨⟨r,rfl,rfl⟩,cO⟩;have nK:Hid (Below A2.heap.size A2 w1):=cO;clear z0 z1 z2 z3 z4 cO dE gV;have z0:w1.cell? ⟨w.heap.size,0,none⟩=some (.int .i64 b.ap):=(xA.out.below nK.out xA.out.lt).cell 0 rfl;have z1:w1.cell? ⟨w.heap.size,1,none⟩=some (.int .i64 b.places):=(xA.out.below nK.out xA.out.lt).cell 1 rfl;have z2:w1.cell? ⟨w.heap.size,2,none⟩=some (.slice a2 b.parts.length c2):=(xA.out.below nK.out xA.out.lt).cell 2 rfl;have z3:w1.cell? ⟨w.heap.size,3,none⟩=some (.slice a3 b.apart.length c3):=(xA.out.below nK.out xA.out.lt).cell 3 rfl;have z4:w1.cell? ⟨w.heap.size,4,none⟩=some (.slice a4 b.ah.length c4):=(xA.out.below nK.out xA.out.lt).cell 4 rfl;go_wp2_with fail
 obtain⟨A4,AY⟩:∃A,w1.alloc (.cells #[.int .i64 b.ap,.int .i64 b.places,.slice a2 b.parts.length c2,.slice a3 b.apart.length c3,.slice a4 b.ah.length c4] 84)=A:=⟨_,rfl⟩
 rw[AY];have NU:A4.heap.size=w1.heap.size+1:=by rw[<-AY];simp
 have AZ:Hid (bc A4 w1.heap.size 84 #[.int .i64 b.ap,.int .i64 b.places,.slice a2 b.parts.length c2,.slice a3 b.apart.length c3,.slice a4 b.ah.length c4]):=by rw[<-AY];exact bc.new _ _ _
 have SY:Hid (Below A2.heap.size A2 A4):=by rw[<-AY];exact nK.out.alloc nK.out.size _
 refine(SX.out A4 (yV.out.trans (SY.out.mono yV.out.size))).mono ?_;rintro e w2 ⟨rfl,iW⟩;have iz:Hid (Below A4.heap.size A4 w2):=iW;clear z0 z1 z2 z3 z4 iW AY;have z0:w2.cell? ⟨w1.heap.size,0,none⟩=some (.int .i64 b.ap):=(AZ.out.below iz.out AZ.out.lt).cell 0 rfl;have z1:w2.cell? ⟨w1.heap.size,1,none⟩=some (.int .i64 b.places):=(AZ.out.below iz.out AZ.out.lt).cell 1 rfl;have z2:w2.cell? ⟨w1.heap.size,2,none⟩=some (.slice a2 b.parts.length c2):=(AZ.out.below iz.out AZ.out.lt).cell 2 rfl;have z3:w2.cell? ⟨w1.heap.size,3,none⟩=some (.slice a3 b.apart.length c3):=(AZ.out.below iz.out AZ.out.lt).cell 3 rfl;have z4:w2.cell? ⟨w1.heap.size,4,none⟩=some (.slice a4 b.ah.length c4):=(AZ.out.below iz.out AZ.out.lt).cell 4 rfl;have Pk:Hid (Below A2.heap.size A2 w2):=SY.out.trans (iz.out.mono SY.out.size);have Pm:Hid (Below w.heap.size w w2):=yV.out.trans (Pk.out.mono yV.out.size);go_wp2_with fail
 refine(yT w2 b a2 c2 _ _ ag (HB.out.later (Kp.of Pm.out)) HV.out (fun X t hX=>Ko.out X t (Pm.out.trans (hX.mono Pm.out.size)))).mono ?_;rintro e w3 ⟨⟨v5,rfl,NY⟩,Kq⟩
 have YG:Hid (∀W',ak [w.heap.size+1] w3 W'->dV 5 W' v5 (bU b ag)):=fun W' hk=>dV.sQ Dh F5 (eK NY fun k e=>by
  have h1:=cX NY k e;have h2:=Pk.out.size;refine hk.block k h1.2 ?_;simp;omega)
 have YH:Hid (qT w v5):=qT.of NY Pm.out.size;have xB:Hid (Below w2.heap.size w2 w3):=Kq;have NZ:Hid (Below A2.heap.size A2 w3):=Pk.out.trans (xB.out.mono Pk.out.size);have vI:Hid (bc w3 (w.heap.size+1) 93 #[.int .i64 0,.int .i64 0,.slice none 0 0,.slice none 0 0,.slice none 0 0,.slice none 0 0]):=U6.out.below NZ.out U6.out.lt;have N0:Hid (bc w3 w1.heap.size 84 #[.int .i64 b.ap,.int .i64 b.places,.slice a2 b.parts.length c2,.slice a3 b.apart.length c3,.slice a4 b.ah.length c4]):=AZ.out.below (iz.out.trans (xB.out.mono iz.out.size)) AZ.out.lt;have F6:Hid (Below w.heap.size w w3):=yV.out.trans (NZ.out.mono yV.out.size);obtain⟨a5,c5,rfl⟩:=hQ NY;clear z0 z1 z2 z3 z4 Kq NY;have z0:w3.cell? ⟨w1.heap.size,0,none⟩=some (.int .i64 b.ap):=N0.out.cell 0 rfl;have z1:w3.cell? ⟨w1.heap.size,1,none⟩=some (.int .i64 b.places):=N0.out.cell 1 rfl;have z2:w3.cell? ⟨w1.heap.size,2,none⟩=some (.slice a2 b.parts.length c2):=N0.out.cell 2 rfl;have z3:w3.cell? ⟨w1.heap.size,3,none⟩=some (.slice a3 b.apart.length c3):=N0.out.cell 3 rfl;have z4:w3.cell? ⟨w1.heap.size,4,none⟩=some (.slice a4 b.ah.length c4):=N0.out.cell 4 rfl;have f0:w3.frozen? ⟨w.heap.size+1,0,none⟩=false:=vI.out.et 0;have f1:w3.frozen? ⟨w.heap.size+1,1,none⟩=false:=vI.out.et 1;have f2:w3.frozen? ⟨w.heap.size+1,2,none⟩=false:=vI.out.et 2;have f3:w3.frozen? ⟨w.heap.size+1,3,none⟩=false:=vI.out.et 3;have f4:w3.frozen? ⟨w.heap.size+1,4,none⟩=false:=vI.out.et 4;have f5:w3.frozen? ⟨w.heap.size+1,5,none⟩=false:=vI.out.et 5;have t0:w3.cell? ⟨w.heap.size+1,0,none⟩=some (.int .i64 0):=vI.out.cell 0 rfl;have t1:w3.cell? ⟨w.heap.size+1,1,none⟩=some (.int .i64 0):=vI.out.cell 1 rfl;have t2:w3.cell? ⟨w.heap.size+1,2,none⟩=some (.slice none 0 0):=vI.out.cell 2 rfl;have t3:w3.cell? ⟨w.heap.size+1,3,none⟩=some (.slice none 0 0):=vI.out.cell 3 rfl;have t4:w3.cell? ⟨w.heap.size+1,4,none⟩=some (.slice none 0 0):=vI.out.cell 4 rfl;have t5:w3.cell? ⟨w.heap.size+1,5,none⟩=some (.slice none 0 0):=vI.out.cell 5 rfl;have hlen:=iy HV.out ag;by_cases h0:(bP ag b.parts b.parts.length 0 (fun _=>0))=[]
 .have SZ:Hid (bU b ag=[]):=h0;rw[h0]at*;simp only[List.length_nil];go_wp2_with fail
  obtain⟨WF,xC⟩:∃W,((((((w3.setCell ⟨w.heap.size+1,0,none⟩ (.int .i64 0)).setCell ⟨w.heap.size+1,1,none⟩ (.int .i64 0)).setCell ⟨w.heap.size+1,2,none⟩ (.slice none 0 0)).setCell
   ⟨w.heap.size+1,3,none⟩ (.slice none 0 0)).setCell ⟨w.heap.size+1,4,none⟩ (.slice none 0 0)).setCell ⟨w.heap.size+1,5,none⟩ (.slice none 0 0))=W:=⟨_,rfl⟩
  obtain⟨my,Di⟩:=ve (.int .i64 0) (.int .i64 0) (.slice none 0 0) (.slice none 0 0) (.slice none 0 0) (.slice none 0 0) vI.out;rw[xC]at my Di⊢;have Kt:Below w.heap.size w WF:=F6.out.trans (Di.below (by simp) F6.out.size);have q0:=my.cell 0 rfl;have q1:=my.cell 1 rfl;have q2:=my.cell 2 rfl;have q3:=my.cell 3 rfl;have q4:=my.cell 4 rfl;have q5:=my.cell 5 rfl;refine bodyPost_ret (v:=.tuple #[H7,.int .i64 9]) ?_ rfl ⟨.inl ⟨SZ.out,rfl⟩,Kt⟩;rw[results_cell_tmp rfl];go_simp
 .have eV:0<(bP ag b.parts b.parts.length 0 (fun _=>0)).length:=List.length_pos_iff.2 h0;have SZ:Hid (bU b ag≠ []):=h0;generalize Ia:(bP ag b.parts b.parts.length 0 (fun _=>0)).length=ln at*;have hln:¬((ln:Int)=0):=by omega
  have YI:((ln:Int)==0)=false:=by simp;omega
  go_wp2_with fail
  obtain⟨WF,xC⟩:∃W,((((((w3.setCell ⟨w.heap.size+1,0,none⟩ (.int .i64 b.ap)).setCell ⟨w.heap.size+1,1,none⟩ (.int .i64 b.places)).setCell ⟨w.heap.size+1,2,none⟩ (.slice a2 b.parts.length c2)).setCell
   ⟨w.heap.size+1,3,none⟩ (.slice a3 b.apart.length c3)).setCell ⟨w.heap.size+1,4,none⟩ (.slice a4 b.ah.length c4)).setCell ⟨w.heap.size+1,5,none⟩ (.slice a5 ln c5))=W:=⟨_,rfl⟩
  obtain⟨my,Di⟩:=ve (.int .i64 b.ap) (.int .i64 b.places) (.slice a2 b.parts.length c2) (.slice a3 b.apart.length c3) (.slice a4 b.ah.length c4) (.slice a5 ln c5) vI.out;rw[xC]at my Di⊢;have Kt:Below w.heap.size w WF:=F6.out.trans (Di.below (by simp) F6.out.size);have q0:=my.cell 0 rfl;have q1:=my.cell 1 rfl;have q2:=my.cell 2 rfl;have q3:=my.cell 3 rfl;have q4:=my.cell 4 rfl;have q5:=my.cell 5 rfl;refine bodyPost_ret (v:=.tuple #[NW b (.slice a2 b.parts.length c2) (.slice a3 b.apart.length c3) (.slice a4 b.ah.length c4) (.slice a5 ln c5),.int .i64 0]) ?_ rfl ⟨.inr ⟨SZ.out,a5,c5,by rw[Ia],by rw[Ia];exact YG.out WF Di,by rw[Ia];exact YH.out⟩,Kt⟩;rw[results_cell_tmp rfl];go_simp
theorem Dj (w:World) (b:aW) (v:Value) (a2:Option Addr) (c2:Nat) (v3 v4:Value) (ag:(Nat->Int)->Bool) (Li:v=.agg #[.int .i64 b.ap,.int .i64 b.places,.slice a2 b.parts.length c2,v3,v4]) (hb:az w v b) (hv:Valid b) (hc:m8 w)
 (jY:∀X t,Below w.heap.size w X->Calls ZP 108 #[v,.agg (tick t)] X (iw X (.bool (ag t)))):
 Calls ZP 50 #[v,.func (.func 54) #[] #[]] w (vg w b (.slice a2 b.parts.length c2) v3 v4 (bU b ag)):=
 qV 54 ZC54 w b v a2 c2 v3 v4 ag Li hb hv hc #[] jY fun X _=>by subst Li;exact vd X _ _ _ _ _
def bare (l:List Part) (i:Nat):List Part:=match l[i]? with|some x=>l.set i {x with fits:=[]}|none=>l
abbrev sV (w:World) (v:Value) (ag:(Nat->Int)->Bool):Prop:=∀X t,Below w.heap.size w X->Calls ZP 108 #[v,.agg (tick t)] X (iw X (.bool (ag t)))
theorem az.kL (h:az w v b):∃a2 c2 a3 c3 a4 c4,v=.agg #[.int .i64 b.ap,.int .i64 b.places,.slice a2 b.parts.length c2,.slice a3 b.apart.length c3,.slice a4 b.ah.length c4]:=by
 obtain⟨v2,v3,v4,rfl,⟨a2,c2,⟨rfl,_,_,_,_⟩,_⟩,⟨a3,c3,⟨rfl,_,_,_,_⟩,_⟩,⟨a4,c4,⟨rfl,_,_,_,_⟩,_⟩⟩:=h;exact⟨a2,c2,a3,c3,a4,c4,rfl⟩
theorem sW {B s:Nat} {e:TypeId} {xs:List Value} (h:w.ownsRow B e s v n xs) (hn:0<n):∃g cap,v=.slice (some ⟨g,0,none⟩) n cap/\B<=g/\g<w.heap.size/\cap<=maxLen/\n<=cap:=by
 obtain⟨_,⟨_,h0⟩|⟨g,cap,cur,rfl,hb,hg,hle,ku,_⟩⟩:=h
 .omega
 .exact⟨g,cap,rfl,hb,(Array.getElem?_eq_some_iff.1 hg).1,ku,hle⟩
theorem az.F7 {x y:Int} {v2 v3 v4:Value} (h:az w (.agg #[.int .i64 x,.int .i64 y,v2,v3,v4]) b):bL w v2 b.parts:=by
 obtain⟨_,_,_,e,h2,h3,_⟩:=h;simp only[Value.agg.injEq,Array.mk.injEq,List.cons.injEq,true_and,and_true]at e;obtain⟨_,_,rfl,_,_⟩:=e;exact h2
theorem bL.first {a:Option Addr} {c:Nat} {l:List Part} (h:bL w (.slice a n c) l) (hl:0<l.length):∃blk off,a=some ⟨blk,off,none⟩:=by
 obtain⟨a',c',h1,h2⟩:=h;have e:=h1.eq;simp only[Value.slice.injEq]at e;obtain⟨rfl,_,rfl⟩:=e;obtain⟨⟨blk,off,sp⟩,x,rfl,hx,x0,_⟩:=h1.elem h2 (k:=0) hl;obtain rfl:sp=none:=x0.1;exact⟨blk,off,rfl⟩
end Go.Proofs.Cz
