/- A part. Conditions: none. -/
import Derived.Test.YtehbindidbgacaaGreatDoorT41
set_option linter.all false
set_option maxHeartbeats 8000000
set_option maxRecDepth 100000
namespace Go.Proofs.Cz
open Go.RowKit
variable {A w:World} {B cap g i n:Nat} {L:List (Part×Value)} {e:TypeId} {o:Obj} {x:Part×Value}
def retime (l:List Part) (i:Nat) (lo hi:Int):List Part:=match l[i]? with|some x=>l.set i {x with lo:=lo,hi:=hi}|none=>l
def gp (b:aW) (i:Nat) (lo hi:Int):aW:={b with parts:=retime b.parts i lo hi}
theorem iP (l:List Part) (i:Nat) (lo hi:Int):(retime l i lo hi).length=l.length:=by unfold retime;split<;>simp
def Gd (w:World) (b:aW) (e:Ending) (w':World):Prop:=(∃u,e=.returned u/\az w' u b)/\Below w.heap.size w w'
theorem iQ {t:TypeId} {cs:Array Value} (h:w.alloc (.cells cs t)=A):bc A w.heap.size t cs:=by rw[<-h];exact bc.new _ _ _
theorem eR (h:w.alloc o=A):ak [] w A:=by rw[<-h];exact ak.alloc _ _ _
theorem lJ (h:w.alloc o=A):A.heap.size=w.heap.size+1:=by rw[<-h];simp
abbrev Ps:Array Value:=#[.int .i64 0,.int .i64 0,.slice none 0 0,.slice none 0 0,.slice none 0 0]
theorem S9 {W:World} {t:Nat} {c0 c1 c2 c3 c4:Value} (v0 v1 v2 v3 v4:Value) (h:bc W g t #[c0,c1,c2,c3,c4]):
 bc (((((W.setCell ⟨g,0,none⟩ v0).setCell ⟨g,1,none⟩ v1).setCell ⟨g,2,none⟩ v2).setCell ⟨g,3,none⟩ v3).setCell ⟨g,4,none⟩ v4) g t #[v0,v1,v2,v3,v4]/\
 ak [g] W (((((W.setCell ⟨g,0,none⟩ v0).setCell ⟨g,1,none⟩ v1).setCell ⟨g,2,none⟩ v2).setCell ⟨g,3,none⟩ v3).setCell ⟨g,4,none⟩ v4):=
 ⟨((((h.set 0 v0).set 1 v1).set 2 v2).set 3 v3).set 4 v4,
  ((((ak.set W (by simp) v0).trans' (ak.set _ (by simp) v1)).trans' (ak.set _ (by simp) v2)).trans' (ak.set _ (by simp) v3)).trans' (ak.set _ (by simp) v4)⟩
theorem Dp (lo hi:Int) (hx:L[i]?=some x):(L.set i ({x.1 with lo:=lo,hi:=hi},x.2)).map Prod.fst=retime (L.map Prod.fst) i lo hi:=by
 unfold retime;rw[List.getElem?_map,hx,List.map_set];rfl
theorem Dq (h:w.ownsRow B e 6 (.slice (some ⟨g,0,none⟩) n cap) n (L.flatMap dt)) (hx:L[i]?=some x) (lo hi:Int):
 ((w.setCell ⟨g,i*6+3,none⟩ (.int .i64 lo)).setCell ⟨g,i*6+4,none⟩ (.int .i64 hi)).ownsRow B e 6 (.slice (some ⟨g,0,none⟩) n cap) n ((L.set i ({x.1 with lo:=lo,hi:=hi},x.2)).flatMap dt)/\ak [g] w ((w.setCell ⟨g,i*6+3,none⟩ (.int .i64 lo)).setCell ⟨g,i*6+4,none⟩ (.int .i64 hi)):=by
 have h1:=h.stored (i*6+3) (.int .i64 lo);have h2:=h1.1.stored (i*6+4) (.int .i64 hi);have Kv:=(List.getElem?_eq_some_iff.1 hx).1;have e1:(L.flatMap dt).set (i*6+3) (.int .i64 lo)=(L.set i ({x.1 with lo:=lo},x.2)).flatMap dt:=pa gm L i 3 x _ _ hx (by omega) rfl
 have e2:((L.set i ({x.1 with lo:=lo},x.2)).flatMap dt).set (i*6+4) (.int .i64 hi)=(L.set i ({x.1 with lo:=lo,hi:=hi},x.2)).flatMap dt:=by
  rw[pa gm _ i 4 ({x.1 with lo:=lo},x.2) ({x.1 with lo:=lo,hi:=hi},x.2) _ (List.getElem?_set_self Kv) (by omega) rfl,List.set_set]
 rw[e1]at h2;rw[e2]at h2;exact⟨h2.1,(ak.grown h1.2 (O:=[g]) (by simp)).trans' (ak.grown h2.2 (O:=[g]) (by simp))⟩
theorem vo (h:w.ownsRow B e 6 (.slice (some ⟨g,0,none⟩) n cap) n (L.flatMap dt)) (hx:L[i]?=some x) (hn:L.length=n) (r:Nat) (hr:r<6) {u:Value} (hu:(dt x)[r]?=some u):
 w.cell? ⟨g,i*6+r,none⟩=some u:=by
 have Kv:=(List.getElem?_eq_some_iff.1 hx).1;exact(h.cellAt (i*6+r) (by omega)).trans ((nL gm L i r x hx hr).trans hu)
theorem AB (w:World) (v:Value) (b:aW) (i:Nat) (lo hi:Int) (hb:az w v b) (hm:b.parts.length<=5) (Qa:i<b.parts.length):
 Calls ZP 71 #[v,.int .i64 i,.agg #[.int .i64 lo,.int .i64 hi]] w (Gd w (gp b i lo hi)):=by
 have HB:Hid (az w v b):=hb;obtain⟨a2,c2,a3,c3,a4,c4,rfl⟩:=hb.kL;have Kg:=HB.out.F7;obtain⟨blk,off,rfl⟩:∃blk off,a2=some ⟨blk,off,none⟩:=Kg.first (by omega);obtain⟨L,Td,KD,hints⟩:=Kg.raw;have Te:L.length=b.parts.length:=by rw[<-Td,List.length_map]
 rw[Te]at KD;have HN:=KD.news;have Tf:Hid (_/\_):=HN;have Lo:Hid (L.map Prod.fst=b.parts/\L.length=b.parts.length/\∀x∈L,aP w x.2 x.1.fits):=⟨Td,Te,hints⟩
 have Tg:L[i]?=some (L[i]'(by omega)):=List.getElem?_eq_getElem _;obtain⟨x,GS⟩:∃x,(L[i]'(by omega))=x:=⟨_,rfl⟩
 rw[GS]at Tg;have HX:Hid (L[i]?=some x):=Tg;obtain⟨A1,dE⟩:∃A,w.alloc (.cells #[.int .i64 b.ap,.int .i64 b.places,.slice (some ⟨blk,off,none⟩) b.parts.length c2,.slice a3 b.apart.length c3,.slice a4 b.ah.length c4] 26)=A:=⟨_,rfl⟩
 obtain⟨A2,gV⟩:∃A,A1.alloc (.cells #[.int .i64 lo,.int .i64 hi] 43)=A:=⟨_,rfl⟩
 obtain⟨A3,vb⟩:∃A,A2.alloc (.cells Ps 26)=A:=⟨_,rfl⟩
 obtain⟨A4,AY⟩:∃A,A3.alloc (.cells #[.int .i64 b.ap,.int .i64 b.places,.slice (some ⟨blk,off,none⟩) b.parts.length c2,.slice a3 b.apart.length c3,.slice a4 b.ah.length c4] 26)=A:=⟨_,rfl⟩
 obtain⟨A5,A7⟩:∃A,A4.alloc (.cells #[] 77)=A:=⟨_,rfl⟩
 have ns:=lJ dE;have pq:=lJ gV;have GF:=lJ vb;have NU:=lJ AY;have Vc:=lJ A7;rw[ns]at pq;rw[pq]at GF;rw[GF]at NU;rw[NU]at Vc;have qf:=eR dE;have mQ:=eR gV;have mX:=eR vb;have nG:=eR AY;have F9:=eR A7;have b1:=iQ dE;have b2:=iQ gV;have b3:=iQ vb;have b4:=iQ AY;rw[ns]at b2;rw[pq]at b3;rw[GF]at b4;have Th:ak [] A1 A5:=(mQ.trans' (mX.trans' (nG.trans' F9)))
 have Vd:ak [] A2 A5:=mX.trans' (nG.trans' F9);have D1:=Th.box b1 (by simp);have D2:Hid (bc A5 (w.heap.size+1) 43 #[.int .i64 lo,.int .i64 hi]):=Vd.box b2 (by simp);have D3:Hid (bc A5 (w.heap.size+1+1) 26 Ps):=(nG.trans' F9).box b3 (by simp);have D4:Hid (bc A5 (w.heap.size+1+1+1) 26 #[.int .i64 b.ap,.int .i64 b.places,.slice (some ⟨blk,off,none⟩) b.parts.length c2,.slice a3 b.apart.length c3,.slice a4 b.ah.length c4]):=F9.box b4 (by simp);have N5:Hid (Below w.heap.size w A5):=(qf.trans' Th).below (by simp) (Nat.le_refl _);have C1:=(mQ.trans' mX).box b1 (by simp)
 have Pp:Hid (A5.ownsRow (w.heap.size+1+1+1+1) 77 6 (.slice (some ⟨w.heap.size+1+1+1+1,0,none⟩) 0 0) 0 []):=by
  rw[<-NU,<-A7];exact World.ownsRow_made A4 #[] 0 (Nat.le_refl _) (by unfold maxLen;omega) rfl
 have YX:Hid (A5.heap.size=w.heap.size+1+1+1+1+1):=Vc;have z0:=C1.cell 0 rfl;have z1:=C1.cell 1 rfl;have z2:=C1.cell 2 rfl;have z3:=C1.cell 3 rfl;have z4:=C1.cell 4 rfl;have y2:=D1.cell 2 rfl;have tp:(i:Int)<(b.parts.length:Int):=by omega
 obtain⟨i0,tS,Ct,sw,AV⟩:=info_parts Km;clear C1 D1 b1 b2 b3 b4 Th Vd qf mQ mX nG F9 hb Kg Td Te KD HN hints Tg GS;go_enter ZF71,Tryz.ntmps71
 go_wp2_with
  (at_builtin
   refine wpList_append_own _ rfl (.tmp 9) (.tmp 11) 22 rfl (w.heap.size+1+1+1+1) 77 i0 (.agg #[.string .empty,.int .i64 0,.int .i64 0,.int .i64 0,.int .i64 0,.slice none 0 0]) 6 72 FX tS Ct sw AV rfl (by decide) _ _ _ rfl Pp.out ⟨blk,off,none⟩ b.parts.length c2 (L.flatMap dt) rfl Tf.out.1 (Tf.out.2.2 _ N5.out) Tf.out.2.1 (by unfold maxLen;omega) (by omega) (by rw[YX.out];omega) ?_;intro v' w6 iu m9 _;simp only[Nat.zero_add,List.nil_append]at iu;obtain⟨g',dO,rfl,Ro,Pa,hg3,hg4⟩:=sW iu (by omega);have YY:Hid (w6.ownsRow (w.heap.size+1+1+1+1) 77 6 (.slice (some ⟨g',0,none⟩) b.parts.length dO) b.parts.length (L.flatMap dt)):=iu;have Dr:A5.grownBy w6 (some (w.heap.size+1+1+1+1)):=m9;have KE:ak [w.heap.size+1+1+1+1] A5 w6:=ak.grown Dr (by simp);have E2:=KE.box D2.out (by simp);have E3:=KE.box D3.out (by simp);have E4:=KE.box D4.out (by simp);obtain⟨W7,Ve⟩:∃W,w6.setCell ⟨w.heap.size+1+1+1,2,none⟩ (.slice (some ⟨g',0,none⟩) b.parts.length dO)=W:=⟨_,rfl⟩
   have Lp:ak [w.heap.size+1+1+1] w6 W7:=(by rw[<-Ve];exact ak.set _ (by simp) _)
   have F2:=Lp.box E2 (by simp);have F3:=Lp.box E3 (by simp);have F4:bc W7 (w.heap.size+1+1+1) 26 #[.int .i64 b.ap,.int .i64 b.places,.slice (some ⟨g',0,none⟩) b.parts.length dO,.slice a3 b.apart.length c3,.slice a4 b.ah.length c4]:=(by rw[<-Ve];exact E4.set 2 _)
   have Lq:W7.ownsRow (w.heap.size+1+1+1+1) 77 6 (.slice (some ⟨g',0,none⟩) b.parts.length dO) b.parts.length (L.flatMap dt):=eK YY.out (fun k hk=>by cases hk;exact Lp.block g' Pa (by simp;omega));obtain⟨W8,YZ⟩:∃W,(W7.setCell ⟨g',i*6+3,none⟩ (.int .i64 lo)).setCell ⟨g',i*6+4,none⟩ (.int .i64 hi)=W:=⟨_,rfl⟩
   have bE:=Dq Lq HX.out lo hi;rw[YZ]at bE;have Vf:Hid (W8.ownsRow (w.heap.size+1+1+1+1) 77 6 (.slice (some ⟨g',0,none⟩) b.parts.length dO) b.parts.length ((L.set i ({x.1 with lo:=lo,hi:=hi},x.2)).flatMap dt)/\ak [g'] W7 W8):=bE;have G3:Hid (bc W8 (w.heap.size+1+1) 26 Ps):=(bE.2.box F3 (by simp;omega):bc W8 (w.heap.size+1+1) 26 Ps)
   have G4:=bE.2.box F4 (by simp;omega);have q6:Below w.heap.size A5 w6:=KE.below (by simp;omega) N5.out.size;have q7:Below w.heap.size w6 W7:=Lp.below (by simp;omega) (by have:=KE.size;have:=N5.out.size;omega);have q8:Below w.heap.size W7 W8:=bE.2.below (by simp;omega) (by have:=Lp.size;have:=KE.size;have:=N5.out.size;omega);have Vg:Hid (Below w.heap.size w W8):=(N5.out.trans (q6.trans (q7.trans q8)):Below w.heap.size w W8)
   have d3:=vo Lq HX.out Lo.out.2.1 3 (by omega) rfl;have d4:=vo Lq HX.out Lo.out.2.1 4 (by omega) rfl;have k0:W7.frozen? ⟨g',i*6+3,none⟩=false:=Lq.frozenAt _;have k1:W7.frozen? ⟨g',i*6+4,none⟩=false:=Lq.frozenAt _;have u2:=E4.cell 2 rfl;have u3:=E4.et 2;have t2:=F4.cell 2 rfl;have s0:=F2.cell 0 rfl;have s1:=F2.cell 1 rfl;have p0:=G3.out.cell 0 rfl;have p1:=G3.out.cell 1 rfl;have p2:=G3.out.cell 2 rfl;have p3:=G3.out.cell 3 rfl;have p4:=G3.out.cell 4 rfl;have q0:=G3.out.et 0;have q1:=G3.out.et 1;have q2:=G3.out.et 2;have q3:=G3.out.et 3;have q4:=G3.out.et 4;have x0:=G4.cell 0 rfl;have x1:=G4.cell 1 rfl;have x2:=G4.cell 2 rfl;have x3:=G4.cell 3 rfl;have x4:=G4.cell 4 rfl;clear q6 q7 q8 iu m9 Dr KE Lp bE E2 E3 E4 F2 F3 F4 G4 Lq z0 z1 z2 z3 z4 y2)
 obtain⟨WF,xC⟩:∃V,((((W8.setCell ⟨w.heap.size+1+1,0,none⟩ (.int .i64 b.ap)).setCell ⟨w.heap.size+1+1,1,none⟩ (.int .i64 b.places)).setCell ⟨w.heap.size+1+1,2,none⟩ (.slice (some ⟨g',0,none⟩) b.parts.length dO)).setCell ⟨w.heap.size+1+1,3,none⟩ (.slice a3 b.apart.length c3)).setCell ⟨w.heap.size+1+1,4,none⟩ (.slice a4 b.ah.length c4)=V:=⟨_,rfl⟩
 obtain⟨KF,Pu⟩:=S9 (.int .i64 b.ap) (.int .i64 b.places) (.slice (some ⟨g',0,none⟩) b.parts.length dO) (.slice a3 b.apart.length c3) (.slice a4 b.ah.length c4) G3.out;rw[xC]at KF Pu⊢;have my:Hid (Below w.heap.size w WF):=Vg.out.trans (Pu.below (by simp;omega) Vg.out.size)
 have Y6:Hid (bL WF (.slice (some ⟨g',0,none⟩) b.parts.length dO) (retime b.parts i lo hi)):=by
  have ho:=eK Vf.out.1 (W':=WF) (fun k hk=>by cases hk;exact Pu.block g' (cX Vf.out.1 g' rfl).2 (by simp;omega));have h1:(L.set i ({x.1 with lo:=lo,hi:=hi},x.2)).length=b.parts.length:=by rw[List.length_set];exact Lo.out.2.1
  rw[<-h1]at ho
  have h2:=bL.KC ho (fun y hy=>by
   have h3:y∈L\/y=({x.1 with lo:=lo,hi:=hi},x.2):=List.mem_or_eq_of_mem_set hy;rcases h3 with h3|rfl
   .exact(Lo.out.2.2 y h3).later (Kp.of my.out)
   .exact(Lo.out.2.2 x (List.mem_of_getElem? HX.out)).later (Kp.of my.out))
  rw[Dp lo hi HX.out,Lo.out.1,h1]at h2;exact h2
 have Y7:Hid (az WF (.agg #[.int .i64 b.ap,.int .i64 b.places,.slice (some ⟨g',0,none⟩) b.parts.length dO,.slice a3 b.apart.length c3,.slice a4 b.ah.length c4]) (gp b i lo hi)):=by
  obtain⟨_,_,_,e,_,h3,h4⟩:=HB.out;simp only[Value.agg.injEq,Array.mk.injEq,List.cons.injEq,true_and,and_true]at e;obtain⟨_,rfl,rfl⟩:=e;exact⟨_,_,_,rfl,Y6.out,h3.later (Kp.of my.out),h4.later (Kp.of my.out)⟩
 have w0:WF.cell? ⟨w.heap.size+1+1,0,none⟩=some (.int .i64 b.ap):=KF.cell 0 rfl;have w1:WF.cell? ⟨w.heap.size+1+1,1,none⟩=some (.int .i64 b.places):=KF.cell 1 rfl;have w2:WF.cell? ⟨w.heap.size+1+1,2,none⟩=some (.slice (some ⟨g',0,none⟩) b.parts.length dO):=KF.cell 2 rfl;have w3:WF.cell? ⟨w.heap.size+1+1,3,none⟩=some (.slice a3 b.apart.length c3):=KF.cell 3 rfl;have w4:WF.cell? ⟨w.heap.size+1+1,4,none⟩=some (.slice a4 b.ah.length c4):=KF.cell 4 rfl;clear KF Pu xC x0 x1 x2 x3 x4 p0 p1 p2 p3 p4 q0 q1 q2 q3 q4;refine bodyPost_ret (v:=.agg #[.int .i64 b.ap,.int .i64 b.places,.slice (some ⟨g',0,none⟩) b.parts.length dO,.slice a3 b.apart.length c3,.slice a4 b.ah.length c4]) ?_ rfl ⟨⟨_,rfl,Y7.out⟩,my.out⟩;rw[fD rfl];go_simp
end Go.Proofs.Cz
