/- A part. Conditions: none. -/
import Derived.Test.YthmokljbbkcjdaaGreatDoorT41
import Derived.Deep.RegionWith
set_option linter.all false
set_option maxHeartbeats 8000000
set_option maxRecDepth 100000
namespace Go.Proofs.Cz
open Go.RowKit
variable {A:World} {B cap g i n s:Nat} {L:List (Part×Value)} {O:List Nat} {e:TypeId} {l:List Int} {o:Obj} {u v:Value} {x:Part×Value} {xs:List Value}
def retime (l:List Part) (i:Nat) (lo hi:Int):List Part:=match l[i]? with|some x=>l.set i {x with lo:=lo,hi:=hi}|none=>l
def bV (b:aS) (i:Nat) (lo hi:Int):aS:={b with parts:=retime b.parts i lo hi}
theorem gI (l:List Part) (i:Nat) (lo hi:Int):(retime l i lo hi).length=l.length:=by unfold retime;split<;>simp
def HH (w:World) (b:aS) (e:Ending) (w':World):Prop:=(∃u,e=.returned u/\ar w' u b)/\Below w.heap.size w w'
theorem dh {w:World} {t:TypeId} {cs:Array Value} (h:w.alloc (.cells cs t)=A):aJ A w.heap.size t cs:=by rw[<-h];exact aJ.new _ _ _
theorem bG {w:World} (h:w.alloc o=A):aj [] w A:=by rw[<-h];exact aj.alloc _ _ _
theorem fk {w:World} (h:w.alloc o=A):A.heap.size=w.heap.size+1:=by rw[<-h];simp
abbrev jm:Array Value:=#[.int .i64 0,.int .i64 0,.slice none 0 0,.slice none 0 0,.slice none 0 0]
theorem tN {W:World} {t:Nat} {c0 c1 c2 c3 c4:Value} (v0 v1 v2 v3 v4:Value) (h:aJ W g t #[c0,c1,c2,c3,c4]):
 aJ (((((W.setCell ⟨g,0,none⟩ v0).setCell ⟨g,1,none⟩ v1).setCell ⟨g,2,none⟩ v2).setCell ⟨g,3,none⟩ v3).setCell ⟨g,4,none⟩ v4) g t #[v0,v1,v2,v3,v4]/\
 aj [g] W (((((W.setCell ⟨g,0,none⟩ v0).setCell ⟨g,1,none⟩ v1).setCell ⟨g,2,none⟩ v2).setCell ⟨g,3,none⟩ v3).setCell ⟨g,4,none⟩ v4):=
 ⟨((((h.set 0 v0).set 1 v1).set 2 v2).set 3 v3).set 4 v4,
  ((((aj.set W (by simp) v0).trans' (aj.set _ (by simp) v1)).trans' (aj.set _ (by simp) v2)).trans' (aj.set _ (by simp) v3)).trans' (aj.set _ (by simp) v4)⟩
theorem v6 (lo hi:Int) (hx:L[i]?=some x):(L.set i ({x.1 with lo:=lo,hi:=hi},x.2)).map Prod.fst=retime (L.map Prod.fst) i lo hi:=by
 unfold retime;rw[List.getElem?_map,hx,List.map_set];rfl
theorem v8 {w:World} (h:w.ownsRow B e 6 (.slice (some ⟨g,0,none⟩) n cap) n (L.flatMap bO)) (hx:L[i]?=some x) (lo hi:Int):
 ((w.setCell ⟨g,i*6+3,none⟩ (.int .i64 lo)).setCell ⟨g,i*6+4,none⟩ (.int .i64 hi)).ownsRow B e 6 (.slice (some ⟨g,0,none⟩) n cap) n ((L.set i ({x.1 with lo:=lo,hi:=hi},x.2)).flatMap bO)/\aj [g] w ((w.setCell ⟨g,i*6+3,none⟩ (.int .i64 lo)).setCell ⟨g,i*6+4,none⟩ (.int .i64 hi)):=by
 have h1:=h.stored (i*6+3) (.int .i64 lo);have h2:=h1.1.stored (i*6+4) (.int .i64 hi);have JC:=(List.getElem?_eq_some_iff.1 hx).1;have e1:(L.flatMap bO).set (i*6+3) (.int .i64 lo)=(L.set i ({x.1 with lo:=lo},x.2)).flatMap bO:=jO dF L i 3 x _ _ hx (by omega) rfl
 have e2:((L.set i ({x.1 with lo:=lo},x.2)).flatMap bO).set (i*6+4) (.int .i64 hi)=(L.set i ({x.1 with lo:=lo,hi:=hi},x.2)).flatMap bO:=by
  rw[jO dF _ i 4 ({x.1 with lo:=lo},x.2) ({x.1 with lo:=lo,hi:=hi},x.2) _ (List.getElem?_set_self JC) (by omega) rfl,List.set_set]
 rw[e1]at h2;rw[e2]at h2;exact⟨h2.1,(aj.grown h1.2 (O:=[g]) (by simp)).trans' (aj.grown h2.2 (O:=[g]) (by simp))⟩
theorem dG {w:World} (h:w.ownsRow B e 6 (.slice (some ⟨g,0,none⟩) n cap) n (L.flatMap bO)) (hx:L[i]?=some x) (hn:L.length=n) (r:Nat) (hr:r<6) (hu:(bO x)[r]?=some u):
 w.cell? ⟨g,i*6+r,none⟩=some u:=by
 have JC:=(List.getElem?_eq_some_iff.1 hx).1;exact(h.cellAt (i*6+r) (by omega)).trans ((fU dF L i r x hx hr).trans hu)
theorem BD (w:World) (v:Value) (b:aS) (i:Nat) (lo hi:Int) (hb:ar w v b) (hm:b.parts.length<=5) (Sy:i<b.parts.length):
 Calls ZP 30 #[v,.int .i64 i,.agg #[.int .i64 lo,.int .i64 hi]] w (HH w (bV b i lo hi)):=by
 have HB:Hid (ar w v b):=hb;obtain⟨a2,c2,a3,c3,a4,c4,rfl⟩:=hb.ls;have D5:=HB.out.zR;obtain⟨blk,off,rfl⟩:∃blk off,a2=some ⟨blk,off,none⟩:=D5.first (by omega);obtain⟨L,JE,tO,hints⟩:=D5.raw;have Ma:L.length=b.parts.length:=by rw[<-JE,List.length_map]
 rw[Ma]at tO;have HN:=tO.news;have PN:Hid (_/\_):=HN;have zS:Hid (L.map Prod.fst=b.parts/\L.length=b.parts.length/\∀x∈L,ao w x.2 x.1.fits):=⟨JE,Ma,hints⟩
 have Vh:L[i]?=some (L[i]'(by omega)):=List.getElem?_eq_getElem _;obtain⟨x,IP⟩:∃x,(L[i]'(by omega))=x:=⟨_,rfl⟩
 rw[IP]at Vh;have HX:Hid (L[i]?=some x):=Vh;obtain⟨A1,dv⟩:∃A,w.alloc (.cells #[.int .i64 b.am,.int .i64 b.places,.slice (some ⟨blk,off,none⟩) b.parts.length c2,.slice a3 b.apart.length c3,.slice a4 b.aa.length c4] 26)=A:=⟨_,rfl⟩
 obtain⟨A2,eB⟩:∃A,A1.alloc (.cells #[.int .i64 lo,.int .i64 hi] 31)=A:=⟨_,rfl⟩
 obtain⟨A3,pE⟩:∃A,A2.alloc (.cells jm 26)=A:=⟨_,rfl⟩
 obtain⟨A4,Cb⟩:∃A,A3.alloc (.cells #[.int .i64 b.am,.int .i64 b.places,.slice (some ⟨blk,off,none⟩) b.parts.length c2,.slice a3 b.apart.length c3,.slice a4 b.aa.length c4] 26)=A:=⟨_,rfl⟩
 obtain⟨A5,L6⟩:∃A,A4.alloc (.cells #[] 34)=A:=⟨_,rfl⟩
 have jj:=fk dv;have nk:=fk eB;have IB:=fk pE;have PF:=fk Cb;have Xx:=fk L6;rw[jj]at nk;rw[nk]at IB;rw[IB]at PF;rw[PF]at Xx;have qz:=bG dv;have lY:=bG eB;have j7:=bG pE;have ol:=bG Cb;have L5:=bG L6;have b1:=dh dv;have b2:=dh eB;have b3:=dh pE;have b4:=dh Cb;rw[jj]at b2;rw[nk]at b3;rw[IB]at b4;have Vi:aj [] A1 A5:=(lY.trans' (j7.trans' (ol.trans' L5)))
 have Xy:aj [] A2 A5:=j7.trans' (ol.trans' L5);have D1:=Vi.box b1 (by simp);have D2:Hid (aJ A5 (w.heap.size+1) 31 #[.int .i64 lo,.int .i64 hi]):=Xy.box b2 (by simp);have D3:Hid (aJ A5 (w.heap.size+1+1) 26 jm):=(ol.trans' L5).box b3 (by simp);have D4:Hid (aJ A5 (w.heap.size+1+1+1) 26 #[.int .i64 b.am,.int .i64 b.places,.slice (some ⟨blk,off,none⟩) b.parts.length c2,.slice a3 b.apart.length c3,.slice a4 b.aa.length c4]):=L5.box b4 (by simp);have PU:Hid (Below w.heap.size w A5):=(qz.trans' Vi).below (by simp) (Nat.le_refl _);have C1:=(lY.trans' j7).box b1 (by simp)
 have Rr:Hid (A5.ownsRow (w.heap.size+1+1+1+1) 34 6 (.slice (some ⟨w.heap.size+1+1+1+1,0,none⟩) 0 0) 0 []):=by
  rw[<-PF,<-L6];exact World.ownsRow_made A4 #[] 0 (Nat.le_refl _) (by unfold maxLen;omega) rfl
 have HS5:Hid (A5.heap.size=w.heap.size+1+1+1+1+1):=Xx;have z0:=C1.cell 0 rfl;have z1:=C1.cell 1 rfl;have z2:=C1.cell 2 rfl;have z3:=C1.cell 3 rfl;have z4:=C1.cell 4 rfl;have y2:=D1.cell 2 rfl;have ua:(i:Int)<(b.parts.length:Int):=by omega
 obtain⟨i0,uC,sZ,mS,rc⟩:=info_parts Eg;clear C1 D1 b1 b2 b3 b4 Vi Xy qz lY j7 ol L5 hb D5 JE Ma tO HN hints Vh IP;go_enter ZF30,Tryz.ntmps30
 go_wp2_with
  (at_builtin
   refine wpList_append_own _ rfl (.tmp 9) (.tmp 11) 22 rfl (w.heap.size+1+1+1+1) 34 i0 (.agg #[.string .empty,.int .i64 0,.int .i64 0,.int .i64 0,.int .i64 0,.slice none 0 0]) 6 72 ov uC sZ mS rc rfl (by decide) _ _ _ rfl Rr.out ⟨blk,off,none⟩ b.parts.length c2 (L.flatMap bO) rfl PN.out.1 (PN.out.2.2 _ PU.out) PN.out.2.1 (by unfold maxLen;omega) (by omega) (by rw[HS5.out];omega) ?_;intro v' w6 dp eA _;simp only[Nat.zero_add,List.nil_append]at dp;obtain⟨g',d9,rfl,MO,Jm,hg3,Ru⟩:=dM dp (by omega);have HO6:Hid (w6.ownsRow (w.heap.size+1+1+1+1) 34 6 (.slice (some ⟨g',0,none⟩) b.parts.length d9) b.parts.length (L.flatMap bO)):=dp;have EA:A5.grownBy w6 (some (w.heap.size+1+1+1+1)):=eA;have Mb:aj [w.heap.size+1+1+1+1] A5 w6:=aj.grown EA (by simp);have E2:=Mb.box D2.out (by simp);have E3:=Mb.box D3.out (by simp);have E4:=Mb.box D4.out (by simp);obtain⟨W7,Xz⟩:∃W,w6.setCell ⟨w.heap.size+1+1+1,2,none⟩ (.slice (some ⟨g',0,none⟩) b.parts.length d9)=W:=⟨_,rfl⟩
   have Mc:aj [w.heap.size+1+1+1] w6 W7:=(by rw[<-Xz];exact aj.set _ (by simp) _)
   have F2:=Mc.box E2 (by simp);have F3:=Mc.box E3 (by simp);have F4:aJ W7 (w.heap.size+1+1+1) 26 #[.int .i64 b.am,.int .i64 b.places,.slice (some ⟨g',0,none⟩) b.parts.length d9,.slice a3 b.apart.length c3,.slice a4 b.aa.length c4]:=(by rw[<-Xz];exact E4.set 2 _)
   have MY:W7.ownsRow (w.heap.size+1+1+1+1) 34 6 (.slice (some ⟨g',0,none⟩) b.parts.length d9) b.parts.length (L.flatMap bO):=bT HO6.out (fun k hk=>by cases hk;exact Mc.block g' Jm (by simp;omega));obtain⟨W8,hW8⟩:∃W,(W7.setCell ⟨g',i*6+3,none⟩ (.int .i64 lo)).setCell ⟨g',i*6+4,none⟩ (.int .i64 hi)=W:=⟨_,rfl⟩
   have bF:=v8 MY HX.out lo hi;rw[hW8]at bF;have Rv:Hid (W8.ownsRow (w.heap.size+1+1+1+1) 34 6 (.slice (some ⟨g',0,none⟩) b.parts.length d9) b.parts.length ((L.set i ({x.1 with lo:=lo,hi:=hi},x.2)).flatMap bO)/\aj [g'] W7 W8):=bF;have G3:Hid (aJ W8 (w.heap.size+1+1) 26 jm):=(bF.2.box F3 (by simp;omega):aJ W8 (w.heap.size+1+1) 26 jm)
   have G4:=bF.2.box F4 (by simp;omega);have q6:Below w.heap.size A5 w6:=Mb.below (by simp;omega) PU.out.size;have q7:Below w.heap.size w6 W7:=Mc.below (by simp;omega) (by have:=Mb.size;have:=PU.out.size;omega);have q8:Below w.heap.size W7 W8:=bF.2.below (by simp;omega) (by have:=Mc.size;have:=Mb.size;have:=PU.out.size;omega);have MZ:Hid (Below w.heap.size w W8):=(PU.out.trans (q6.trans (q7.trans q8)):Below w.heap.size w W8)
   have d3:=dG MY HX.out zS.out.2.1 3 (by omega) rfl;have d4:=dG MY HX.out zS.out.2.1 4 (by omega) rfl;have k0:W7.frozen? ⟨g',i*6+3,none⟩=false:=MY.frozenAt _;have k1:W7.frozen? ⟨g',i*6+4,none⟩=false:=MY.frozenAt _;have u2:=E4.cell 2 rfl;have u3:=E4.cr 2;have t2:=F4.cell 2 rfl;have s0:=F2.cell 0 rfl;have s1:=F2.cell 1 rfl;have p0:=G3.out.cell 0 rfl;have p1:=G3.out.cell 1 rfl;have p2:=G3.out.cell 2 rfl;have p3:=G3.out.cell 3 rfl;have p4:=G3.out.cell 4 rfl;have q0:=G3.out.cr 0;have q1:=G3.out.cr 1;have q2:=G3.out.cr 2;have q3:=G3.out.cr 3;have q4:=G3.out.cr 4;have x0:=G4.cell 0 rfl;have x1:=G4.cell 1 rfl;have x2:=G4.cell 2 rfl;have x3:=G4.cell 3 rfl;have x4:=G4.cell 4 rfl;clear q6 q7 q8 dp eA EA Mb Mc bF E2 E3 E4 F2 F3 F4 G4 MY z0 z1 z2 z3 z4 y2)
 obtain⟨WF,qq⟩:∃V,((((W8.setCell ⟨w.heap.size+1+1,0,none⟩ (.int .i64 b.am)).setCell ⟨w.heap.size+1+1,1,none⟩ (.int .i64 b.places)).setCell ⟨w.heap.size+1+1,2,none⟩ (.slice (some ⟨g',0,none⟩) b.parts.length d9)).setCell ⟨w.heap.size+1+1,3,none⟩ (.slice a3 b.apart.length c3)).setCell ⟨w.heap.size+1+1,4,none⟩ (.slice a4 b.aa.length c4)=V:=⟨_,rfl⟩
 obtain⟨pF,zT⟩:=tN (.int .i64 b.am) (.int .i64 b.places) (.slice (some ⟨g',0,none⟩) b.parts.length d9) (.slice a3 b.apart.length c3) (.slice a4 b.aa.length c4) G3.out;rw[qq]at pF zT⊢;have lq:Hid (Below w.heap.size w WF):=MZ.out.trans (zT.below (by simp;omega) MZ.out.size)
 have HPF:Hid (bB WF (.slice (some ⟨g',0,none⟩) b.parts.length d9) (retime b.parts i lo hi)):=by
  have ho:=bT Rv.out.1 (W':=WF) (fun k hk=>by cases hk;exact zT.block g' (aR Rv.out.1 g' rfl).2 (by simp;omega));have h1:(L.set i ({x.1 with lo:=lo,hi:=hi},x.2)).length=b.parts.length:=by rw[List.length_set];exact zS.out.2.1
  rw[<-h1]at ho
  have h2:=bB.lu ho (fun y hy=>by
   have h3:y∈L\/y=({x.1 with lo:=lo,hi:=hi},x.2):=List.mem_or_eq_of_mem_set hy;rcases h3 with h3|rfl
   .exact(zS.out.2.2 y h3).later (Kp.of lq.out)
   .exact(zS.out.2.2 x (List.mem_of_getElem? HX.out)).later (Kp.of lq.out))
  rw[v6 lo hi HX.out,zS.out.1,h1]at h2;exact h2
 have PV:Hid (ar WF (.agg #[.int .i64 b.am,.int .i64 b.places,.slice (some ⟨g',0,none⟩) b.parts.length d9,.slice a3 b.apart.length c3,.slice a4 b.aa.length c4]) (bV b i lo hi)):=by
  obtain⟨_,_,_,e,_,h3,h4⟩:=HB.out;simp only[Value.agg.injEq,Array.mk.injEq,List.cons.injEq,true_and,and_true]at e;obtain⟨_,rfl,rfl⟩:=e;exact⟨_,_,_,rfl,HPF.out,h3.later (Kp.of lq.out),h4.later (Kp.of lq.out)⟩
 have w0:WF.cell? ⟨w.heap.size+1+1,0,none⟩=some (.int .i64 b.am):=pF.cell 0 rfl;have w1:WF.cell? ⟨w.heap.size+1+1,1,none⟩=some (.int .i64 b.places):=pF.cell 1 rfl;have w2:WF.cell? ⟨w.heap.size+1+1,2,none⟩=some (.slice (some ⟨g',0,none⟩) b.parts.length d9):=pF.cell 2 rfl;have w3:WF.cell? ⟨w.heap.size+1+1,3,none⟩=some (.slice a3 b.apart.length c3):=pF.cell 3 rfl;have w4:WF.cell? ⟨w.heap.size+1+1,4,none⟩=some (.slice a4 b.aa.length c4):=pF.cell 4 rfl;clear pF zT qq x0 x1 x2 x3 x4 p0 p1 p2 p3 p4 q0 q1 q2 q3 q4;refine bodyPost_ret (v:=.agg #[.int .i64 b.am,.int .i64 b.places,.slice (some ⟨g',0,none⟩) b.parts.length d9,.slice a3 b.apart.length c3,.slice a4 b.aa.length c4]) ?_ rfl ⟨⟨_,rfl,PV.out⟩,lq.out⟩;rw[fT rfl];go_simp
def lx (O:List Nat) (W:World) (v:Value) (l:List Int):Prop:=∀X,aj O W X->ao X v l
theorem lx.on {W X:World} (h:lx O W v l) (k:aj O W X):lx O X v l:=fun Y hY=>h Y (k.trans' hY)
theorem lx.old {w W:World} (h:ao w v l) (k:Below w.heap.size w W) (hg:∀o∈O,w.heap.size<=o):lx O W v l:=fun X hX=>
 h.later fun j hj=>(hX.block j (Nat.lt_of_lt_of_le hj k.size) (fun hm=>by have:=hg j hm;omega)).trans (k.block j hj)
theorem lx.now {W:World} (h:lx O W v l):ao W v l:=h W (aj.refl _ _)
theorem tP {W:World} {c:Nat} (h:W.ownsRow B e s (.slice (some ⟨g,0,none⟩) n c) n xs):∃cur,W.heap[g]?=some (.cells cur e (0,0)):=by
 obtain⟨_,⟨h1,_⟩|⟨g',cap,cur,h1,_,hg,_⟩⟩:=h
 .cases h1
 .cases h1;exact⟨cur,hg⟩
theorem d8 {W X:World} (h:W.ownsRow B e s v n xs) (ht:∀o∈O,o<B\/∃cu e',W.heap[o]?=some (.cells cu e' (0,0))/\e≠e') (k:aj O W X):X.ownsRow B e s v n xs:=by
 refine bT h fun j hj=>k.block j (aR h j hj).2 fun hm=>?_;rcases ht j hm with h1|⟨cu,e',h1,h2⟩
 .have:=(aR h j hj).1;omega
 .obtain⟨_,⟨rfl,_⟩|⟨g',cap,c,rfl,_,hg,_⟩⟩:=h
  .cases hj
  .cases hj;rw[h1]at hg;cases hg;exact h2 rfl
theorem lx.new {W:World} (h:W.ownsRow B 3 1 v l.length (l.map (Value.int .i64))) (ht:∀o∈O,o<B\/∃cu e',W.heap[o]?=some (.cells cu e' (0,0))/\3≠e'):lx O W v l:=fun X hX=>
 ao.ka (d8 h ht hX)
theorem ke {w:World} {L:List (cU×Value)} {x:cU×Value} (h:w.ownsRow B e 3 (.slice (some ⟨g,0,none⟩) n cap) n (L.flatMap eY)) (hx:L[i]?=some x) (hn:L.length=n) (r:Nat) (hr:r<3) (hu:(eY x)[r]?=some u):
 w.cell? ⟨g,i*3+r,none⟩=some u:=by
 have JC:=(List.getElem?_eq_some_iff.1 hx).1;exact(h.cellAt (i*3+r) (by omega)).trans ((fU iW L i r x hx hr).trans hu)
theorem jP {α β:Type}:∀(L:List (α×β)) (i:Nat) (x:α×β) (f:β),L[i]?=some x->(L.set i (x.1,f)).map Prod.fst=L.map Prod.fst
 |y::L,0,x,f,h=>by simp at h;subst h;rfl
 |y::L,i+1,x,f,h=>by
  rw[List.set_cons_succ,List.map_cons,List.map_cons,jP L i x f (by simpa using h)]
 | [],_,_,_,h=>by simp at h
structure eM (w:World) (b:aS) (g2 k2:Nat) (p3:Option Addr) (k3:Nat) (p4:Option Addr) (k4 g4:Nat) (d2 d4:Nat) (L2:List (Part×Value)) (L4:List (cU×Value)) (W:World):Prop where
 below:Below w.heap.size w W
 bx:aJ W w.heap.size 26 #[.int .i64 b.am,.int .i64 b.places,.slice (some ⟨g2,0,none⟩) b.parts.length k2,.slice p3 b.apart.length k3,.slice p4 b.aa.length k4]
 br:aJ W (w.heap.size+1) 26 jm
 rp:W.ownsRow (w.heap.size+2) 34 6 (.slice (some ⟨g2,0,none⟩) b.parts.length k2) b.parts.length (L2.flatMap bO)
 ra:W.ownsRow (w.heap.size+2) 119 2 (.slice p3 b.apart.length k3) b.apart.length (b.apart.flatMap je)
 rt:W.ownsRow (w.heap.size+2) 75 3 (.slice p4 b.aa.length k4) b.aa.length (L4.flatMap eY)
 h4:(g4=w.heap.size+1/\b.aa.length=0)\/p4=some ⟨g4,0,none⟩
 e2:L2.map Prod.fst=b.parts
 e4:L4.map Prod.fst=b.aa
 f2:∀x∈L2,lx [w.heap.size+1,g2,g4] W x.2 x.1.fits
 f4:∀x∈L4,lx [w.heap.size+1,g2,g4] W x.2 x.1.parts
 o2:∀(j:Nat) (x:Part×Value),j<d2->L2[j]?=some x->W.ownsRow (w.heap.size+2) 3 1 x.2 x.1.fits.length (x.1.fits.map (Value.int .i64))
 o4:∀(j:Nat) (x:cU×Value),j<d4->L4[j]?=some x->W.ownsRow (w.heap.size+2) 3 1 x.2 x.1.parts.length (x.1.parts.map (Value.int .i64))
def H5 (w w':World) (u:Value) (b:aS):Prop:=∀(X:World) (O:List Nat),(∀o∈O,o<w.heap.size)->aj O w' X->ar X u b
section
variable {w W X:World} {b:aS} {g2 k2 k3 k4 g4 d2 d4:Nat} {p3 p4:Option Addr} {L2:List (Part × Value)} {L4:List (cU × Value)}
theorem eM.n2 (h:eM w b g2 k2 p3 k3 p4 k4 g4 d2 d4 L2 L4 W):L2.length=b.parts.length:=by rw[<-h.e2,List.length_map]
theorem eM.n4 (h:eM w b g2 k2 p3 k3 p4 k4 g4 d2 d4 L2 L4 W):L4.length=b.aa.length:=by rw[<-h.e4,List.length_map]
theorem eM.tags (h:eM w b g2 k2 p3 k3 p4 k4 g4 d2 d4 L2 L4 W):(∃cu,W.heap[g2]?=some (.cells cu 34 (0,0)))/\(∃cu e,W.heap[g4]?=some (.cells cu e (0,0))/\(e=26\/e=75))/\∃cu,W.heap[w.heap.size+1]?=some (.cells cu 26 (0,0)):=by
 refine⟨tP h.rp,?_,⟨_,h.br⟩⟩;rcases h.h4 with⟨rfl,_⟩|e
 .exact⟨_,_,h.br,.inl rfl⟩
 .have:=h.rt;rw[e]at this;obtain⟨cu,hc⟩:=tP this;exact⟨cu,_,hc,.inr rfl⟩
theorem eM.XA (h:eM w b g2 k2 p3 k3 p4 k4 g4 d2 d4 L2 L4 W) (B:Nat):∀o∈ [w.heap.size+1,g2,g4],o<B\/∃cu e',W.heap[o]?=some (.cells cu e' (0,0))/\3≠e':=fun o ho=>by
 obtain⟨⟨c1,h1⟩,⟨c2,e2,h2,he⟩,c3,h3⟩:=h.tags;simp at ho;rcases ho with rfl|rfl|rfl
 .exact .inr ⟨_,_,h3,by decide⟩
 .exact .inr ⟨_,_,h1,by decide⟩
 .exact .inr ⟨_,_,h2,by rcases he with rfl|rfl<;>decide⟩
theorem eM.later (h:eM w b g2 k2 p3 k3 p4 k4 g4 d2 d4 L2 L4 W) (k:Below W.heap.size W X):eM w b g2 k2 p3 k3 p4 k4 g4 d2 d4 L2 L4 X:=
 have r:∀{e s:Nat} {v:Value} {n:Nat} {xs:List Value},W.ownsRow (w.heap.size+2) e s v n xs->X.ownsRow (w.heap.size+2) e s v n xs:=fun h=>bT h fun j hj=>k.block j (aR h j hj).2;⟨h.below.trans (k.mono h.below.size),h.bx.below k h.bx.lt,h.br.below k h.br.lt,r h.rp,r h.ra,r h.rt,h.h4,h.e2,h.e4,fun x hx=>(h.f2 x hx).on (aj.of k),fun x hx=>(h.f4 x hx).on (aj.of k),fun j x hj hx=>r (h.o2 j x hj hx),fun j x hj hx=>r (h.o4 j x hj hx)⟩
theorem eM.Vj (h:eM w b g2 k2 p3 k3 p4 k4 g4 d2 d4 L2 L4 W):w.heap.size+2<=g2/\g2<W.heap.size:=aR h.rp g2 rfl
theorem eM.fit (h:eM w b g2 k2 p3 k3 p4 k4 g4 d2 d4 L2 L4 W) (hd:d2=i) (hx:L2[i]?=some x) (hn:W.ownsRow (w.heap.size+2) 3 1 v x.1.fits.length (x.1.fits.map (Value.int .i64))):
 eM w b g2 k2 p3 k3 p4 k4 g4 (i+1) d4 (L2.set i (x.1,v)) L4 (W.setCell ⟨g2,i*6+5,none⟩ v):=by
 have h1:=h.rp.stored (i*6+5) v;rw[jO dF L2 i 5 x (x.1,v) _ hx (by omega) rfl]at h1;have hk:aj [g2] W (W.setCell ⟨g2,i*6+5,none⟩ v):=aj.grown h1.2 (by simp);have j7:aj [w.heap.size+1,g2,g4] W (W.setCell ⟨g2,i*6+5,none⟩ v):=hk.mono (by simp);obtain⟨⟨c1,t1⟩,_⟩:=h.tags;have hg:=h.Vj;refine⟨h.below.trans (hk.below (by simp;omega) h.below.size),hk.box h.bx (by simp;omega),hk.box h.br (by simp;omega),h1.1,d8 h.ra (fun o ho=>?_) hk,d8 h.rt (fun o ho=>?_) hk,h.h4,by rw[jP L2 i x v hx];exact h.e2,h.e4,fun y hy=>?_,fun y hy=>(h.f4 y hy).on j7,fun j y hj hy=>?_,fun j y hj hy=>d8 (h.o4 j y hj hy) (fun o ho=>by simp at ho;subst ho;exact .inr ⟨_,_,t1,by decide⟩) hk⟩
 .simp at ho;subst ho;exact .inr ⟨_,_,t1,by decide⟩
 .simp at ho;subst ho;exact .inr ⟨_,_,t1,by decide⟩
 .rcases List.mem_or_eq_of_mem_set hy with hy|rfl
  .exact(h.f2 y hy).on j7
  .exact(lx.new hn (h.XA _)).on j7
 .by_cases e:i=j
  .subst e;rw[List.getElem?_set_self (List.getElem?_eq_some_iff.1 hx).1]at hy;cases hy;exact d8 hn (fun o ho=>by simp at ho;subst ho;exact .inr ⟨_,_,t1,by decide⟩) hk
  .rw[List.getElem?_set_ne e]at hy;exact d8 (h.o2 j y (by omega) hy) (fun o ho=>by simp at ho;subst ho;exact .inr ⟨_,_,t1,by decide⟩) hk
theorem eM.Vk (h:eM w b g2 k2 p3 k3 p4 k4 g4 d2 d4 L2 L4 W) {x:cU×Value} (hd:d4=i) (hx:L4[i]?=some x) (hn:W.ownsRow (w.heap.size+2) 3 1 v x.1.parts.length (x.1.parts.map (Value.int .i64))):
 p4=some ⟨g4,0,none⟩/\eM w b g2 k2 p3 k3 p4 k4 g4 d2 (i+1) L2 (L4.set i (x.1,v)) (W.setCell ⟨g4,i*3,none⟩ v):=by
 have hi:=(List.getElem?_eq_some_iff.1 hx).1;have MJ:=h.n4
 have e:p4=some ⟨g4,0,none⟩:=by
  rcases h.h4 with⟨_,e⟩|e
  .omega
  .exact e
 subst e;have h1:=h.rt.stored (i*3+0) v;rw[jO iW L4 i 0 x (x.1,v) _ hx (by omega) rfl]at h1;have hk:aj [g4] W (W.setCell ⟨g4,i*3,none⟩ v):=aj.grown h1.2 (by simp);have j7:aj [w.heap.size+1,g2,g4] W (W.setCell ⟨g4,i*3,none⟩ v):=hk.mono (by simp);obtain⟨c1,t1⟩:=tP h.rt;have hg:=aR h.rt g4 rfl;refine⟨rfl,h.below.trans (hk.below (by simp;omega) h.below.size),hk.box h.bx (by simp;omega),hk.box h.br (by simp;omega),d8 h.rp (fun o ho=>?_) hk,d8 h.ra (fun o ho=>?_) hk,h1.1,.inr rfl,h.e2,by rw[jP L4 i x v hx];exact h.e4,fun y hy=>(h.f2 y hy).on j7,fun y hy=>?_,fun j y hj hy=>d8 (h.o2 j y hj hy) (fun o ho=>by simp at ho;subst ho;exact .inr ⟨_,_,t1,by decide⟩) hk,fun j y hj hy=>?_⟩
 .simp at ho;subst ho;exact .inr ⟨_,_,t1,by decide⟩
 .simp at ho;subst ho;exact .inr ⟨_,_,t1,by decide⟩
 .rcases List.mem_or_eq_of_mem_set hy with hy|rfl
  .exact(h.f4 y hy).on j7
  .exact(lx.new hn (h.XA _)).on j7
 .by_cases e:i=j
  .subst e;rw[List.getElem?_set_self (List.getElem?_eq_some_iff.1 hx).1]at hy;cases hy;exact d8 hn (fun o ho=>by simp at ho;subst ho;exact .inr ⟨_,_,t1,by decide⟩) hk
  .rw[List.getElem?_set_ne e]at hy;exact d8 (h.o4 j y (by omega) hy) (fun o ho=>by simp at ho;subst ho;exact .inr ⟨_,_,t1,by decide⟩) hk
theorem eM.book (h:eM w b g2 k2 p3 k3 p4 k4 g4 d2 d4 L2 L4 W) (h2:d2=b.parts.length) (h4:d4=b.aa.length) (k:aj [w.heap.size+1] W X):
 H5 w X (.agg #[.int .i64 b.am,.int .i64 b.places,.slice (some ⟨g2,0,none⟩) b.parts.length k2,.slice p3 b.apart.length k3,.slice p4 b.aa.length k4]) b:=fun Y O hO kY=>by
 have kk:aj ((w.heap.size+1)::O) W Y:=(k.mono (by simp)).trans' (kY.mono fun o ho=>.inl (by simp[ho]))
 have r:∀{e s:Nat} {v:Value} {n:Nat} {xs:List Value},W.ownsRow (w.heap.size+2) e s v n xs->Y.ownsRow (w.heap.size+2) e s v n xs:=fun h=>d8 h (fun o ho=>.inl (by
  rcases List.mem_cons.1 ho with rfl|ho
  .omega
  .have:=hO o ho;omega)) kk
 have q2:=r h.rp;have q3:=r h.ra;have q4:=r h.rt;have n2:=h.n2;have n4:=h.n4;rw[<-n2]at q2;rw[<-n4]at q4
 have s2:=bB.lu q2 fun x hx=>by
  obtain⟨j,hj⟩:=List.getElem?_of_mem hx;exact ao.ka (r (h.o2 j x (by have:=(List.getElem?_eq_some_iff.1 hj).1;omega) hj))
 have s4:=cz.lu q4 fun x hx=>by
  obtain⟨j,hj⟩:=List.getElem?_of_mem hx;exact ao.ka (r (h.o4 j x (by have:=(List.getElem?_eq_some_iff.1 hj).1;omega) hj))
 rw[h.e2,n2]at s2;rw[h.e4,n4]at s4;exact⟨_,_,_,rfl,s2,cD.lu q3,s4⟩
end
def PW (w:World) (b:aS) (L:List (Nat->Int)) (e:Ending) (w':World):Prop:=
 (∃x0 x1 p2 n2 k2 p3 n3 k3 p4 n4 k4 s,e=.returned (.tuple #[.agg #[.int .i64 x0,.int .i64 x1,.slice p2 n2 k2,.slice p3 n3 k3,.slice p4 n4 k4],.int .i64 s])/\
   ((L=[]/\s=9/\Value.agg #[.int .i64 x0,.int .i64 x1,.slice p2 n2 k2,.slice p3 n3 k3,.slice p4 n4 k4]=.agg jm)\/(L≠ []/\s=0/\H5 w w' (.agg #[.int .i64 x0,.int .i64 x1,.slice p2 n2 k2,.slice p3 n3 k3,.slice p4 n4 k4]) b)))/\Below w.heap.size w w'
theorem yE (w:World) (v:Value) (b:aS) (hb:ar w v b) (hv:Valid b) (hc:nH w):Calls ZP 72 #[v] w (PW w b (bI b (aF b))):=by
 have HB:Hid (ar w v b):=hb;have HV:Hid (Valid b):=hv;have HC:Hid (nH w):=hc;have LY:Hid (tC w v (aF b)):=jN hb hv;obtain⟨a2,c2,a3,c3,a4,c4,rfl⟩:=hb.ls
 obtain⟨L2,XB,XC,Ri⟩:∃L2:List (Part×Value),L2.map Prod.fst=b.parts/\Raw w (.slice a2 b.parts.length c2) b.parts.length 6 (L2.flatMap bO)/\∀x∈L2,ao w x.2 x.1.fits:=by
  obtain⟨_,_,_,e,h2,_,_⟩:=hb;simp only[Value.agg.injEq,Array.mk.injEq,List.cons.injEq,true_and,and_true]at e;obtain⟨rfl,_,_⟩:=e;obtain⟨L2,h1,h3,h4⟩:=h2.raw;exact⟨L2,h1,by have:=congrArg List.length h1;rw[List.length_map]at this;rw[this]at h3;exact h3,h4⟩
 obtain⟨L4,XD,XE,XF⟩:∃L4:List (cU×Value),L4.map Prod.fst=b.aa/\Raw w (.slice a4 b.aa.length c4) b.aa.length 3 (L4.flatMap eY)/\∀x∈L4,ao w x.2 x.1.parts:=by
  obtain⟨_,_,_,e,_,_,h2⟩:=hb;simp only[Value.agg.injEq,Array.mk.injEq,List.cons.injEq,true_and,and_true]at e;obtain⟨_,_,rfl⟩:=e;obtain⟨L2,h1,h3,h4⟩:=h2.raw;exact⟨L2,h1,by have:=congrArg List.length h1;rw[List.length_map]at this;rw[this]at h3;exact h3,h4⟩
 have XG:Raw w (.slice a3 b.apart.length c3) b.apart.length 2 (b.apart.flatMap je):=by
  obtain⟨_,_,_,e,_,h2,_⟩:=hb;simp only[Value.agg.injEq,Array.mk.injEq,List.cons.injEq,true_and,and_true]at e;obtain⟨_,rfl,_⟩:=e;exact h2.raw
 have H2:Hid (L2.map Prod.fst=b.parts/\Raw w (.slice a2 b.parts.length c2) b.parts.length 6 (L2.flatMap bO)/\∀x∈L2,ao w x.2 x.1.fits):=⟨XB,XC,Ri⟩
 have H3:Hid (Raw w (.slice a3 b.apart.length c3) b.apart.length 2 (b.apart.flatMap je)):=XG;have H4:Hid (L4.map Prod.fst=b.aa/\Raw w (.slice a4 b.aa.length c4) b.aa.length 3 (L4.flatMap eY)/\∀x∈L4,ao w x.2 x.1.parts):=⟨XD,XE,XF⟩
 obtain⟨A1,dv⟩:∃A,w.alloc (.cells #[.int .i64 b.am,.int .i64 b.places,.slice a2 b.parts.length c2,.slice a3 b.apart.length c3,.slice a4 b.aa.length c4] 26)=A:=⟨_,rfl⟩
 obtain⟨A2,eB⟩:∃A,A1.alloc (.cells jm 26)=A:=⟨_,rfl⟩
 have jj:=fk dv;have B1:Hid (aJ A2 w.heap.size 26 #[.int .i64 b.am,.int .i64 b.places,.slice a2 b.parts.length c2,.slice a3 b.apart.length c3,.slice a4 b.aa.length c4]):=(bG eB).box (dh dv) (by simp);have B2:Hid (aJ A2 (w.heap.size+1) 26 jm):=by have:=dh eB;rw[jj]at this;exact this
 have HW:Hid (Below w.heap.size w A2):=((bG dv).trans' (bG eB)).below (by simp) (Nat.le_refl _);have z0:A2.cell? ⟨w.heap.size,0,none⟩=some (.int .i64 b.am):=B1.out.cell 0 rfl;have z1:A2.cell? ⟨w.heap.size,1,none⟩=some (.int .i64 b.places):=B1.out.cell 1 rfl;have z2:A2.cell? ⟨w.heap.size,2,none⟩=some (.slice a2 b.parts.length c2):=B1.out.cell 2 rfl;have z3:A2.cell? ⟨w.heap.size,3,none⟩=some (.slice a3 b.apart.length c3):=B1.out.cell 3 rfl;have z4:A2.cell? ⟨w.heap.size,4,none⟩=some (.slice a4 b.aa.length c4):=B1.out.cell 4 rfl;have hO:=En A2 b _ a2 c2 _ _ (aF b) rfl (HB.out.later (Kp.of HW.out)) hv (HC.out.later HW.out) (fun X t hX=>LY.out X t (HW.out.trans (hX.mono HW.out.size)));have MQ:=hv.parts.many;have hpn:b.parts.length<=1000:=by omega
 have han:b.apart.length<=1000:=by have:=hv.fP.many;omega
 have htn:b.aa.length<=1000:=by have:=hv.many;omega
 clear hb hv hc XB XC Ri XD XE XF XG;go_enter ZF72,Tryz.ntmps72
 go_wp2_with fail
 refine hO.mono ?_;rintro e w1 ⟨BY,cW⟩;have kB:Hid (Below w.heap.size w w1):=HW.out.trans (cW.mono HW.out.size);have tQ:Hid (Below A2.heap.size A2 w1):=cW;clear cW z0 z1 z2 z3 z4 hO dv eB jj;rcases BY with⟨hL,rfl⟩|⟨hL,a,c,rfl,_,_⟩
 .have HL:Hid (bI b (aF b)=[]):=hL;clear hL;obtain⟨W,hW⟩:∃W,w1.alloc (.cells #[.int .i64 0,.int .i64 0,.slice none 0 0,.slice none 0 0,.slice none 0 0,.slice none 0 0] 86)=W:=⟨_,rfl⟩
  have JF:=bG hW;have HR:=JF.box (B2.out.below tQ.out B2.out.lt) (by simp);have JG:=dh hW;have Hn:Hid (Below w.heap.size w W):=(kB.out.trans (JF.below (by simp) kB.out.size):Below w.heap.size w W)
  obtain⟨⟨s0,s1,s2,s3,s4,s5⟩,g0,g1,g2,g3,g4,g5⟩:=Et JG;have e0:=JG.same (i:=0) (v:=.int .i64 0) rfl;have e1:=JG.same (i:=1) (v:=.int .i64 0) rfl;have e2:=JG.same (i:=2) (v:=.slice none 0 0) rfl;have e3:=JG.same (i:=3) (v:=.slice none 0 0) rfl;have e4:=JG.same (i:=4) (v:=.slice none 0 0) rfl;have e5:=JG.same (i:=5) (v:=.slice none 0 0) rfl;have t0:W.cell? ⟨w.heap.size+1,0,none⟩=some (.int .i64 0):=HR.cell 0 rfl;have t1:W.cell? ⟨w.heap.size+1,1,none⟩=some (.int .i64 0):=HR.cell 1 rfl;have t2:W.cell? ⟨w.heap.size+1,2,none⟩=some (.slice none 0 0):=HR.cell 2 rfl;have t3:W.cell? ⟨w.heap.size+1,3,none⟩=some (.slice none 0 0):=HR.cell 3 rfl;have t4:W.cell? ⟨w.heap.size+1,4,none⟩=some (.slice none 0 0):=HR.cell 4 rfl;have f0:=HR.cr 0;have f1:=HR.cr 1;have f2:=HR.cr 2;have f3:=HR.cr 3;have f4:=HR.cr 4;have d0:=HR.same (i:=0) (v:=.int .i64 0) rfl;have d1:=HR.same (i:=1) (v:=.int .i64 0) rfl;have d2:=HR.same (i:=2) (v:=.slice none 0 0) rfl;have d3:=HR.same (i:=3) (v:=.slice none 0 0) rfl;have d4:=HR.same (i:=4) (v:=.slice none 0 0) rfl;clear JF HR JG;go_wp2
  refine bodyPost_ret (v:=.tuple #[.agg jm,.int .i64 9]) ?_ rfl ⟨⟨_,_,_,_,_,_,_,_,_,_,_,_,rfl,.inl ⟨HL.out,rfl,rfl⟩⟩,Hn.out⟩;rw[results_cell_tmp rfl];go_simp
 .have HL:Hid (bI b (aF b)≠ []):=hL;clear hL;obtain⟨W,hW⟩:∃W,w1.alloc (.cells #[.int .i64 b.am,.int .i64 b.places,.slice a2 b.parts.length c2,.slice a3 b.apart.length c3,.slice a4 b.aa.length c4,.slice a (bI b (aF b)).length c] 86)=W:=⟨_,rfl⟩
  have JF:=bG hW;have Vl:Hid (Below w.heap.size w W):=kB.out.trans (JF.below (by simp) kB.out.size);have D1:Hid (aJ W w.heap.size 26 #[.int .i64 b.am,.int .i64 b.places,.slice a2 b.parts.length c2,.slice a3 b.apart.length c3,.slice a4 b.aa.length c4]):=JF.box (B1.out.below tQ.out B1.out.lt) (by simp);have D2:Hid (aJ W (w.heap.size+1) 26 jm):=JF.box (B2.out.below tQ.out B2.out.lt) (by simp);clear JF;go_upto_region 4 with fail
  go_cut []from 19 (fun wx=>∃(g2 k2:Nat) (p3:Option Addr) (k3:Nat) (p4:Option Addr) (k4:Nat),Hid (Below w.heap.size w wx)/\Hid (aJ wx w.heap.size 26 #[.int .i64 b.am,.int .i64 b.places,.slice (some ⟨g2,0,none⟩) b.parts.length k2,.slice p3 b.apart.length k3,.slice p4 b.aa.length k4])/\Hid (aJ wx (w.heap.size+1) 26 jm)/\
   Hid (wx.ownsRow (w.heap.size+2) 34 6 (.slice (some ⟨g2,0,none⟩) b.parts.length k2) b.parts.length (L2.flatMap bO))/\Hid (wx.ownsRow (w.heap.size+2) 119 2 (.slice p3 b.apart.length k3) b.apart.length (b.apart.flatMap je))/\Hid (wx.ownsRow (w.heap.size+2) 75 3 (.slice p4 b.aa.length k4) b.aa.length (L4.flatMap eY)))
  case first=>
   have XH:Hid (aJ (W.drewN 1) w.heap.size 26 #[.int .i64 b.am,.int .i64 b.places,.slice a2 b.parts.length c2,.slice a3 b.apart.length c3,.slice a4 b.aa.length c4]):=D1.out;have XI:Hid (aJ (W.drewN 1) (w.heap.size+1) 26 jm):=D2.out;have Vm:Hid (Below w.heap.size w (W.drewN 1)):=Below.drewN Vl.out 1;have HSw:Hid (w.heap.size+2<=(W.drewN 1).heap.size):=(D2.out.lt:w.heap.size+1<W.heap.size)
   have z2:W.cell? ⟨w.heap.size,2,none⟩=some (.slice a2 b.parts.length c2):=D1.out.cell 2 rfl;have z3:W.cell? ⟨w.heap.size,3,none⟩=some (.slice a3 b.apart.length c3):=D1.out.cell 3 rfl;have z4:W.cell? ⟨w.heap.size,4,none⟩=some (.slice a4 b.aa.length c4):=D1.out.cell 4 rfl
   go_region_with
    (first
      |(go_at_call 71
        refine(nI (W.drewN 1) a2 b.parts.length c2 (L2.flatMap bO) hpn (H2.out.2.1.later (Kp.of Vm.out))).mono ?_;rintro e Md ⟨⟨v',rfl,ho⟩,hb⟩;obtain⟨g2,k2,rfl,MO,Jm,_,_⟩:=dM ho MQ.1;have H6:Hid (Below w.heap.size w Md):=Vm.out.trans (hb.mono Vm.out.size);have PX:Hid (Md.ownsRow (w.heap.size+2) 34 6 (.slice (some ⟨g2,0,none⟩) b.parts.length k2) b.parts.length (L2.flatMap bO)):=eL ho HSw.out;have E1:Hid (aJ Md w.heap.size 26 #[.int .i64 b.am,.int .i64 b.places,.slice a2 b.parts.length c2,.slice a3 b.apart.length c3,.slice a4 b.aa.length c4]):=XH.out.below hb XH.out.lt;have E2:Hid (aJ Md (w.heap.size+1) 26 jm):=XI.out.below hb XI.out.lt;have y3:Md.cell? ⟨w.heap.size,3,none⟩=some (.slice a3 b.apart.length c3):=E1.out.cell 3 rfl;have y4:Md.cell? ⟨w.heap.size,4,none⟩=some (.slice a4 b.aa.length c4):=E1.out.cell 4 rfl;clear ho hb MO Jm)
      |(go_at_call 106
        refine(tL Md a3 b.apart.length c3 (b.apart.flatMap je) han (H3.out.later (Kp.of H6.out))).mono ?_;rintro e yF ⟨⟨v',rfl,ho⟩,hb⟩;obtain⟨p3,k3,rfl⟩:=cQ ho;have zU:Hid (Below w.heap.size w yF):=H6.out.trans (hb.mono H6.out.size);have JI:Hid (yF.ownsRow (w.heap.size+2) 119 2 (.slice p3 b.apart.length k3) b.apart.length (b.apart.flatMap je)):=eL ho (by have:=(E2.out.lt);omega);have JJ:Hid (yF.ownsRow (w.heap.size+2) 34 6 (.slice (some ⟨g2,0,none⟩) b.parts.length k2) b.parts.length (L2.flatMap bO)):=bT PX.out (fun j hj=>hb.block j (aR PX.out j hj).2);have F1:Hid (aJ yF w.heap.size 26 #[.int .i64 b.am,.int .i64 b.places,.slice a2 b.parts.length c2,.slice a3 b.apart.length c3,.slice a4 b.aa.length c4]):=E1.out.below hb E1.out.lt;have F2:Hid (aJ yF (w.heap.size+1) 26 jm):=E2.out.below hb E2.out.lt;have x4:yF.cell? ⟨w.heap.size,4,none⟩=some (.slice a4 b.aa.length c4):=F1.out.cell 4 rfl;clear ho hb)
      |(go_at_call 107
        refine(tM yF a4 b.aa.length c4 (L4.flatMap eY) htn (H4.out.2.1.later (Kp.of zU.out))).mono ?_;rintro e kl ⟨⟨v',rfl,ho⟩,hb⟩;obtain⟨p4,k4,rfl⟩:=cQ ho;have JH:Hid (Below w.heap.size w kl):=zU.out.trans (hb.mono zU.out.size);have PY:Hid (kl.ownsRow (w.heap.size+2) 75 3 (.slice p4 b.aa.length k4) b.aa.length (L4.flatMap eY)):=eL ho (by have:=(F2.out.lt);omega);have Me:Hid (kl.ownsRow (w.heap.size+2) 34 6 (.slice (some ⟨g2,0,none⟩) b.parts.length k2) b.parts.length (L2.flatMap bO)):=bT JJ.out (fun j hj=>hb.block j (aR JJ.out j hj).2);have Mf:Hid (kl.ownsRow (w.heap.size+2) 119 2 (.slice p3 b.apart.length k3) b.apart.length (b.apart.flatMap je)):=bT JI.out (fun j hj=>hb.block j (aR JI.out j hj).2);have G1:Hid (aJ kl w.heap.size 26 #[.int .i64 b.am,.int .i64 b.places,.slice a2 b.parts.length c2,.slice a3 b.apart.length c3,.slice a4 b.aa.length c4]):=F1.out.below hb F1.out.lt;have G2:Hid (aJ kl (w.heap.size+1) 26 jm):=F2.out.below hb F2.out.lt;have s2:kl.cell? ⟨w.heap.size,2,none⟩=some (.slice a2 b.parts.length c2):=G1.out.cell 2 rfl;have s3:kl.cell? ⟨w.heap.size,3,none⟩=some (.slice a3 b.apart.length c3):=G1.out.cell 3 rfl;have s4:kl.cell? ⟨w.heap.size,4,none⟩=some (.slice a4 b.aa.length c4):=G1.out.cell 4 rfl;have q2:=G1.out.cr 2;have q3:=G1.out.cr 3;have q4:=G1.out.cr 4;have K1:Hid (∀(X:World) (i:Nat) (v:Value),Below w.heap.size w X->Below w.heap.size w (X.setCell ⟨w.heap.size,i,none⟩ v)):=(fun X i v h=>h.trans ((aj.set (O:=[w.heap.size]) X (by simp) v).below (by simp) h.size))
        have XJ:Hid (∀v,Below w.heap.size w (kl.setCell ⟨w.heap.size,2,none⟩ v)):=(fun v=>K1.out _ _ _ JH.out)
        have LZ:Hid (∀v v',Below w.heap.size w ((kl.setCell ⟨w.heap.size,2,none⟩ v).setCell ⟨w.heap.size,3,none⟩ v')):=(fun v v'=>K1.out _ _ _ (XJ.out _))
        have PJ:Hid (∀v v' XK,Below w.heap.size w (((kl.setCell ⟨w.heap.size,2,none⟩ v).setCell ⟨w.heap.size,3,none⟩ v').setCell ⟨w.heap.size,4,none⟩ XK)):=(fun v v' XK=>K1.out _ _ _ (LZ.out _ _))
        clear ho hb K1))
   all_goals go_wp2_with fail
   all_goals go_meet
   all_goals
    have hk:aj [w.heap.size] kl (((kl.setCell ⟨w.heap.size,2,none⟩ (.slice (some ⟨g2,0,none⟩) b.parts.length k2)).setCell ⟨w.heap.size,3,none⟩ (.slice p3 b.apart.length k3)).setCell ⟨w.heap.size,4,none⟩ (.slice p4 b.aa.length k4)):=((aj.set _ (by simp) _).trans' (aj.set _ (by simp) _)).trans' (aj.set _ (by simp) _)
    have hf:∀(e s:Nat) (v:Value) (n:Nat) (xs:List Value),kl.ownsRow (w.heap.size+2) e s v n xs->(((kl.setCell ⟨w.heap.size,2,none⟩ (.slice (some ⟨g2,0,none⟩) b.parts.length k2)).setCell ⟨w.heap.size,3,none⟩ (.slice p3 b.apart.length k3)).setCell ⟨w.heap.size,4,none⟩ (.slice p4 b.aa.length k4)).ownsRow (w.heap.size+2) e s v n xs:=fun e s v n xs h=>
     bT h fun j hj=>hk.block j (aR h j hj).2 (by have:=(aR h j hj).1;simp;omega)
    exact⟨g2,k2,p3,k3,p4,k4,PJ.out _ _ _,((G1.out.set 2 _).set 3 _).set 4 _,hk.box G2.out (by simp),hf _ _ _ _ _ Me.out,hf _ _ _ _ _ Mf.out,hf _ _ _ _ _ PY.out⟩
  case rest=>
   obtain⟨g2,k2,p3,k3,p4,k4,Rw,zO,Bt,HP,HA,HT⟩:=hcut
   obtain⟨g4,Ru⟩:∃g4:Nat,(g4=w.heap.size+1/\b.aa.length=0)\/p4=some ⟨g4,0,none⟩:=by
    rcases Nat.eq_zero_or_pos b.aa.length with h|h
    .exact⟨_,.inl ⟨rfl,h⟩⟩
    .obtain⟨g,c,e,_⟩:=dM HT.out h;cases e;exact⟨g,.inr rfl⟩
   have hO:∀o∈ [w.heap.size+1,g2,g4],w.heap.size<=o:=fun o ho=>by
    simp at ho;have h2:=(aR HP.out g2 rfl).1;rcases ho with rfl|rfl|rfl
    .omega
    .omega
    .rcases Ru with h|h
     .omega
     .have h3:=HT.out;rw[h]at h3;have:=(aR h3 o rfl).1;omega
   have Rv:Hid (eM w b g2 k2 p3 k3 p4 k4 g4 0 0 L2 L4 wc):=⟨Rw.out,zO.out,Bt.out,HP.out,HA.out,HT.out,Ru,H2.out.1,H4.out.1,fun x hx=>lx.old (H2.out.2.2 x hx) Rw.out hO,fun x hx=>lx.old (H4.out.2.2 x hx) Rw.out hO,fun j x hj=>by omega,fun j x hj=>by omega⟩
   have HFL:Hid (∀x∈b.parts,x.fits.length<=1000):=fun x hx=>by
    obtain⟨j,hj⟩:=List.getElem?_of_mem hx;have h1:=yr (by have:=HV.out.places;omega) (HV.out.parts.all j x (List.getElem?_eq_some_iff.1 hj).1 hj).1.GT;have:=HV.out.places;omega
   have HTL:Hid (∀x∈b.aa,x.parts.length<=1000):=fun x hx=>by
    obtain⟨j,hj⟩:=List.getElem?_of_mem hx;have h1:=(HV.out.aa j x (List.getElem?_eq_some_iff.1 hj).1 hj).GX.len;have:=HV.out.places;omega
   have y2:wc.cell? ⟨w.heap.size,2,none⟩=some (.slice (some ⟨g2,0,none⟩) b.parts.length k2):=zO.out.cell 2 rfl
   have zbE:b.parts.length<=k2:=by
    obtain⟨_,_,e,_,_,_,h⟩:=dM HP.out MQ.1;cases e;exact h
   have hkm:=fun(h:0<b.aa.length)=>(dM HT.out h)
   clear Rw zO Bt HP HA HT Ru hO hW D1 D2 Vl kB tQ B1 B2 HW;go_wp2_with fail
   clear y2;go_loopw [34] (fun i wr=>∃(j:Nat) (M2:List (Part×Value)),j<=b.parts.length/\i=.int .i64 j/\Hid (eM w b g2 k2 p3 k3 p4 k4 g4 j 0 M2 L4 wr)) (fun i _=>b.parts.length-(intOf i).toNat)
   case atStart=>exact⟨0,_,Nat.zero_le _,rfl,Rv⟩
   case round=>
    obtain⟨j,M2,hj,rfl,hS⟩:=hrel;have z2:wr.cell? ⟨w.heap.size,2,none⟩=some (.slice (some ⟨g2,0,none⟩) b.parts.length k2):=hS.out.bx.cell 2 rfl;have z4:wr.cell? ⟨w.heap.size,4,none⟩=some (.slice p4 b.aa.length k4):=hS.out.bx.cell 4 rfl;by_cases ap:j<b.parts.length
    .have Vn:j<M2.length:=by rw[hS.out.n2];exact ap
     obtain⟨x,hx⟩:∃x,M2[j]?=some x:=⟨_,List.getElem?_eq_getElem Vn⟩
     obtain⟨xp,xv⟩:=x;obtain⟨fa,fc,hs,he⟩:=(hS.out.f2 _ (List.mem_of_getElem? hx)).now;obtain rfl:xv=.slice fa xp.fits.length fc:=hs.eq;have HX:Hid (M2[j]?=some (xp,.slice fa xp.fits.length fc)):=hx;have q0:wr.cell? ⟨g2,j*6,none⟩=some (.string xp.name):=dG hS.out.rp hx hS.out.n2 0 (by omega) rfl;have q1:wr.cell? ⟨g2,j*6+1,none⟩=some (.int .i64 xp.cost):=dG hS.out.rp hx hS.out.n2 1 (by omega) rfl;have q2:wr.cell? ⟨g2,j*6+2,none⟩=some (.int .i64 xp.cm):=dG hS.out.rp hx hS.out.n2 2 (by omega) rfl;have q3:wr.cell? ⟨g2,j*6+3,none⟩=some (.int .i64 xp.lo):=dG hS.out.rp hx hS.out.n2 3 (by omega) rfl;have q4:wr.cell? ⟨g2,j*6+4,none⟩=some (.int .i64 xp.hi):=dG hS.out.rp hx hS.out.n2 4 (by omega) rfl;have q5:wr.cell? ⟨g2,j*6+5,none⟩=some (.slice fa xp.fits.length fc):=dG hS.out.rp hx hS.out.n2 5 (by omega) rfl;have BU:xp.fits.length<=1000:=HFL.out xp (by rw[<-hS.out.e2];exact List.mem_map.2 ⟨_,List.mem_of_getElem? hx,rfl⟩);have pA:(j:Int)<(b.parts.length:Int):=by omega
     obtain⟨A7,PZ⟩:∃A,wr.alloc (.cells #[.string xp.name,.int .i64 xp.cost,.int .i64 xp.cm,.int .i64 xp.lo,.int .i64 xp.hi,.slice fa xp.fits.length fc] 34)=A:=⟨_,rfl⟩
     have Fi:Hid (eM w b g2 k2 p3 k3 p4 k4 g4 j 0 M2 L4 A7):=hS.out.later ((bG PZ).below (by simp) (Nat.le_refl _));have B7:Hid (aJ A7 wr.heap.size 34 #[.string xp.name,.int .i64 xp.cost,.int .i64 xp.cm,.int .i64 xp.lo,.int .i64 xp.hi,.slice fa xp.fits.length fc]):=dh PZ;have Vo:Hid (ao (A7.drewN 1) (.slice fa xp.fits.length fc) xp.fits):=(Fi.out.f2 _ (List.mem_of_getElem? hx)) _ (aj.of (Below.drewN (Below.refl A7.heap.size A7) 1))
     have H7:Hid (∀X:World,aj [g2] A7 X->(X.cell? ⟨w.heap.size,2,none⟩=some (.slice (some ⟨g2,0,none⟩) b.parts.length k2)/\X.cell? ⟨wr.heap.size,5,none⟩=some (.slice fa xp.fits.length fc))/\aj [g2] A7 X):=fun X hX=>by
      have h2:=Fi.out.Vj;have h3:=hS.out.Vj;exact⟨⟨(hX.box Fi.out.bx (by simp;omega)).cell 2 rfl,(hX.box B7.out (by simp;omega)).cell 5 rfl⟩,hX⟩
     clear hx hs he z4;go_wp2_with fail
     go_region_held3 (fun X:World=>(X.cell? ⟨w.heap.size,2,none⟩=some (.slice (some ⟨g2,0,none⟩) b.parts.length k2)/\X.cell? ⟨wr.heap.size,5,none⟩=some (.slice fa xp.fits.length fc))/\aj [g2] A7 X)
      (first
        |with_reducible exact H7.out _ P0.out
        |with_reducible exact H7.out _ (Vp.out _)
        |exact H7.out _ (aj.of (Below.drewN (Below.refl A7.heap.size A7) 1))
        |fail)
      (first
        |(go_at_call 108
          refine(rA (A7.drewN 1) _ xp.fits BU Vo.out).mono ?_;rintro e w8 ⟨⟨v',rfl,ho⟩,hb⟩;obtain⟨Vq,Vr,rfl⟩:=cQ ho;have Cd:Hid (Below A7.heap.size A7 w8):=(Below.drewN (Below.refl A7.heap.size A7) 1).trans hb;have P0:Hid (aj [g2] A7 w8):=aj.of Cd.out;have Vp:Hid (∀v,aj [g2] A7 (w8.setCell ⟨g2,j*6+5,none⟩ v)):=(fun v=>P0.out.trans' (aj.set w8 (by simp) v))
          have Ia:Hid (eM w b g2 k2 p3 k3 p4 k4 g4 j 0 M2 L4 w8):=Fi.out.later Cd.out;have Vs:Hid (w8.ownsRow (w.heap.size+2) 3 1 (.slice Vq xp.fits.length Vr) xp.fits.length (xp.fits.map (Value.int .i64))):=eL ho (Fi.out.br.lt);have t5:w8.cell? ⟨g2,j*6+5,none⟩=some (.slice fa xp.fits.length fc):=dG Ia.out.rp HX.out Ia.out.n2 5 (by omega) rfl;have t6:w8.frozen? ⟨g2,j*6+5,none⟩=false:=Ia.out.rp.frozenAt _;clear ho hb))
     go_wp2
     go_round
     case rel=>exact⟨j+1,_,by omega,by go_num,Ia.out.fit rfl HX.out Vs.out⟩
     case measure=>simp[intOf];omega
    .have ej:j=b.parts.length:=by omega
     have Vt:Hid (eM w b g2 k2 p3 k3 p4 k4 g4 b.parts.length 0 M2 L4 wr):=by rw[<-ej];exact hS
     clear ej;go_wp2_with fail
     clear z2 z4 ap hj hS;obtain⟨wo,P1⟩:∃wo,wo=wr:=⟨wr,rfl⟩
     rw[<-P1]at Vt⊢;clear P1;go_loopw [51] (fun i wr=>∃(j:Nat) (M4:List (cU×Value)),j<=b.aa.length/\i=.int .i64 j/\Hid (eM w b g2 k2 p3 k3 p4 k4 g4 b.parts.length j M2 M4 wr)) (fun i _=>b.aa.length-(intOf i).toNat)
     case atStart=>exact⟨0,_,Nat.zero_le _,rfl,Vt⟩
     case round=>
      clear Vt;obtain⟨j,M4,hj,rfl,hS⟩:=hrel;have z0:wr.cell? ⟨w.heap.size,0,none⟩=some (.int .i64 b.am):=hS.out.bx.cell 0 rfl;have z1:wr.cell? ⟨w.heap.size,1,none⟩=some (.int .i64 b.places):=hS.out.bx.cell 1 rfl;have z2:wr.cell? ⟨w.heap.size,2,none⟩=some (.slice (some ⟨g2,0,none⟩) b.parts.length k2):=hS.out.bx.cell 2 rfl;have z3:wr.cell? ⟨w.heap.size,3,none⟩=some (.slice p3 b.apart.length k3):=hS.out.bx.cell 3 rfl;have z4:wr.cell? ⟨w.heap.size,4,none⟩=some (.slice p4 b.aa.length k4):=hS.out.bx.cell 4 rfl;by_cases ap:j<b.aa.length
      .have Vn:j<M4.length:=by rw[hS.out.n4];exact ap
       obtain⟨x,hx⟩:∃x,M4[j]?=some x:=⟨_,List.getElem?_eq_getElem Vn⟩
       obtain⟨xp,xv⟩:=x;obtain⟨fa,fc,hs,he⟩:=(hS.out.f4 _ (List.mem_of_getElem? hx)).now;obtain rfl:xv=.slice fa xp.parts.length fc:=hs.eq;have HX:Hid (M4[j]?=some (xp,.slice fa xp.parts.length fc)):=hx
       have hp4:p4=some ⟨g4,0,none⟩:=by
        rcases hS.out.h4 with h|h
        .omega
        .exact h
       subst hp4
       have zbH:b.aa.length<=k4:=by
        obtain⟨_,_,e,_,_,_,h⟩:=hkm (by omega);cases e;exact h
       have q0:wr.cell? ⟨g4,j*3,none⟩=some (.slice fa xp.parts.length fc):=ke hS.out.rt hx hS.out.n4 0 (by omega) rfl;have q1:wr.cell? ⟨g4,j*3+1,none⟩=some (.int .i64 xp.lo):=ke hS.out.rt hx hS.out.n4 1 (by omega) rfl;have q2:wr.cell? ⟨g4,j*3+2,none⟩=some (.int .i64 xp.hi):=ke hS.out.rt hx hS.out.n4 2 (by omega) rfl;have BU:xp.parts.length<=1000:=HTL.out xp (by rw[<-hS.out.e4];exact List.mem_map.2 ⟨_,List.mem_of_getElem? hx,rfl⟩);have pA:(j:Int)<(b.aa.length:Int):=by omega
       obtain⟨A7,PZ⟩:∃A,wr.alloc (.cells #[.slice fa xp.parts.length fc,.int .i64 xp.lo,.int .i64 xp.hi] 75)=A:=⟨_,rfl⟩
       have Fi:Hid (eM w b g2 k2 p3 k3 (some ⟨g4,0,none⟩) k4 g4 b.parts.length j M2 M4 A7):=hS.out.later ((bG PZ).below (by simp) (Nat.le_refl _));have B7:Hid (aJ A7 wr.heap.size 75 #[.slice fa xp.parts.length fc,.int .i64 xp.lo,.int .i64 xp.hi]):=dh PZ;have Vo:Hid (ao (A7.drewN 1) (.slice fa xp.parts.length fc) xp.parts):=(Fi.out.f4 _ (List.mem_of_getElem? hx)) _ (aj.of (Below.drewN (Below.refl A7.heap.size A7) 1))
       have H7:Hid (∀X:World,aj [g4] A7 X->(X.cell? ⟨w.heap.size,4,none⟩=some (.slice (some ⟨g4,0,none⟩) b.aa.length k4)/\X.cell? ⟨wr.heap.size,0,none⟩=some (.slice fa xp.parts.length fc))/\aj [g4] A7 X):=fun X hX=>by
        have h2:=aR hS.out.rt g4 rfl;exact⟨⟨(hX.box Fi.out.bx (by simp;omega)).cell 4 rfl,(hX.box B7.out (by simp;omega)).cell 0 rfl⟩,hX⟩
       clear hx hs he z0 z1 z2 z3;go_wp2_with fail
       go_region_held3 (fun X:World=>(X.cell? ⟨w.heap.size,4,none⟩=some (.slice (some ⟨g4,0,none⟩) b.aa.length k4)/\X.cell? ⟨wr.heap.size,0,none⟩=some (.slice fa xp.parts.length fc))/\aj [g4] A7 X)
        (first
          |with_reducible exact H7.out _ P0.out
          |with_reducible exact H7.out _ (Vp.out _)
          |exact H7.out _ (aj.of (Below.drewN (Below.refl A7.heap.size A7) 1))
          |fail)
        (first
          |(go_at_call 108
            refine(rA (A7.drewN 1) _ xp.parts BU Vo.out).mono ?_;rintro e w8 ⟨⟨v',rfl,ho⟩,hb⟩;obtain⟨Vq,Vr,rfl⟩:=cQ ho;have Cd:Hid (Below A7.heap.size A7 w8):=(Below.drewN (Below.refl A7.heap.size A7) 1).trans hb;have P0:Hid (aj [g4] A7 w8):=aj.of Cd.out;have Vp:Hid (∀v,aj [g4] A7 (w8.setCell ⟨g4,j*3,none⟩ v)):=(fun v=>P0.out.trans' (aj.set w8 (by simp) v))
            have Ia:Hid (eM w b g2 k2 p3 k3 (some ⟨g4,0,none⟩) k4 g4 b.parts.length j M2 M4 w8):=Fi.out.later Cd.out;have Vs:Hid (w8.ownsRow (w.heap.size+2) 3 1 (.slice Vq xp.parts.length Vr) xp.parts.length (xp.parts.map (Value.int .i64))):=eL ho (Fi.out.br.lt);have t5:w8.cell? ⟨g4,j*3,none⟩=some (.slice fa xp.parts.length fc):=ke Ia.out.rt HX.out Ia.out.n4 0 (by omega) rfl;have t6:w8.frozen? ⟨g4,j*3,none⟩=false:=Ia.out.rt.frozenAt _;clear ho hb))
       go_wp2
       go_round
       case rel=>exact⟨j+1,_,by omega,by go_num,(Ia.out.Vk rfl HX.out Vs.out).2⟩
       case measure=>simp[intOf];omega
      .have p0:=hS.out.br.cell 0 rfl;have p1:=hS.out.br.cell 1 rfl;have p2:=hS.out.br.cell 2 rfl;have p3':=hS.out.br.cell 3 rfl;have p4':=hS.out.br.cell 4 rfl;have f0:=hS.out.br.cr 0;have f1:=hS.out.br.cr 1;have f2:=hS.out.br.cr 2;have f3:=hS.out.br.cr 3;have f4:=hS.out.br.cr 4;go_wp2
       obtain⟨WF,qq⟩:∃V,((((wr.setCell ⟨w.heap.size+1,0,none⟩ (.int .i64 b.am)).setCell ⟨w.heap.size+1,1,none⟩ (.int .i64 b.places)).setCell ⟨w.heap.size+1,2,none⟩ (.slice (some ⟨g2,0,none⟩) b.parts.length k2)).setCell ⟨w.heap.size+1,3,none⟩ (.slice p3 b.apart.length k3)).setCell ⟨w.heap.size+1,4,none⟩ (.slice p4 b.aa.length k4)=V:=⟨_,rfl⟩
       obtain⟨pF,zT⟩:=tN (.int .i64 b.am) (.int .i64 b.places) (.slice (some ⟨g2,0,none⟩) b.parts.length k2) (.slice p3 b.apart.length k3) (.slice p4 b.aa.length k4) hS.out.br;rw[qq]at pF zT⊢;have lq:Hid (Below w.heap.size w WF):=hS.out.below.trans (zT.below (by simp) hS.out.below.size);have ej:j=b.aa.length:=by omega
       have PV:Hid (H5 w WF (.agg #[.int .i64 b.am,.int .i64 b.places,.slice (some ⟨g2,0,none⟩) b.parts.length k2,.slice p3 b.apart.length k3,.slice p4 b.aa.length k4]) b):=hS.out.book rfl ej zT;have w0:WF.cell? ⟨w.heap.size+1,0,none⟩=some (.int .i64 b.am):=pF.cell 0 rfl;have w1:WF.cell? ⟨w.heap.size+1,1,none⟩=some (.int .i64 b.places):=pF.cell 1 rfl;have w2:WF.cell? ⟨w.heap.size+1,2,none⟩=some (.slice (some ⟨g2,0,none⟩) b.parts.length k2):=pF.cell 2 rfl;have w3:WF.cell? ⟨w.heap.size+1,3,none⟩=some (.slice p3 b.apart.length k3):=pF.cell 3 rfl;have w4:WF.cell? ⟨w.heap.size+1,4,none⟩=some (.slice p4 b.aa.length k4):=pF.cell 4 rfl;clear ej pF zT qq z0 z1 z2 z3 z4 p0 p1 p2 p3' p4' f0 f1 f2 f3 f4;refine bodyPost_ret (v:=.tuple #[.agg #[.int .i64 b.am,.int .i64 b.places,.slice (some ⟨g2,0,none⟩) b.parts.length k2,.slice p3 b.apart.length k3,.slice p4 b.aa.length k4],.int .i64 0]) ?_ rfl ⟨⟨_,_,_,_,_,_,_,_,_,_,_,_,rfl,.inr ⟨HL.out,rfl,PV.out⟩⟩,lq.out⟩;rw[results_cell_tmp rfl];go_simp
end Go.Proofs.Cz
