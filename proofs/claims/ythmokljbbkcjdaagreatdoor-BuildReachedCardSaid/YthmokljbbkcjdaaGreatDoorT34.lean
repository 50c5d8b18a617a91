/- A part. Conditions: none. -/
import Derived.Test.YthmokljbbkcjdaaGreatDoorT33
import Derived.Laws.ResultCell
set_option linter.all false
set_option maxHeartbeats 8000000
set_option maxRecDepth 100000
namespace Go.Proofs.Cz
open Go.RowKit
variable {b:aS} {g n:Nat} {v:Value} {w:World}
theorem vS (w:World) (a b c d e:Value):Calls ZP 56 #[.agg #[a,b,c,d,e]] w (eX w (.int .i64 0)):=by
 go_enter ZF56,Tryz.ntmps56
 go_wp2
 go_ret;exact⟨rfl,(aj.alloc [] w _).below (by simp) (Nat.le_refl _)⟩
abbrev PH (b:aS) (v2 v3 v4 v5:Value):Value:=.agg #[.int .i64 b.am,.int .i64 b.places,v2,v3,v4,v5]
abbrev Jz:Value:=.agg #[.int .i64 0,.int .i64 0,.slice none 0 0,.slice none 0 0,.slice none 0 0,.slice none 0 0]
theorem vT {W:World} {t:Nat} {c0 c1 c2 c3 c4 c5:Value} (v0 v1 v2 v3 v4 v5:Value) (h:aJ W g t #[c0,c1,c2,c3,c4,c5]):
 aJ ((((((W.setCell ⟨g,0,none⟩ v0).setCell ⟨g,1,none⟩ v1).setCell ⟨g,2,none⟩ v2).setCell ⟨g,3,none⟩ v3).setCell ⟨g,4,none⟩ v4).setCell ⟨g,5,none⟩ v5) g t #[v0,v1,v2,v3,v4,v5]/\
 aj [g] W ((((((W.setCell ⟨g,0,none⟩ v0).setCell ⟨g,1,none⟩ v1).setCell ⟨g,2,none⟩ v2).setCell ⟨g,3,none⟩ v3).setCell ⟨g,4,none⟩ v4).setCell ⟨g,5,none⟩ v5):=
 ⟨(((((h.set 0 v0).set 1 v1).set 2 v2).set 3 v3).set 4 v4).set 5 v5,
  (((((aj.set W (by simp) v0).trans' (aj.set _ (by simp) v1)).trans' (aj.set _ (by simp) v2)).trans' (aj.set _ (by simp) v3)).trans' (aj.set _ (by simp) v4)).trans' (aj.set _ (by simp) v5)⟩
def vU (w:World) (b:aS) (v2 v3 v4:Value) (L:List (Nat->Int)) (e:Ending) (w':World):Prop:=
 ((L=[]/\e=.returned (.tuple #[Jz,.int .i64 9]))\/
  (L≠ []/\∃a c,e=.returned (.tuple #[PH b v2 v3 v4 (.slice a L.length c),.int .i64 0])/\eu 5 w' (.slice a L.length c) L/\rx w (.slice a L.length c)))/\
 Below w.heap.size w w'
theorem ry (f:Nat) (hf:∀(args:Array Value) (w:World),Sem.run ZP (Go.callFunc f args) w=.ok (.enter f args) w) (w:World) (b:aS) (v:Value) (a2:Option Addr) (c2:Nat) (v3 v4:Value) (ag:(Nat->Int)->Bool) (MU:v=.agg #[.int .i64 b.am,.int .i64 b.places,.slice a2 b.parts.length c2,v3,v4]) (hb:ar w v b) (hv:Valid b) (hc:nH w)
 (cs:Array Value) (lA:∀X t,Below w.heap.size w X->Calls ZP 114 #[v,.agg (tick t)] X (eX X (.bool (ag t))))
 (cF:∀X,Below w.heap.size w X->Calls ZP f (#[v]++cs) X (eX X (.int .i64 0))):
 Calls ZP 55 #[v,.func (.func f) #[] cs] w (vU w b (.slice a2 b.parts.length c2) v3 v4 (bI b ag)):=by
 subst MU;have HB:Hid (ar w (.agg #[.int .i64 b.am,.int .i64 b.places,.slice a2 b.parts.length c2,v3,v4]) b):=hb;have HV:Hid (Valid b):=hv;obtain⟨_,_,_,Fy,_,⟨a3,c3,⟨e3,_,_,_,_⟩,_⟩,⟨a4,c4,⟨e4,_,_,_,_⟩,_⟩⟩:=hb;simp only[Value.agg.injEq,Array.mk.injEq,List.cons.injEq,true_and,and_true]at Fy;obtain⟨rfl,rfl,rfl⟩:=Fy;subst e3 e4;obtain⟨A1,dv⟩:∃A,w.alloc (.cells #[.int .i64 b.am,.int .i64 b.places,.slice a2 b.parts.length c2,.slice a3 b.apart.length c3,.slice a4 b.aa.length c4] 26)=A:=⟨_,rfl⟩
 obtain⟨A2,eB⟩:∃A,A1.alloc (.cells #[.int .i64 0,.int .i64 0,.slice none 0 0,.slice none 0 0,.slice none 0 0,.slice none 0 0] 86)=A:=⟨_,rfl⟩
 have jj:A1.heap.size=w.heap.size+1:=by rw[<-dv];simp
 have nk:A2.heap.size=w.heap.size+2:=by rw[<-eB];simp[jj]
 have yu:Hid (aJ A2 w.heap.size 26 #[.int .i64 b.am,.int .i64 b.places,.slice a2 b.parts.length c2,.slice a3 b.apart.length c3,.slice a4 b.aa.length c4]):=by
  rw[<-eB];refine(aj.alloc [] _ _).box ?_ (by simp);rw[<-dv];exact aJ.new _ _ _
 have Xt:Hid (aJ A2 (w.heap.size+1) 86 #[.int .i64 0,.int .i64 0,.slice none 0 0,.slice none 0 0,.slice none 0 0,.slice none 0 0]):=by rw[<-eB,<-jj];exact aJ.new _ _ _
 have JA:Hid (Below w.heap.size w A2):=by rw[<-eB,<-dv];exact((aj.alloc [] _ _).lj _).below (by simp) (Nat.le_refl _)
 have HC:Hid (nH w):=hc;have LY:Hid (∀X t,Below w.heap.size w X->Calls ZP 114 #[.agg #[.int .i64 b.am,.int .i64 b.places,.slice a2 b.parts.length c2,.slice a3 b.apart.length c3,.slice a4 b.aa.length c4],.agg (tick t)] X (eX X (.bool (ag t)))):=lA;have z0:A2.cell? ⟨w.heap.size,0,none⟩=some (.int .i64 b.am):=yu.out.cell 0 rfl;have z1:A2.cell? ⟨w.heap.size,1,none⟩=some (.int .i64 b.places):=yu.out.cell 1 rfl;have z2:A2.cell? ⟨w.heap.size,2,none⟩=some (.slice a2 b.parts.length c2):=yu.out.cell 2 rfl;have z3:A2.cell? ⟨w.heap.size,3,none⟩=some (.slice a3 b.apart.length c3):=yu.out.cell 3 rfl;have z4:A2.cell? ⟨w.heap.size,4,none⟩=some (.slice a4 b.aa.length c4):=yu.out.cell 4 rfl;have U6:Hid (∀X,Below w.heap.size w X->Calls ZP f (#[.agg #[.int .i64 b.am,.int .i64 b.places,.slice a2 b.parts.length c2,.slice a3 b.apart.length c3,.slice a4 b.aa.length c4]]++cs) X (eX X (.int .i64 0))):=cF;clear hv hc lA cF;go_enter ZF55,Tryz.ntmps55
 go_wp2_with fail
 refine(li A2 _ b (HB.out.later (Kp.of JA.out)) HV.out (HC.out.later JA.out)).mono ?_;rintro e w1 ⟨⟨r,rfl,rfl⟩,cW⟩;have kB:Hid (Below A2.heap.size A2 w1):=cW;clear z0 z1 z2 z3 z4 cW dv eB;have z0:w1.cell? ⟨w.heap.size,0,none⟩=some (.int .i64 b.am):=(yu.out.below kB.out yu.out.lt).cell 0 rfl;have z1:w1.cell? ⟨w.heap.size,1,none⟩=some (.int .i64 b.places):=(yu.out.below kB.out yu.out.lt).cell 1 rfl;have z2:w1.cell? ⟨w.heap.size,2,none⟩=some (.slice a2 b.parts.length c2):=(yu.out.below kB.out yu.out.lt).cell 2 rfl;have z3:w1.cell? ⟨w.heap.size,3,none⟩=some (.slice a3 b.apart.length c3):=(yu.out.below kB.out yu.out.lt).cell 3 rfl;have z4:w1.cell? ⟨w.heap.size,4,none⟩=some (.slice a4 b.aa.length c4):=(yu.out.below kB.out yu.out.lt).cell 4 rfl;go_wp2_with fail
 obtain⟨A4,Cb⟩:∃A,w1.alloc (.cells #[.int .i64 b.am,.int .i64 b.places,.slice a2 b.parts.length c2,.slice a3 b.apart.length c3,.slice a4 b.aa.length c4] 79)=A:=⟨_,rfl⟩
 rw[Cb];have PF:A4.heap.size=w1.heap.size+1:=by rw[<-Cb];simp
 have Cc:Hid (aJ A4 w1.heap.size 79 #[.int .i64 b.am,.int .i64 b.places,.slice a2 b.parts.length c2,.slice a3 b.apart.length c3,.slice a4 b.aa.length c4]):=by rw[<-Cb];exact aJ.new _ _ _
 have U7:Hid (Below A2.heap.size A2 A4):=by rw[<-Cb];exact kB.out.alloc kB.out.size _
 refine(U6.out A4 (JA.out.trans (U7.out.mono JA.out.size))).mono ?_;rintro e w2 ⟨rfl,iN⟩;have jM:Hid (Below A4.heap.size A4 w2):=iN;clear z0 z1 z2 z3 z4 iN Cb;have z0:w2.cell? ⟨w1.heap.size,0,none⟩=some (.int .i64 b.am):=(Cc.out.below jM.out Cc.out.lt).cell 0 rfl;have z1:w2.cell? ⟨w1.heap.size,1,none⟩=some (.int .i64 b.places):=(Cc.out.below jM.out Cc.out.lt).cell 1 rfl;have z2:w2.cell? ⟨w1.heap.size,2,none⟩=some (.slice a2 b.parts.length c2):=(Cc.out.below jM.out Cc.out.lt).cell 2 rfl;have z3:w2.cell? ⟨w1.heap.size,3,none⟩=some (.slice a3 b.apart.length c3):=(Cc.out.below jM.out Cc.out.lt).cell 3 rfl;have z4:w2.cell? ⟨w1.heap.size,4,none⟩=some (.slice a4 b.aa.length c4):=(Cc.out.below jM.out Cc.out.lt).cell 4 rfl;have LZ:Hid (Below A2.heap.size A2 w2):=U7.out.trans (jM.out.mono U7.out.size);have Rq:Hid (Below w.heap.size w w2):=JA.out.trans (LZ.out.mono JA.out.size);go_wp2_with fail
 refine(zP w2 b a2 c2 _ _ ag (HB.out.later (Kp.of Rq.out)) HV.out (fun X t hX=>LY.out X t (Rq.out.trans (hX.mono Rq.out.size)))).mono ?_;rintro e w3 ⟨⟨v5,rfl,PI⟩,Hl⟩
 have HV5:Hid (∀W',aj [w.heap.size+1] w3 W'->eu 5 W' v5 (bI b ag)):=fun W' hk=>eu.ka El Hk (bT PI fun k e=>by
  have h1:=aR PI k e;have h2:=LZ.out.size;refine hk.block k h1.2 ?_;simp;omega)
 have HFR:Hid (rx w v5):=rx.of PI Rq.out.size;have ug:Hid (Below w2.heap.size w2 w3):=Hl;have PJ:Hid (Below A2.heap.size A2 w3):=LZ.out.trans (ug.out.mono LZ.out.size);have wD:Hid (aJ w3 (w.heap.size+1) 86 #[.int .i64 0,.int .i64 0,.slice none 0 0,.slice none 0 0,.slice none 0 0,.slice none 0 0]):=Xt.out.below PJ.out Xt.out.lt;have PK:Hid (aJ w3 w1.heap.size 79 #[.int .i64 b.am,.int .i64 b.places,.slice a2 b.parts.length c2,.slice a3 b.apart.length c3,.slice a4 b.aa.length c4]):=Cc.out.below (jM.out.trans (ug.out.mono jM.out.size)) Cc.out.lt;have Hm:Hid (Below w.heap.size w w3):=JA.out.trans (PJ.out.mono JA.out.size);obtain⟨a5,c5,rfl⟩:=cQ PI;clear z0 z1 z2 z3 z4 Hl PI;have z0:w3.cell? ⟨w1.heap.size,0,none⟩=some (.int .i64 b.am):=PK.out.cell 0 rfl;have z1:w3.cell? ⟨w1.heap.size,1,none⟩=some (.int .i64 b.places):=PK.out.cell 1 rfl;have z2:w3.cell? ⟨w1.heap.size,2,none⟩=some (.slice a2 b.parts.length c2):=PK.out.cell 2 rfl;have z3:w3.cell? ⟨w1.heap.size,3,none⟩=some (.slice a3 b.apart.length c3):=PK.out.cell 3 rfl;have z4:w3.cell? ⟨w1.heap.size,4,none⟩=some (.slice a4 b.aa.length c4):=PK.out.cell 4 rfl;have f0:w3.frozen? ⟨w.heap.size+1,0,none⟩=false:=wD.out.cr 0;have f1:w3.frozen? ⟨w.heap.size+1,1,none⟩=false:=wD.out.cr 1;have f2:w3.frozen? ⟨w.heap.size+1,2,none⟩=false:=wD.out.cr 2;have f3:w3.frozen? ⟨w.heap.size+1,3,none⟩=false:=wD.out.cr 3;have f4:w3.frozen? ⟨w.heap.size+1,4,none⟩=false:=wD.out.cr 4;have f5:w3.frozen? ⟨w.heap.size+1,5,none⟩=false:=wD.out.cr 5;have t0:w3.cell? ⟨w.heap.size+1,0,none⟩=some (.int .i64 0):=wD.out.cell 0 rfl;have t1:w3.cell? ⟨w.heap.size+1,1,none⟩=some (.int .i64 0):=wD.out.cell 1 rfl;have t2:w3.cell? ⟨w.heap.size+1,2,none⟩=some (.slice none 0 0):=wD.out.cell 2 rfl;have t3:w3.cell? ⟨w.heap.size+1,3,none⟩=some (.slice none 0 0):=wD.out.cell 3 rfl;have t4:w3.cell? ⟨w.heap.size+1,4,none⟩=some (.slice none 0 0):=wD.out.cell 4 rfl;have t5:w3.cell? ⟨w.heap.size+1,5,none⟩=some (.slice none 0 0):=wD.out.cell 5 rfl;have hlen:=mo HV.out ag;by_cases h0:(bU ag b.parts b.parts.length 0 (fun _=>0))=[]
 .have U8:Hid (bI b ag=[]):=h0;rw[h0]at*;simp only[List.length_nil];go_wp2_with fail
  obtain⟨WF,qq⟩:∃W,((((((w3.setCell ⟨w.heap.size+1,0,none⟩ (.int .i64 0)).setCell ⟨w.heap.size+1,1,none⟩ (.int .i64 0)).setCell ⟨w.heap.size+1,2,none⟩ (.slice none 0 0)).setCell
   ⟨w.heap.size+1,3,none⟩ (.slice none 0 0)).setCell ⟨w.heap.size+1,4,none⟩ (.slice none 0 0)).setCell ⟨w.heap.size+1,5,none⟩ (.slice none 0 0))=W:=⟨_,rfl⟩
  obtain⟨lq,Em⟩:=vT (.int .i64 0) (.int .i64 0) (.slice none 0 0) (.slice none 0 0) (.slice none 0 0) (.slice none 0 0) wD.out;rw[qq]at lq Em⊢;have Hn:Below w.heap.size w WF:=Hm.out.trans (Em.below (by simp) Hm.out.size);have q0:=lq.cell 0 rfl;have q1:=lq.cell 1 rfl;have q2:=lq.cell 2 rfl;have q3:=lq.cell 3 rfl;have q4:=lq.cell 4 rfl;have q5:=lq.cell 5 rfl;refine bodyPost_ret (v:=.tuple #[Jz,.int .i64 9]) ?_ rfl ⟨.inl ⟨U8.out,rfl⟩,Hn⟩;rw[results_cell_tmp rfl];go_simp
 .have fv:0<(bU ag b.parts b.parts.length 0 (fun _=>0)).length:=List.length_pos_iff.2 h0;have U8:Hid (bI b ag≠ []):=h0;generalize Fg:(bU ag b.parts b.parts.length 0 (fun _=>0)).length=ln at*;have hln:¬((ln:Int)=0):=by omega
  have zbg:((ln:Int)==0)=false:=by simp;omega
  go_wp2_with fail
  obtain⟨WF,qq⟩:∃W,((((((w3.setCell ⟨w.heap.size+1,0,none⟩ (.int .i64 b.am)).setCell ⟨w.heap.size+1,1,none⟩ (.int .i64 b.places)).setCell ⟨w.heap.size+1,2,none⟩ (.slice a2 b.parts.length c2)).setCell
   ⟨w.heap.size+1,3,none⟩ (.slice a3 b.apart.length c3)).setCell ⟨w.heap.size+1,4,none⟩ (.slice a4 b.aa.length c4)).setCell ⟨w.heap.size+1,5,none⟩ (.slice a5 ln c5))=W:=⟨_,rfl⟩
  obtain⟨lq,Em⟩:=vT (.int .i64 b.am) (.int .i64 b.places) (.slice a2 b.parts.length c2) (.slice a3 b.apart.length c3) (.slice a4 b.aa.length c4) (.slice a5 ln c5) wD.out;rw[qq]at lq Em⊢;have Hn:Below w.heap.size w WF:=Hm.out.trans (Em.below (by simp) Hm.out.size);have q0:=lq.cell 0 rfl;have q1:=lq.cell 1 rfl;have q2:=lq.cell 2 rfl;have q3:=lq.cell 3 rfl;have q4:=lq.cell 4 rfl;have q5:=lq.cell 5 rfl;refine bodyPost_ret (v:=.tuple #[PH b (.slice a2 b.parts.length c2) (.slice a3 b.apart.length c3) (.slice a4 b.aa.length c4) (.slice a5 ln c5),.int .i64 0]) ?_ rfl ⟨.inr ⟨U8.out,a5,c5,by rw[Fg],by rw[Fg];exact HV5.out WF Em,by rw[Fg];exact HFR.out⟩,Hn⟩;rw[results_cell_tmp rfl];go_simp
theorem En (w:World) (b:aS) (v:Value) (a2:Option Addr) (c2:Nat) (v3 v4:Value) (ag:(Nat->Int)->Bool) (MU:v=.agg #[.int .i64 b.am,.int .i64 b.places,.slice a2 b.parts.length c2,v3,v4]) (hb:ar w v b) (hv:Valid b) (hc:nH w)
 (lA:∀X t,Below w.heap.size w X->Calls ZP 114 #[v,.agg (tick t)] X (eX X (.bool (ag t)))):
 Calls ZP 55 #[v,.func (.func 56) #[] #[]] w (vU w b (.slice a2 b.parts.length c2) v3 v4 (bI b ag)):=
 ry 56 ZC56 w b v a2 c2 v3 v4 ag MU hb hv hc #[] lA fun X _=>by subst MU;exact vS X _ _ _ _ _
def bare (l:List Part) (i:Nat):List Part:=match l[i]? with|some x=>l.set i {x with fits:=[]}|none=>l
abbrev tC (w:World) (v:Value) (ag:(Nat->Int)->Bool):Prop:=∀X t,Below w.heap.size w X->Calls ZP 114 #[v,.agg (tick t)] X (eX X (.bool (ag t)))
theorem ar.ls (h:ar w v b):∃a2 c2 a3 c3 a4 c4,v=.agg #[.int .i64 b.am,.int .i64 b.places,.slice a2 b.parts.length c2,.slice a3 b.apart.length c3,.slice a4 b.aa.length c4]:=by
 obtain⟨v2,v3,v4,rfl,⟨a2,c2,⟨rfl,_,_,_,_⟩,_⟩,⟨a3,c3,⟨rfl,_,_,_,_⟩,_⟩,⟨a4,c4,⟨rfl,_,_,_,_⟩,_⟩⟩:=h;exact⟨a2,c2,a3,c3,a4,c4,rfl⟩
theorem aJ.same {t:TypeId} {cs:Array Value} {i:Nat} (h:aJ w g t cs) (hv:cs[i]?=some v):w.setCell ⟨g,i,none⟩ v=w:=by
 have e:(w.setCell ⟨g,i,none⟩ v).heap=w.heap:=by
  refine Array.ext_getElem? fun k=>?_;by_cases hk:k=g
  .subst hk;have h1:_=_:=h.set i v
   have h2:cs.setIfInBounds i v=cs:=by
    refine Array.ext_getElem? fun j=>?_;by_cases hj:i=j
    .subst hj;obtain⟨ap,hx⟩:=Array.getElem?_eq_some_iff.1 hv;rw[Array.getElem?_setIfInBounds_self_of_lt ap,hv]
    .rw[Array.getElem?_setIfInBounds_ne hj]
   rw[h2]at h1;exact h1.trans h.symm
  .exact Below.heap_setCell _ _ _ _ hk
 show({w with heap:=(w.setCell ⟨g,i,none⟩ v).heap}:World)=w;rw[e]
theorem dM {B s:Nat} {e:TypeId} {xs:List Value} (h:w.ownsRow B e s v n xs) (hn:0<n):∃g cap,v=.slice (some ⟨g,0,none⟩) n cap/\B<=g/\g<w.heap.size/\cap<=maxLen/\n<=cap:=by
 obtain⟨_,⟨_,h0⟩|⟨g,cap,cur,rfl,hb,hg,hle,kL,_⟩⟩:=h
 .omega
 .exact⟨g,cap,rfl,hb,(Array.getElem?_eq_some_iff.1 hg).1,kL,hle⟩
theorem ar.zR {x y:Int} {v2 v3 v4:Value} (h:ar w (.agg #[.int .i64 x,.int .i64 y,v2,v3,v4]) b):bB w v2 b.parts:=by
 obtain⟨_,_,_,e,h2,h3,_⟩:=h;simp only[Value.agg.injEq,Array.mk.injEq,List.cons.injEq,true_and,and_true]at e;obtain⟨_,_,rfl,_,_⟩:=e;exact h2
theorem bB.first {a:Option Addr} {c:Nat} {l:List Part} (h:bB w (.slice a n c) l) (hl:0<l.length):∃blk off,a=some ⟨blk,off,none⟩:=by
 obtain⟨a',c',h1,h2⟩:=h;have e:=h1.eq;simp only[Value.slice.injEq]at e;obtain⟨rfl,_,rfl⟩:=e;obtain⟨⟨blk,off,sp⟩,x,rfl,hx,x0,_⟩:=h1.elem h2 (k:=0) hl;obtain rfl:sp=none:=x0.1;exact⟨blk,off,rfl⟩
end Go.Proofs.Cz
