/- A part. Conditions: none. -/
import Derived.Test.YtehbindidbgacaaGreatDoorT31
import Derived.Laws.ResultCell
set_option linter.all false
set_option maxHeartbeats 8000000
set_option maxRecDepth 100000
namespace Go.Proofs.Cz
open Go.RowKit
variable {L l:List (Nat->Int)} {N g k:Nat} {b:an} {m t t0:Nat->Int} {v:Value} {w:World}
theorem zD (w:World) (a b c d e:Value):Calls ZP 54 #[.agg #[a,b,c,d,e]] w (cD w (.int .i64 0)):=by
 go_enter ZF54,Tryz.ntmps54
 go_wp2
 go_ret;exact⟨rfl,(ab.alloc [] w _).below (by simp) (Nat.le_refl _)⟩
abbrev B8 (b:an) (v2 v3 v4 v5:Value):Value:=.agg #[.int .i64 b.ah,.int .i64 b.places,v2,v3,v4,v5]
abbrev vb:Value:=.agg #[.int .i64 0,.int .i64 0,.slice none 0 0,.slice none 0 0,.slice none 0 0,.slice none 0 0]
theorem wU {W:World} {t:Nat} {c0 c1 c2 c3 c4 c5:Value} (v0 v1 v2 v3 v4 v5:Value) (h:aC W g t #[c0,c1,c2,c3,c4,c5]):
 aC ((((((W.setCell ⟨g,0,none⟩ v0).setCell ⟨g,1,none⟩ v1).setCell ⟨g,2,none⟩ v2).setCell ⟨g,3,none⟩ v3).setCell ⟨g,4,none⟩ v4).setCell ⟨g,5,none⟩ v5) g t #[v0,v1,v2,v3,v4,v5]/\
 ab [g] W ((((((W.setCell ⟨g,0,none⟩ v0).setCell ⟨g,1,none⟩ v1).setCell ⟨g,2,none⟩ v2).setCell ⟨g,3,none⟩ v3).setCell ⟨g,4,none⟩ v4).setCell ⟨g,5,none⟩ v5):=
 ⟨(((((h.set 0 v0).set 1 v1).set 2 v2).set 3 v3).set 4 v4).set 5 v5,
  (((((ab.set W (by simp) v0).trans' (ab.set _ (by simp) v1)).trans' (ab.set _ (by simp) v2)).trans' (ab.set _ (by simp) v3)).trans' (ab.set _ (by simp) v4)).trans' (ab.set _ (by simp) v5)⟩
def sx (w:World) (b:an) (v2 v3 v4:Value) (L:List (Nat->Int)) (e:Ending) (w':World):Prop:=
 ((L=[]/\e=.returned (.tuple #[vb,.int .i64 9]))\/
  (L≠ []/\∃a c,e=.returned (.tuple #[B8 b v2 v3 v4 (.slice a L.length c),.int .i64 0])/\bh 5 w' (.slice a L.length c) L/\jd w (.slice a L.length c)))/\
 Below w.heap.size w w'
theorem lZ (f:Nat) (hf:∀(args:Array Value) (w:World),Sem.run ZP (Go.callFunc f args) w=.ok (.enter f args) w) (w:World) (b:an) (v:Value) (a2:Option Addr) (c2:Nat) (v3 v4:Value) (ag:(Nat->Int)->Bool) (F7:v=.agg #[.int .i64 b.ah,.int .i64 b.places,.slice a2 b.parts.length c2,v3,v4]) (hb:ap w v b) (hv:Valid b) (hc:Chk w)
 (cs:Array Value) (ie:∀X t,Below w.heap.size w X->Calls ZP 108 #[v,.agg (tick t)] X (cD X (.bool (ag t))))
 (bQ:∀X,Below w.heap.size w X->Calls ZP f (#[v]++cs) X (cD X (.int .i64 0))):
 Calls ZP 50 #[v,.func (.func f) #[] cs] w (sx w b (.slice a2 b.parts.length c2) v3 v4 (aD b ag)):=by
 subst F7;have HB:Hid (ap w (.agg #[.int .i64 b.ah,.int .i64 b.places,.slice a2 b.parts.length c2,v3,v4]) b):=hb;have HV:Hid (Valid b):=hv;obtain⟨_,_,_,AB,_,⟨a3,c3,⟨e3,_,_,_,_⟩,_⟩,⟨a4,c4,⟨e4,_,_,_,_⟩,_⟩⟩:=hb;simp only[Value.agg.injEq,Array.mk.injEq,List.cons.injEq,true_and,and_true]at AB;obtain⟨rfl,rfl,rfl⟩:=AB;subst e3 e4;obtain⟨A1,ba⟩:∃A,w.alloc (.cells #[.int .i64 b.ah,.int .i64 b.places,.slice a2 b.parts.length c2,.slice a3 b.apart.length c3,.slice a4 b.aa.length c4] 26)=A:=⟨_,rfl⟩
 obtain⟨A2,bN⟩:∃A,A1.alloc (.cells #[.int .i64 0,.int .i64 0,.slice none 0 0,.slice none 0 0,.slice none 0 0,.slice none 0 0] 93)=A:=⟨_,rfl⟩
 have eR:A1.heap.size=w.heap.size+1:=by rw[<-ba];simp
 have js:A2.heap.size=w.heap.size+2:=by rw[<-bN];simp[eR]
 have B9:Hid (aC A2 w.heap.size 26 #[.int .i64 b.ah,.int .i64 b.places,.slice a2 b.parts.length c2,.slice a3 b.apart.length c3,.slice a4 b.aa.length c4]):=by
  rw[<-bN];refine(ab.alloc [] _ _).box ?_ (by simp);rw[<-ba];exact aC.new _ _ _
 have XA:Hid (aC A2 (w.heap.size+1) 93 #[.int .i64 0,.int .i64 0,.slice none 0 0,.slice none 0 0,.slice none 0 0,.slice none 0 0]):=by rw[<-bN,<-eR];exact aC.new _ _ _
 have qY:Hid (Below w.heap.size w A2):=by rw[<-bN,<-ba];exact((ab.alloc [] _ _).kj _).below (by simp) (Nat.le_refl _)
 have HC:Hid (Chk w):=hc;have tV:Hid (∀X t,Below w.heap.size w X->Calls ZP 108 #[.agg #[.int .i64 b.ah,.int .i64 b.places,.slice a2 b.parts.length c2,.slice a3 b.apart.length c3,.slice a4 b.aa.length c4],.agg (tick t)] X (cD X (.bool (ag t)))):=ie;have z0:A2.cell? ⟨w.heap.size,0,none⟩=some (.int .i64 b.ah):=B9.out.cell 0 rfl;have z1:A2.cell? ⟨w.heap.size,1,none⟩=some (.int .i64 b.places):=B9.out.cell 1 rfl;have z2:A2.cell? ⟨w.heap.size,2,none⟩=some (.slice a2 b.parts.length c2):=B9.out.cell 2 rfl;have z3:A2.cell? ⟨w.heap.size,3,none⟩=some (.slice a3 b.apart.length c3):=B9.out.cell 3 rfl;have z4:A2.cell? ⟨w.heap.size,4,none⟩=some (.slice a4 b.aa.length c4):=B9.out.cell 4 rfl;have zbj:Hid (∀X,Below w.heap.size w X->Calls ZP f (#[.agg #[.int .i64 b.ah,.int .i64 b.places,.slice a2 b.parts.length c2,.slice a3 b.apart.length c3,.slice a4 b.aa.length c4]]++cs) X (cD X (.int .i64 0))):=bQ;clear hv hc ie bQ;go_enter ZF50,Tryz.ntmps50
 go_wp2_with fail
 refine(nf A2 _ b (HB.out.later (Kp.of qY.out)) HV.out (HC.out.later qY.out)).mono ?_;rintro e w1 ⟨⟨r,rfl,rfl⟩,bi⟩;have db:Hid (Below A2.heap.size A2 w1):=bi;clear z0 z1 z2 z3 z4 bi ba bN;have z0:w1.cell? ⟨w.heap.size,0,none⟩=some (.int .i64 b.ah):=(B9.out.below db.out B9.out.lt).cell 0 rfl;have z1:w1.cell? ⟨w.heap.size,1,none⟩=some (.int .i64 b.places):=(B9.out.below db.out B9.out.lt).cell 1 rfl;have z2:w1.cell? ⟨w.heap.size,2,none⟩=some (.slice a2 b.parts.length c2):=(B9.out.below db.out B9.out.lt).cell 2 rfl;have z3:w1.cell? ⟨w.heap.size,3,none⟩=some (.slice a3 b.apart.length c3):=(B9.out.below db.out B9.out.lt).cell 3 rfl;have z4:w1.cell? ⟨w.heap.size,4,none⟩=some (.slice a4 b.aa.length c4):=(B9.out.below db.out B9.out.lt).cell 4 rfl;go_wp2_with fail
 obtain⟨A4,tS⟩:∃A,w1.alloc (.cells #[.int .i64 b.ah,.int .i64 b.places,.slice a2 b.parts.length c2,.slice a3 b.apart.length c3,.slice a4 b.aa.length c4] 84)=A:=⟨_,rfl⟩
 rw[tS];have hs4:A4.heap.size=w1.heap.size+1:=by rw[<-tS];simp
 have DE:Hid (aC A4 w1.heap.size 84 #[.int .i64 b.ah,.int .i64 b.places,.slice a2 b.parts.length c2,.slice a3 b.apart.length c3,.slice a4 b.aa.length c4]):=by rw[<-tS];exact aC.new _ _ _
 have Ma:Hid (Below A2.heap.size A2 A4):=by rw[<-tS];exact db.out.alloc db.out.size _
 refine(zbj.out A4 (qY.out.trans (Ma.out.mono qY.out.size))).mono ?_;rintro e w2 ⟨rfl,fP⟩;have gE:Hid (Below A4.heap.size A4 w2):=fP;clear z0 z1 z2 z3 z4 fP tS;have z0:w2.cell? ⟨w1.heap.size,0,none⟩=some (.int .i64 b.ah):=(DE.out.below gE.out DE.out.lt).cell 0 rfl;have z1:w2.cell? ⟨w1.heap.size,1,none⟩=some (.int .i64 b.places):=(DE.out.below gE.out DE.out.lt).cell 1 rfl;have z2:w2.cell? ⟨w1.heap.size,2,none⟩=some (.slice a2 b.parts.length c2):=(DE.out.below gE.out DE.out.lt).cell 2 rfl;have z3:w2.cell? ⟨w1.heap.size,3,none⟩=some (.slice a3 b.apart.length c3):=(DE.out.below gE.out DE.out.lt).cell 3 rfl;have z4:w2.cell? ⟨w1.heap.size,4,none⟩=some (.slice a4 b.aa.length c4):=(DE.out.below gE.out DE.out.lt).cell 4 rfl;have Ca:Hid (Below A2.heap.size A2 w2):=Ma.out.trans (gE.out.mono Ma.out.size);have XB:Hid (Below w.heap.size w w2):=qY.out.trans (Ca.out.mono qY.out.size);go_wp2_with fail
 refine(wS w2 b a2 c2 _ _ ag (HB.out.later (Kp.of XB.out)) HV.out (fun X t hX=>tV.out X t (XB.out.trans (hX.mono XB.out.size)))).mono ?_;rintro e w3 ⟨⟨v5,rfl,Vj⟩,Fe⟩
 have HV5:Hid (∀W',ab [w.heap.size+1] w3 W'->bh 5 W' v5 (aD b ag)):=fun W' hk=>bh.dc IY L9 (aY Vj fun k e=>by
  have h1:=aE Vj k e;have h2:=Ca.out.size;refine hk.block k h1.2 ?_;simp;omega)
 have Qw:Hid (jd w v5):=jd.of Vj XB.out.size;have eM:Hid (Below w2.heap.size w2 w3):=Fe;have Qx:Hid (Below A2.heap.size A2 w3):=Ca.out.trans (eM.out.mono Ca.out.size);have wR:Hid (aC w3 (w.heap.size+1) 93 #[.int .i64 0,.int .i64 0,.slice none 0 0,.slice none 0 0,.slice none 0 0,.slice none 0 0]):=XA.out.below Qx.out XA.out.lt;have I0:Hid (aC w3 w1.heap.size 84 #[.int .i64 b.ah,.int .i64 b.places,.slice a2 b.parts.length c2,.slice a3 b.apart.length c3,.slice a4 b.aa.length c4]):=DE.out.below (gE.out.trans (eM.out.mono gE.out.size)) DE.out.lt;have Mb:Hid (Below w.heap.size w w3):=qY.out.trans (Qx.out.mono qY.out.size);obtain⟨a5,c5,rfl⟩:=dM Vj;clear z0 z1 z2 z3 z4 Fe Vj;have z0:w3.cell? ⟨w1.heap.size,0,none⟩=some (.int .i64 b.ah):=I0.out.cell 0 rfl;have z1:w3.cell? ⟨w1.heap.size,1,none⟩=some (.int .i64 b.places):=I0.out.cell 1 rfl;have z2:w3.cell? ⟨w1.heap.size,2,none⟩=some (.slice a2 b.parts.length c2):=I0.out.cell 2 rfl;have z3:w3.cell? ⟨w1.heap.size,3,none⟩=some (.slice a3 b.apart.length c3):=I0.out.cell 3 rfl;have z4:w3.cell? ⟨w1.heap.size,4,none⟩=some (.slice a4 b.aa.length c4):=I0.out.cell 4 rfl;have f0:w3.frozen? ⟨w.heap.size+1,0,none⟩=false:=wR.out.aI 0;have f1:w3.frozen? ⟨w.heap.size+1,1,none⟩=false:=wR.out.aI 1;have f2:w3.frozen? ⟨w.heap.size+1,2,none⟩=false:=wR.out.aI 2;have f3:w3.frozen? ⟨w.heap.size+1,3,none⟩=false:=wR.out.aI 3;have f4:w3.frozen? ⟨w.heap.size+1,4,none⟩=false:=wR.out.aI 4;have f5:w3.frozen? ⟨w.heap.size+1,5,none⟩=false:=wR.out.aI 5;have t0:w3.cell? ⟨w.heap.size+1,0,none⟩=some (.int .i64 0):=wR.out.cell 0 rfl;have t1:w3.cell? ⟨w.heap.size+1,1,none⟩=some (.int .i64 0):=wR.out.cell 1 rfl;have t2:w3.cell? ⟨w.heap.size+1,2,none⟩=some (.slice none 0 0):=wR.out.cell 2 rfl;have t3:w3.cell? ⟨w.heap.size+1,3,none⟩=some (.slice none 0 0):=wR.out.cell 3 rfl;have t4:w3.cell? ⟨w.heap.size+1,4,none⟩=some (.slice none 0 0):=wR.out.cell 4 rfl;have t5:w3.cell? ⟨w.heap.size+1,5,none⟩=some (.slice none 0 0):=wR.out.cell 5 rfl;have hlen:=ow HV.out ag;by_cases h0:(dk ag b.parts b.parts.length 0 (fun _=>0))=[]
 .have Vk:Hid (aD b ag=[]):=h0;rw[h0]at*;simp only[List.length_nil];go_wp2_with fail
  obtain⟨WF,kC⟩:∃W,((((((w3.setCell ⟨w.heap.size+1,0,none⟩ (.int .i64 0)).setCell ⟨w.heap.size+1,1,none⟩ (.int .i64 0)).setCell ⟨w.heap.size+1,2,none⟩ (.slice none 0 0)).setCell
   ⟨w.heap.size+1,3,none⟩ (.slice none 0 0)).setCell ⟨w.heap.size+1,4,none⟩ (.slice none 0 0)).setCell ⟨w.heap.size+1,5,none⟩ (.slice none 0 0))=W:=⟨_,rfl⟩
  obtain⟨iP,oH⟩:=wU (.int .i64 0) (.int .i64 0) (.slice none 0 0) (.slice none 0 0) (.slice none 0 0) (.slice none 0 0) wR.out;rw[kC]at iP oH⊢;have pv:Below w.heap.size w WF:=Mb.out.trans (oH.below (by simp) Mb.out.size);have q0:=iP.cell 0 rfl;have q1:=iP.cell 1 rfl;have q2:=iP.cell 2 rfl;have q3:=iP.cell 3 rfl;have q4:=iP.cell 4 rfl;have q5:=iP.cell 5 rfl;refine bodyPost_ret (v:=.tuple #[vb,.int .i64 9]) ?_ rfl ⟨.inl ⟨Vk.out,rfl⟩,pv⟩;rw[results_cell_tmp rfl];go_simp
 .have fp:0<(dk ag b.parts b.parts.length 0 (fun _=>0)).length:=List.length_pos_iff.2 h0;have Vk:Hid (aD b ag≠ []):=h0;generalize NT:(dk ag b.parts b.parts.length 0 (fun _=>0)).length=ln at*;have Vl:¬((ln:Int)=0):=by omega
  have zhi:((ln:Int)==0)=false:=by simp;omega
  go_wp2_with fail
  obtain⟨WF,kC⟩:∃W,((((((w3.setCell ⟨w.heap.size+1,0,none⟩ (.int .i64 b.ah)).setCell ⟨w.heap.size+1,1,none⟩ (.int .i64 b.places)).setCell ⟨w.heap.size+1,2,none⟩ (.slice a2 b.parts.length c2)).setCell
   ⟨w.heap.size+1,3,none⟩ (.slice a3 b.apart.length c3)).setCell ⟨w.heap.size+1,4,none⟩ (.slice a4 b.aa.length c4)).setCell ⟨w.heap.size+1,5,none⟩ (.slice a5 ln c5))=W:=⟨_,rfl⟩
  obtain⟨iP,oH⟩:=wU (.int .i64 b.ah) (.int .i64 b.places) (.slice a2 b.parts.length c2) (.slice a3 b.apart.length c3) (.slice a4 b.aa.length c4) (.slice a5 ln c5) wR.out;rw[kC]at iP oH⊢;have pv:Below w.heap.size w WF:=Mb.out.trans (oH.below (by simp) Mb.out.size);have q0:=iP.cell 0 rfl;have q1:=iP.cell 1 rfl;have q2:=iP.cell 2 rfl;have q3:=iP.cell 3 rfl;have q4:=iP.cell 4 rfl;have q5:=iP.cell 5 rfl;refine bodyPost_ret (v:=.tuple #[B8 b (.slice a2 b.parts.length c2) (.slice a3 b.apart.length c3) (.slice a4 b.aa.length c4) (.slice a5 ln c5),.int .i64 0]) ?_ rfl ⟨.inr ⟨Vk.out,a5,c5,by rw[NT],by rw[NT];exact HV5.out WF oH,by rw[NT];exact Qw.out⟩,pv⟩;rw[results_cell_tmp rfl];go_simp
theorem zE (w:World) (b:an) (v:Value) (a2:Option Addr) (c2:Nat) (v3 v4:Value) (ag:(Nat->Int)->Bool) (F7:v=.agg #[.int .i64 b.ah,.int .i64 b.places,.slice a2 b.parts.length c2,v3,v4]) (hb:ap w v b) (hv:Valid b) (hc:Chk w)
 (ie:∀X t,Below w.heap.size w X->Calls ZP 108 #[v,.agg (tick t)] X (cD X (.bool (ag t)))):
 Calls ZP 50 #[v,.func (.func 54) #[] #[]] w (sx w b (.slice a2 b.parts.length c2) v3 v4 (aD b ag)):=
 lZ 54 ZC54 w b v a2 c2 v3 v4 ag F7 hb hv hc #[] ie fun X _=>by subst F7;exact zD X _ _ _ _ _
def dB (m:Nat->Int) (N:Nat) (t0:Nat->Int) (L:List (Nat->Int)):Int:=L.foldl (fun a t=>min a (aq m t N)) (aq m t0 N)
def dC (m:Nat->Int) (N:Nat) (t0:Nat->Int) (L:List (Nat->Int)):Int:=L.foldl (fun a t=>max a (aq m t N)) (aq m t0 N)
def gV (N:Nat) (L:List (Nat->Int)) (m:Nat->Int):Int:=dC m N (L.headD fun _=>0) L.tail
def jO (N:Nat) (L:List (Nat->Int)) (m:Nat->Int):Int:=dB m N (L.headD fun _=>0) L.tail
theorem zF (m:Nat->Int) (N:Nat) (t0 t:Nat->Int) (L:List (Nat->Int)):dC m N t0 (L++[t])=max (dC m N t0 L) (aq m t N):=by simp[dC]
theorem zG (m:Nat->Int) (N:Nat) (t0 t:Nat->Int) (L:List (Nat->Int)):dB m N t0 (L++[t])=min (dB m N t0 L) (aq m t N):=by simp[dB]
noncomputable def aB (b:an) (L:List (Nat->Int)):List (Nat->Int):=(aK b).filter fun m=>decide (gV b.places.toNat L m<=b.ah)
def bare (l:List Part) (i:Nat):List Part:=match l[i]? with|some x=>l.set i {x with fits:=[]}|none=>l
theorem zH (h:l[k]?=some t):dC m N t0 (l.take (k+1))=max (dC m N t0 (l.take k)) (aq m t N):=by
 rw[List.take_add_one,h];exact zF ..
theorem zI (h:l[k]?=some t):dB m N t0 (l.take (k+1))=min (dB m N t0 (l.take k)) (aq m t N):=by
 rw[List.take_add_one,h];exact zG ..
theorem jP (w:World) (v2 v3 v4 v5:Value) (b:an) (N:Nat) (hN:b.places=N) (qe:N<=4) (L:List (Nat->Int)) (hL:bh 5 w v5 L) (bu:L≠ []) (m:Nat->Int) (hm:∀i,0<=m i/\m i<5) (ht:∀t∈L,∀i,0<=t i/\t i<=20):
 Calls ZP 62 #[B8 b v2 v3 v4 v5,.agg (bD m)] w (cD w (.agg #[.int .i64 (jO N L m),.int .i64 (gV N L m)])):=by
 obtain⟨t0,l,rfl⟩:∃t0 l,L=t0::l:=by cases L with
  |nil=>exact absurd rfl bu
  |cons a l=>exact⟨a,l,rfl⟩
 have HL:=hid hL;have HT:=hid ht;have HM:=hid hm;have HN:=hid hN;obtain⟨a,cap,hs,he⟩:=hL;obtain⟨⟨blk,off,sp⟩,t1,rfl,hx,qN⟩:=hs.elem he (k:=0) (by simp);simp at hx;subst hx;obtain rfl:sp=none:=(qN 0 (by omega)).1;have HE:Hid (bA w v5 (t0::l).length (some ⟨blk,off,none⟩) cap/\_):=⟨hs,he⟩
 obtain⟨rfl,hle,jx,_,_⟩:=hs;unfold maxLen at jx;clear ht hm bu;obtain⟨A1,ba⟩:=ex1 (w.alloc (.cells #[.int .i64 b.ah,.int .i64 b.places,v2,v3,v4,.slice (some ⟨blk,off,none⟩) (t0::l).length cap] 93));obtain⟨A2,bN⟩:=ex1 (A1.alloc (.cells (bD m) 107));obtain⟨A3,ii⟩:=ex1 (A2.alloc (.cells #[.int .i64 0,.int .i64 0] 43));have eR:=snew ba;have js:=snew2 bN eR;have KA:=snew2 ii js
 have B1:Hid (aC A3 w.heap.size 93 #[.int .i64 b.ah,.int .i64 b.places,v2,v3,v4,.slice (some ⟨blk,off,none⟩) (t0::l).length cap]):=by
  rw[<-ii];refine(ab.alloc [] _ _).box ?_ (by simp);rw[<-bN];refine(ab.alloc [] _ _).box ?_ (by simp);rw[<-ba];exact aC.new _ _ _
 have B2:Hid (aC A3 (w.heap.size+1) 107 (bD m)):=by
  rw[<-ii];refine(ab.alloc [] _ _).box ?_ (by simp);rw[<-bN,<-eR];exact aC.new _ _ _
 have B3:=bnew2 ii js;have HW:=wnew3 ba bN ii;obtain⟨z0,z1,z2,z3,z4,z5⟩:=B1.o.a6;obtain⟨y0,y1,y2,y3⟩:=B2.o.a4;have r0:∀X:aj A3,X.1.cell? ⟨blk,off,none⟩=some (.int .i64 (t0 0)):=fun X=>X.cell (by simpa using((qN 0 (by omega)).later (Kp.of HW.o)).2);have r1:∀X:aj A3,X.1.cell? ⟨blk,off+1,none⟩=some (.int .i64 (t0 1)):=fun X=>X.cell (by simpa using((qN 1 (by omega)).later (Kp.of HW.o)).2);have r2:∀X:aj A3,X.1.cell? ⟨blk,off+2,none⟩=some (.int .i64 (t0 2)):=fun X=>X.cell (by simpa using((qN 2 (by omega)).later (Kp.of HW.o)).2);have r3:∀X:aj A3,X.1.cell? ⟨blk,off+3,none⟩=some (.int .i64 (t0 3)):=fun X=>X.cell (by simpa using((qN 3 (by omega)).later (Kp.of HW.o)).2);have r4:∀X:aj A3,X.1.cell? ⟨blk,off+4,none⟩=some (.int .i64 (t0 4)):=fun X=>X.cell (by simpa using((qN 4 (by omega)).later (Kp.of HW.o)).2)
 have m9:∀X:aj A3,Calls ZP 96 #[.agg #[.int .i64 b.ah,.int .i64 b.places,v2,v3,v4],.agg (bD m),.agg (tick t0)] X.1 (fun e fT=>e=.returned (.int .i64 (aq m t0 N))/\∃Y:aj A3,fT=Y.1):=fun X=>
  (zy X.1 v2 v3 v4 b N HN.o qe m t0 (fun i _=>HM.o i) (HT.o t0 (by simp))).mono fun e w' h=>⟨h.1,X.on h.2⟩
 simp only[bD,tick]at bN m9⊢;simp only[List.length_cons]at ba z5 hle⊢;have JU:((l.length+1:Nat):Int)=(l.length:Int)+1:=by omega
 clear qN he hN;go_enter ZF62,Tryz.ntmps62
 go_wp2_with fail
 refine am (by kernel_rfl) (by kernel_rfl) ?_;repeat(go_big_quiet_step (first|(go_at_call 96;exact m9 _)))
 refine wpQuiet_nil ?_;rintro _ ⟨X,rfl⟩;have NU:=HW.t X.2;obtain⟨W,hW⟩:=ex1 (X.1);rw[hW];have HK:Hid (Below A3.heap.size A3 W):=by rw[<-hW];exact X.2
 obtain⟨W1,zp⟩:=ex1 (W.alloc (.cells #[.int .i64 (aq m t0 N),.int .i64 (aq m t0 N)] 43));have x5:W.cell? ⟨w.heap.size,5,none⟩=some (.slice (some ⟨blk,off,none⟩) (l.length+1) cap):=by rw[<-hW];exact z5 X
 have x5':W1.cell? ⟨w.heap.size,5,none⟩=some (.slice (some ⟨blk,off,none⟩) (l.length+1) cap):=by
  rw[<-zp];exact(dU (by have:=HK.o.size;show w.heap.size<_;omega) _).trans x5
 rw[hW]at NU;clear m9 z0 z1 z2 z3 z4 z5 y0 y1 y2 y3 r0 r1 r2 r3 r4 hW X x5;by_cases Zz:cap=1
 .have J0:l=[]:=List.eq_nil_of_length_eq_zero (by omega);subst J0;have q0:W1.cell? ⟨W.heap.size,0,none⟩=some (.int .i64 (aq m t0 N)):=by rw[<-zp];exact(aC.new W 43 _).cell 0 rfl
  have q1:W1.cell? ⟨W.heap.size,1,none⟩=some (.int .i64 (aq m t0 N)):=by rw[<-zp];exact(aC.new W 43 _).cell 1 rfl
  go_wp2_with fail
  go_loopw [24] (fun i wr=>i=.int .i64 0/\Hid (aC wr W.heap.size 43 #[.int .i64 (dB m N t0 []),.int .i64 (dC m N t0 [])])/\Hid (ab [W.heap.size] W wr)) (fun _ _=>0)
  case atStart=>exact⟨rfl,by rw[<-zp];exact aC.new W 43 _,by rw[<-zp];exact ab.alloc _ _ _⟩
  case round=>
   obtain⟨rfl,td,vd⟩:=hrel;have nr:aC wr (w.heap.size+1+1) 43 #[.int .i64 0,.int .i64 0]:=vd.o.box ((ab.of (O:=[]) HK.o).box B3.o (by simp)) (by have:=HK.o.size;simp;omega);have p0:=nr.cell 0 rfl;have p1:=nr.cell 1 rfl;have p2:=nr.aI 0;have p3:=nr.aI 1;have q0:=td.o.cell 0 rfl;have q1:=td.o.cell 1 rfl;go_wp2
   obtain⟨WF,kC⟩:=ex1 ((wr.setCell ⟨w.heap.size+1+1,0,none⟩ (.int .i64 (dB m N t0 []))).setCell ⟨w.heap.size+1+1,1,none⟩ (.int .i64 (dC m N t0 [])));have iP:aC WF (w.heap.size+1+1) 43 #[.int .i64 (dB m N t0 []),.int .i64 (dC m N t0 [])]:=by rw[<-kC];exact(nr.set 0 _).set 1 _
   have oH:ab [w.heap.size+1+1] wr WF:=by rw[<-kC];exact(ab.set wr (by simp) _).trans' (ab.set _ (by simp) _)
   have pv:Below w.heap.size w WF:=NU.o.trans ((vd.o.below (by have:=HK.o.size;simp;omega) NU.o.size).trans (oH.below (by simp;omega) (by have:=vd.o.size;have:=NU.o.size;omega)));have u0:=iP.cell 0 rfl;have u1:=iP.cell 1 rfl;rw[kC];refine bodyPost_ret (v:=.agg #[.int .i64 (jO N (t0:: []) m),.int .i64 (gV N (t0:: []) m)]) ?_ rfl ⟨rfl,pv⟩;rw[dA rfl];go_simp;exact⟨rfl,rfl⟩
 .go_wp2_with fail
  go_loopw [24] (fun i wr=>∃k:Nat,k<=l.length/\i=.int .i64 k/\Hid (aC wr W.heap.size 43 #[.int .i64 (dB m N t0 (l.take k)),.int .i64 (dC m N t0 (l.take k))])/\Hid (ab [W.heap.size] W wr)) (fun i _=>l.length-(intOf i).toNat)
  case atStart=>exact⟨0,Nat.zero_le _,rfl,by rw[<-zp];exact aC.new W 43 _,by rw[<-zp];exact ab.alloc _ _ _⟩
  case round=>
   obtain⟨k,hk,rfl,td,vd⟩:=hrel;by_cases au:k<l.length
   .have hx:l[k]?=some l[k]:=List.getElem?_eq_getElem au;obtain⟨t,Qy⟩:=ex1 (l[k]);rw[Qy]at hx
    have aX:∀r,r<5->wr.cell? ⟨blk,off+5+k*5+r,none⟩=some (.int .i64 (t r)):=fun r hr=>by
     have h1:=(HE.o.2 _ rfl (k+1) t (by simpa using hx) r hr)
     have h2:=h1.later (Kp.of NU.o);have h3:=h2.lt;have h4:=h2.2;rw[show off+5+k*5+r=off+((k+1)*5+r) by omega];exact(World.cell?_of_block (w:=W) (a:=⟨blk,off+((k+1)*5+r),none⟩) (vd.o.block blk h3 (by simp at h3⊢;omega))).trans h4
    have r0:=aX 0 (by omega);have r1:=aX 1 (by omega);have r2:=aX 2 (by omega);have r3:=aX 3 (by omega);have r4:=aX 4 (by omega);simp only[Nat.add_zero]at r0;have HX:=hid hx
    have hWg:∀(g tt:Nat) (cs:Array Value),g<A3.heap.size->aC A3 g tt cs->aC wr g tt cs:=fun g tt cs hg h=>
     vd.o.box ((ab.of (O:=[]) HK.o).box h (by simp)) (by have:=HK.o.size;simp;omega)
    have BW1:=hWg _ _ _ (by omega) B1.o;have BW2:=hWg _ _ _ (by omega) B2.o;obtain⟨wt,Aj⟩:=ex1 (wr.alloc (.cells (tick t) 99));have Ff:=knew Aj;have Mc:Hid (aC wt W.heap.size 43 #[.int .i64 (dB m N t0 (l.take k)),.int .i64 (dC m N t0 (l.take k))]):=Ff.box td.o (by simp);have RX:Hid (ab [W.heap.size] W wt):=vd.o.trans (O':=[]) Ff (by simp);have BT1:=Ff.box BW1 (by simp);have BT2:=Ff.box BW2 (by simp);obtain⟨s0,s1,s2,s3,s4⟩:=BT1.c5;obtain⟨y0,y1,y2,y3⟩:=BT2.c4;have BX:=aC.new wr 99 (tick t);rw[Aj]at BX;obtain⟨e0,e1,e2,e3,e4⟩:=BX.c5;have hC:=zy wt v2 v3 v4 b N HN.o qe m t (fun i _=>HM.o i) (HT.o t (by have:=List.mem_of_getElem? HX.o;simp[this]));simp only[bD,tick]at hC Aj;have iO:(k:Int)<(l.length:Int):=by omega
    have B7:=hid au;clear aX hx Qy hWg BW1 BW2 Ff BT1 BT2 BX hk au;go_wp2_with fail
    refine hC.mono ?_;rintro e w2 ⟨rfl,fP⟩;have gE:Hid (ab [W.heap.size] W w2):=RX.o.trans (O':=[]) (ab.of fP) (by simp);have mC:Hid (aC w2 W.heap.size 43 #[.int .i64 (dB m N t0 (l.take k)),.int .i64 (dC m N t0 (l.take k))]):=(ab.of (O:=[]) fP).box Mc.o (by simp);have q0:=mC.o.cell 0 rfl;have q1:=mC.o.cell 1 rfl;have g0:=mC.o.aI 0;have g1:=mC.o.aI 1;have HLo:=zI (m:=m) (N:=N) (t0:=t0) HX.o;have HHi:=zH (m:=m) (N:=N) (t0:=t0) HX.o;have Vm:Hid (dB m N t0 (l.take (k+1))=min (dB m N t0 (l.take k)) (aq m t N)/\dC m N t0 (l.take (k+1))=max (dC m N t0 (l.take k)) (aq m t N)):=⟨HLo,HHi⟩
    clear hC fP HLo HHi s0 s1 s2 s3 s4 y0 y1 y2 y3 e0 e1 e2 e3 e4 r0 r1 r2 r3 r4 Aj;generalize dB m N t0 (l.take k)=lo at*;generalize dC m N t0 (l.take k)=hi at*;generalize aq m t N=tk at*;go_wp2
    have e1:(if tk<lo then tk else lo)=min lo tk:=by split<;>omega
    have e2:(if hi<tk then tk else hi)=max hi tk:=by split<;>omega
    have uj:=B7.o;rw[e1,e2];refine⟨⟨k+1,by omega,by go_num,?_,?_⟩,by simp[intOf];omega⟩
    .rw[Vm.o.1,Vm.o.2];exact(mC.o.set 0 _).set 1 _
    .exact gE.o.trans' ((ab.set _ (by simp) _).trans' (ab.set _ (by simp) _))
   .have e:k=l.length:=by omega
    subst e;rw[List.take_length]at td;have nr:aC wr (w.heap.size+1+1) 43 #[.int .i64 0,.int .i64 0]:=vd.o.box ((ab.of (O:=[]) HK.o).box B3.o (by simp)) (by have:=HK.o.size;simp;omega);have p0:=nr.cell 0 rfl;have p1:=nr.cell 1 rfl;have p2:=nr.aI 0;have p3:=nr.aI 1;have q0:=td.o.cell 0 rfl;have q1:=td.o.cell 1 rfl;go_wp2
    obtain⟨WF,kC⟩:=ex1 ((wr.setCell ⟨w.heap.size+1+1,0,none⟩ (.int .i64 (dB m N t0 l))).setCell ⟨w.heap.size+1+1,1,none⟩ (.int .i64 (dC m N t0 l)));have iP:aC WF (w.heap.size+1+1) 43 #[.int .i64 (dB m N t0 l),.int .i64 (dC m N t0 l)]:=by rw[<-kC];exact(nr.set 0 _).set 1 _
    have oH:ab [w.heap.size+1+1] wr WF:=by rw[<-kC];exact(ab.set wr (by simp) _).trans' (ab.set _ (by simp) _)
    have pv:Below w.heap.size w WF:=NU.o.trans ((vd.o.below (by have:=HK.o.size;simp;omega) NU.o.size).trans (oH.below (by simp;omega) (by have:=vd.o.size;have:=NU.o.size;omega)));have u0:=iP.cell 0 rfl;have u1:=iP.cell 1 rfl;rw[kC];refine bodyPost_ret (v:=.agg #[.int .i64 (jO N (t0::l) m),.int .i64 (gV N (t0::l) m)]) ?_ rfl ⟨rfl,pv⟩;rw[dA rfl];go_simp;exact⟨rfl,rfl⟩
theorem pw (w:World) (a b:Int):(Instr.field 43 (.agg #[.int .i64 a,.int .i64 b]) 1).run ZP w=.ok (.int .i64 b) w:=by
 have u:ZP.underlying 43=_:=(Tz.under 43).trans Tryz.underlying43;have a3:=Tryz.isAgg3;have z3:=Tryz.sizeOf3;simp[Instr.field,run_underlying u,asAgg,part,go_sem,a3,z3]
theorem Fg (w:World) (a b:Int):(Instr.field 43 (.agg #[.int .i64 a,.int .i64 b]) 0).run ZP w=.ok (.int .i64 a) w:=by
 have u:ZP.underlying 43=_:=(Tz.under 43).trans Tryz.underlying43;have a3:=Tryz.isAgg3;have z3:=Tryz.sizeOf3;simp[Instr.field,run_underlying u,asAgg,part,go_sem,a3,z3]
def Vn (s:Nat) (w:World) (L:List (Nat->Int)) (e:Ending) (w':World):Prop:=(∃v,e=.returned v/\bh s w' v L/\jd w v)/\Below w.heap.size w w'
noncomputable def dO (b:an) (L:List (Nat->Int)) (k:Nat):List (Nat->Int):=((aK b).take k).filter fun m=>decide (gV b.places.toNat L m<=b.ah)
theorem Cb (hx:(aK b)[k]?=some m) (h:gV b.places.toNat L m<=b.ah):dO b L (k+1)=dO b L k++[m]:=by
 unfold dO;rw[List.take_add_one,hx,List.filter_append];simp[h]
theorem Fh (hx:(aK b)[k]?=some m) (h:¬gV b.places.toNat L m<=b.ah):dO b L (k+1)=dO b L k:=by
 unfold dO;rw[List.take_add_one,hx,List.filter_append];simp[h]
theorem Cc (b:an) (L:List (Nat->Int)) (k:Nat):(dO b L k).length<=k:=by
 unfold dO;exact Nat.le_trans (List.length_filter_le _ _) (by simp;omega)
theorem sy (w:World) (b:an) (v2 v3 v4 v5:Value) (L:List (Nat->Int)) (hb:ap w (.agg #[.int .i64 b.ah,.int .i64 b.places,v2,v3,v4]) b) (hv:Valid b) (hL:bh 5 w v5 L) (bu:L≠ []) (ht:∀t∈L,∀i,0<=t i/\t i<=20):
 Calls ZP 55 #[B8 b v2 v3 v4 v5] w (Vn 4 w (aB b L)):=by
 have HB:=hid hb;have HV:Hid (Valid b):=hv;have HL:=hid hL;have HT:Hid (L≠ []/\∀t∈L,∀i,0<=t i/\t i<=20):=⟨bu,ht⟩
 obtain⟨i0,hi,pl,kM,mT⟩:=info_parts IT;obtain⟨A1,ba⟩:=ex1 (w.alloc (.cells #[.int .i64 b.ah,.int .i64 b.places,v2,v3,v4,v5] 93));have eR:=snew ba;have B1:=bnew ba;have HW:=wnew ba;have z0:=B1.o.cell 0 rfl;have z1:=B1.o.cell 1 rfl;have z2:=B1.o.cell 2 rfl;have z3:=B1.o.cell 3 rfl;have z4:=B1.o.cell 4 rfl;clear hb hv hL bu ht;go_enter ZF55,Tryz.ntmps55
 go_wp2_with fail
 refine(wP A1 _ b (HB.o.later (Kp.of HW.o)) HV.o).mono ?_;rintro e w1 ⟨⟨v8,rfl,hv8⟩,bi⟩;have HM:Hid (bh 4 w1 v8 (aK b)):=bh.dc DC IZ hv8;have db:=hid bi;have tT:=HW.t bi;clear hv8 bi z0 z1 z2 z3 z4;obtain⟨a8,c8,hs8,he8⟩:=HM.o;have HE:Hid (bA w1 v8 (aK b).length a8 c8/\_):=⟨hs8,he8⟩
 obtain⟨rfl,hle,jx,_,_⟩:=hs8;unfold maxLen at jx;have F6:=dy HV.o;obtain⟨nn,WK⟩:=ex1 ((aK b).length);have oG:=hid WK;rw[WK]at F6 hle⊢;clear he8 WK jx;go_wp2_with fail
 go_loopw [10,3] (fun i v wr=>∃k:Nat,k<=nn/\i=.int .i64 k/\Hid (wr.ownsRow w1.heap.size 107 4 v (dO b L k).length ((dO b L k).flatMap fun m=>(bD m).toList))/\Hid (Below w1.heap.size w1 wr)) (fun i _ _=>nn-(intOf i).toNat)
 case atStart=>exact⟨0,Nat.zero_le _,rfl,World.ownsRow_nil _ _ _ _,Below.refl _ _⟩
 case round=>
  obtain⟨k,hk,rfl,hO,hB⟩:=hrel;by_cases au:k<nn
  .obtain⟨⟨blk,off,sp⟩,m,rfl,hx,qN⟩:=HE.o.1.elem HE.o.2 (k:=k) (by rw[oG.o];exact au);obtain rfl:sp=none:=(qN 0 (by omega)).1;have aX:∀r,r<4->wr.cell? ⟨blk,off+(k*4+r),none⟩=some (.int .i64 (m r)):=fun r hr=>((qN r hr).later (Kp.of hB.o)).2;have r0:=aX 0 (by omega);have r1:=aX 1 (by omega);have r2:=aX 2 (by omega);have r3:=aX 3 (by omega);simp only[Nat.add_zero,<-Nat.add_assoc]at r0 r1 r2 r3;have HX:=hid hx;have iO:(k:Int)<(nn:Int):=by omega
   have B7:Hid (k<nn):=au;have L5:=tT.t hB.o;obtain⟨wt,Aj⟩:=ex1 (wr.alloc (.cells (bD m) 107));have bJ:=snew Aj;have RY:Hid (Below wr.heap.size wr wt):=by rw[<-Aj];exact(Below.refl _ _).alloc (Nat.le_refl _) _
   have BS:Hid (aC wt w.heap.size 93 #[.int .i64 b.ah,.int .i64 b.places,v2,v3,v4,v5]):=
    ((B1.o.below db.o B1.o.lt).below (hB.o.trans (RY.o.mono hB.o.size)) ((B1.o.below db.o B1.o.lt).lt))
   have BM:=bnew Aj;obtain⟨s0,s1,s2,s3,s4,s5⟩:=BS.o.a6;obtain⟨m0,m1,m2,m3⟩:=BM.o.a4
   have m9:∀X:aj wt,Calls ZP 62 #[B8 b v2 v3 v4 v5,.agg (bD m)] X.1 (fun e fT=>e=.returned (.agg #[.int .i64 (jO b.places.toNat L m),.int .i64 (gV b.places.toNat L m)])/\∃Y:aj wt,fT=Y.1):=fun X=>
    (jP X.1 v2 v3 v4 v5 b b.places.toNat (by have:=HV.o.places;omega) (by have:=HV.o.places;omega) L (((HL.o.later (Kp.of L5.o)).later (Kp.of RY.o)).later X.kp) HT.o.1 m (qf HV.o m (List.mem_of_getElem? HX.o)) HT.o.2).mono fun e w' h=>⟨h.1,X.on h.2⟩
   obtain⟨lo,mD⟩:=ex1 (jO b.places.toNat L m);obtain⟨rb,zJ⟩:∃x,gV b.places.toNat L m=x:=⟨_,rfl⟩
   have HHI:=hid zJ;rw[mD,zJ]at m9;simp only[bD]at m9 Aj;have Vl:=Cc b L k;clear aX qN hx mD zJ au;by_cases RZ:rb<=b.ah
   .go_wp2_with fail
    refine am (by kernel_rfl) (by kernel_rfl) ?_;go_big_quiet_step (fail)
    go_big_quiet_step (fail)
    go_big_quiet_step (first|(go_at_call 62;exact m9 _))
    have Qz:=fun w=>pw w lo rb;repeat(go_big_quiet_step (first|(go_at_call 62;exact m9 _)))
    refine wpQuiet_nil ?_;rintro _ ⟨X,rfl⟩;obtain⟨W,hW⟩:=ex1 (X.1);have HXt:Hid (Below wt.heap.size wt W):=by rw[<-hW];exact X.2
    have NV:=RY.t HXt.o;have XC:Hid (W.ownsRow w1.heap.size 107 4 u3 (dO b L k).length ((dO b L k).flatMap fun m=>(bD m).toList)):=aY hO.o fun j hj=>NV.o.block j (aE hO.o j hj).2;have n0:=m0 X;have n1:=m1 X;have n2:=m2 X;have n3:=m3 X;have bV:=NV.o.size;have Vo:=hB.o.size;rw[hW]at n0 n1 n2 n3⊢;clear s0 s1 s2 s3 s4 s5 m0 m1 m2 m3 m9 Qz hW X Aj;have zhj:∀x:Nat->Int,(bD x).toList.length=4:=fun _=>rfl
    go_wp2_with(at_builtin
                refine wpList_append_own _ rfl (.tmp 23) (.tmp 25) 102 rfl w1.heap.size 107 i0 (.agg #[.int .i64 0,.int .i64 0,.int .i64 0,.int .i64 0]) 4 32 Dz hi pl kM mT rfl (by decide) _ _ _ rfl (XC.o.alloc _) ⟨W.heap.size,0,none⟩ 1 1 (bD m).toList rfl rfl (DA (aC.new W 107 (bD m))) (DB m) (by unfold maxLen;omega) (by omega) (by simp;omega) ?_;intro v' w2 dQ fh _)
    have xB:Hid (w2.ownsRow w1.heap.size 107 4 v' (dO b L (k+1)).length ((dO b L (k+1)).flatMap fun m=>(bD m).toList)):=(by
     rw[Cb HX.o (by rw[HHI.o];exact RZ),List.length_append,List.flatMap_append];have h2:=dQ;simp only[List.flatMap_cons,List.flatMap_nil,List.append_nil,List.length_cons,List.length_nil];exact h2)
    have gE:Hid (Below w1.heap.size w1 w2):=Below.grown (Below.alloc (hB.o.trans (NV.o.mono hB.o.size)) (by omega) _) fh (by simp;omega) (ig XC.o);clear dQ fh;have uj:=B7.o;go_round
    case rel=>exact⟨k+1,by omega,by go_num,xB,gE⟩
    case measure=>simp[intOf];omega
   .go_wp2_with fail
    refine am (by kernel_rfl) (by kernel_rfl) ?_;have Qz:=fun w=>pw w lo rb;repeat(go_big_quiet_step (first|(go_at_call 62;exact m9 _)))
    refine wpQuiet_nil ?_;rintro _ ⟨X,rfl⟩;obtain⟨W,hW⟩:=ex1 (X.1);have HXt:Hid (Below wt.heap.size wt W):=by rw[<-hW];exact X.2
    have NV:=RY.t HXt.o
    have XC:Hid (W.ownsRow w1.heap.size 107 4 u3 (dO b L (k+1)).length ((dO b L (k+1)).flatMap fun m=>(bD m).toList)):=by
     rw[Fh HX.o (by rw[HHI.o];omega)];exact aY hO.o fun j hj=>NV.o.block j (aE hO.o j hj).2
    have gE:=hB.t NV.o;rw[hW];clear s0 s1 s2 s3 s4 s5 m0 m1 m2 m3 m9 Qz hW X Aj;have uj:=B7.o;go_wp2
    go_round
    case rel=>exact⟨k+1,by omega,by go_num,XC,gE⟩
    case measure=>simp[intOf];omega
  .have e:k=nn:=by omega
   have xB:Hid (bh 4 wr u3 (aB b L)):=by
    have:dO b L k=aB b L:=by unfold dO aB;rw[e,<-oG.o,List.take_length]
    rw[this]at hO;exact bh.dc DC IZ hO.o
   have Qw:Hid (jd w u3):=jd.of hO.o tT.o.size;have L5:=tT.t hB.o;go_wp2
   go_ret;exact⟨⟨_,rfl,xB.o,Qw.o⟩,L5.o⟩
def NW (w:World) (b:an) (L:List (Nat->Int)) (e:Ending) (w':World):Prop:=
 ((L=[]/\e=.returned (.tuple #[.int .i64 0,.int .i64 9]))\/(L≠ []/\e=.returned (.tuple #[.int .i64 (aB b L).length,.int .i64 0])))/\Below w.heap.size w w'
abbrev gW (w:World) (v:Value) (ag:(Nat->Int)->Bool):Prop:=∀X t,Below w.heap.size w X->Calls ZP 108 #[v,.agg (tick t)] X (cD X (.bool (ag t)))
theorem ap.et (h:ap w v b):∃a2 c2 a3 c3 a4 c4,v=.agg #[.int .i64 b.ah,.int .i64 b.places,.slice a2 b.parts.length c2,.slice a3 b.apart.length c3,.slice a4 b.aa.length c4]:=by
 obtain⟨v2,v3,v4,rfl,⟨a2,c2,⟨rfl,_,_,_,_⟩,_⟩,⟨a3,c3,⟨rfl,_,_,_,_⟩,_⟩,⟨a4,c4,⟨rfl,_,_,_,_⟩,_⟩⟩:=h;exact⟨a2,c2,a3,c3,a4,c4,rfl⟩
theorem Fi (w:World) (v:Value) (b:an) (ag:(Nat->Int)->Bool) (hb:ap w v b) (hv:Valid b) (hc:Chk w) (ie:gW w v ag):Calls ZP 13 #[v] w (NW w b (aD b ag)):=by
 have HB:=hid hb;have HV:Hid (Valid b):=hv;have HC:Hid (Chk w):=hc;obtain⟨a2,c2,a3,c3,a4,c4,rfl⟩:=hb.et;have tV:=hid ie;obtain⟨A1,ba⟩:=ex1 (w.alloc (.cells #[.int .i64 b.ah,.int .i64 b.places,.slice a2 b.parts.length c2,.slice a3 b.apart.length c3,.slice a4 b.aa.length c4] 26));have B1:=bnew ba;have HW:=wnew ba;have z0:=B1.o.cell 0 rfl;have z1:=B1.o.cell 1 rfl;have z2:=B1.o.cell 2 rfl;have z3:=B1.o.cell 3 rfl;have z4:=B1.o.cell 4 rfl;clear hb hv hc ie;go_enter ZF13,Tryz.ntmps13
 go_wp2_with fail
 refine(zE A1 b _ a2 c2 _ _ ag rfl (HB.o.later (Kp.of HW.o)) HV.o (HC.o.later HW.o) (fun X t hX=>tV.o X t (HW.o.trans (hX.mono HW.o.size)))).mono ?_;rintro e w1 ⟨xp,bi⟩;have db:=HW.t bi;have F6:=dy HV.o;clear bi z0 z1 z2 z3 z4 ba;rcases xp with⟨hL,rfl⟩|⟨hL,a,c,rfl,ox,_⟩
 .have HL:=hid hL;clear hL;go_wp2
  go_ret2;exact⟨.inl ⟨HL.o,rfl⟩,db.o.alloc db.o.size _⟩
 .obtain⟨A2,bN⟩:=ex1 (w1.alloc (.cells #[.int .i64 b.ah,.int .i64 b.places,.slice a2 b.parts.length c2,.slice a3 b.apart.length c3,.slice a4 b.aa.length c4,.slice a (aD b ag).length c] 93));have B2:=bnew bN;have qY:=wnew bN;have gE:=db.t qY.o;have hC:=sy A2 b _ _ _ _ (aD b ag) (HB.o.later (Kp.of gE.o)) HV.o (ox.later (Kp.of qY.o)) hL (jN HV.o ag);have z0:=B2.o.cell 0 rfl;have z1:=B2.o.cell 1 rfl;have z2:=B2.o.cell 2 rfl;have z3:=B2.o.cell 3 rfl;have z4:=B2.o.cell 4 rfl;have z5:=B2.o.cell 5 rfl;have HL:=hid hL;clear hL ox;go_wp2_with fail
  refine hC.mono ?_;rintro e w2 ⟨⟨vs,rfl,oV,_⟩,fP⟩;obtain⟨sa,sc,rfl,_,_⟩:=oV.slice;have eM:=gE.t fP;clear fP oV hC z0 z1 z2 z3 z4 z5 bN;go_wp2
  go_ret2;exact⟨.inr ⟨HL.o,rfl⟩,eM.o⟩
theorem fI {fn:Func} {p u u':Tmp} {ty:TypeId} (h:fn.results=#[.cell p ty,.tmp u,.tmp u']) (tmps:Array Value) (P:Program) (w:World):
 (results fn tmps).run P w=
   ((asAddr (tmps.getD p undef)).run P w).andThen fun a w₁=>((loadVar ty a).run P w₁).andThen fun v w₂=>.ok (.tuple #[v,tmps.getD u undef,tmps.getD u' undef]) w₂:=by
 simp only[results,h];simp[Sem.run_bind,Result.andThen]
theorem aC.same {t:TypeId} {cs:Array Value} {i:Nat} (h:aC w g t cs) (hv:cs[i]?=some v):w.setCell ⟨g,i,none⟩ v=w:=by
 have e:(w.setCell ⟨g,i,none⟩ v).heap=w.heap:=by
  refine Array.ext_getElem? fun k=>?_;by_cases hk:k=g
  .subst hk;have h1:_=_:=h.set i v
   have h2:cs.setIfInBounds i v=cs:=by
    refine Array.ext_getElem? fun j=>?_;by_cases hj:i=j
    .subst hj;obtain⟨au,hx⟩:=Array.getElem?_eq_some_iff.1 hv;rw[Array.getElem?_setIfInBounds_self_of_lt au,hv]
    .rw[Array.getElem?_setIfInBounds_ne hj]
   rw[h2]at h1;exact h1.trans h.symm
  .exact Below.heap_setCell _ _ _ _ hk
 show({w with heap:=(w.setCell ⟨g,i,none⟩ v).heap}:World)=w;rw[e]
def Vp (w:World) (b:an) (v2 v3 v4:Value) (L:List (Nat->Int)) (e:Ending) (w':World):Prop:=
 ((L=[]/\e=.returned (.tuple #[vb,.slice none 0 0,.int .i64 9]))\/(L≠ []/\aB b L=[]/\e=.returned (.tuple #[vb,.slice none 0 0,.int .i64 8]))\/
  (L≠ []/\aB b L≠ []/\∃a c vs,e=.returned (.tuple #[B8 b v2 v3 v4 (.slice a L.length c),vs,.int .i64 0])/\bh 5 w' (.slice a L.length c) L/\bh 4 w' vs (aB b L)/\jd w (.slice a L.length c)/\jd w vs))/\Below w.heap.size w w'
theorem lH (w:World) (v:Value) (b:an) (ag:(Nat->Int)->Bool) (a2:Option Addr) (c2:Nat) (v3 v4:Value) (F7:v=.agg #[.int .i64 b.ah,.int .i64 b.places,.slice a2 b.parts.length c2,v3,v4]) (hb:ap w v b) (hv:Valid b) (hc:Chk w) (ie:gW w v ag):
 Calls ZP 56 #[v] w (Vp w b (.slice a2 b.parts.length c2) v3 v4 (aD b ag)):=by
 subst F7;have HB:=hid hb;have HV:Hid (Valid b):=hv;have HC:Hid (Chk w):=hc;obtain⟨a2',Xw,a3,c3,a4,c4,AB⟩:=hb.et;simp only[Value.agg.injEq,Array.mk.injEq,List.cons.injEq,true_and,and_true]at AB;obtain⟨_,rfl,rfl⟩:=AB;have tV:=hid ie;obtain⟨A1,ba⟩:=ex1 (w.alloc (.cells #[.int .i64 b.ah,.int .i64 b.places,.slice a2 b.parts.length c2,.slice a3 b.apart.length c3,.slice a4 b.aa.length c4] 26));obtain⟨A2,bN⟩:=ex1 (A1.alloc (.cells #[.int .i64 0,.int .i64 0,.slice none 0 0,.slice none 0 0,.slice none 0 0,.slice none 0 0] 93));have eR:=snew ba;have js:=snew2 bN eR;have B1:=bnewk ba bN;have XA:=bnew2 bN eR;have HW:=wnew2 ba bN;have z0:=B1.o.cell 0 rfl;have z1:=B1.o.cell 1 rfl;have z2:=B1.o.cell 2 rfl;have z3:=B1.o.cell 3 rfl;have z4:=B1.o.cell 4 rfl;clear hb hv hc ie;go_enter ZF56,Tryz.ntmps56
 go_wp2_with fail
 refine(zE A2 b _ a2 c2 _ _ ag rfl (HB.o.later (Kp.of HW.o)) HV.o (HC.o.later HW.o) (fun X t hX=>tV.o X t (HW.o.trans (hX.mono HW.o.size)))).mono ?_;rintro e w1 ⟨xp,bi⟩;have db:=HW.t bi;have HR1:=hidb XA bi;have F6:=dy HV.o;have zhk:w.heap.size+1<w1.heap.size:=HR1.o.lt;clear bi z0 z1 z2 z3 z4 ba bN;rcases xp with⟨hL,rfl⟩|⟨hL,a,c,rfl,ox,fO⟩
 .have HL:=hid hL;clear hL;obtain⟨W,hW⟩:=ex1 (w1.alloc (.cells #[.int .i64 0,.int .i64 0,.slice none 0 0,.slice none 0 0,.slice none 0 0,.slice none 0 0] 93));have sA:=knew hW;have dF:=(bnew hW).o;have jQ:=sA.box HR1.o (by simp);have t0:=jQ.cell 0 rfl;have t1:=jQ.cell 1 rfl;have t2:=jQ.cell 2 rfl;have t3:=jQ.cell 3 rfl;have t4:=jQ.cell 4 rfl;have t5:=jQ.cell 5 rfl;have f0:=jQ.aI 0;have f1:=jQ.aI 1;have f2:=jQ.aI 2;have f3:=jQ.aI 3;have f4:=jQ.aI 4;have f5:=jQ.aI 5;have s0:=dF.cell 0 rfl;have s1:=dF.cell 1 rfl;have s2:=dF.cell 2 rfl;have s3:=dF.cell 3 rfl;have s4:=dF.cell 4 rfl;have s5:=dF.cell 5 rfl;have g0:=dF.aI 0;have g1:=dF.aI 1;have g2:=dF.aI 2;have g3:=dF.aI 3;have g4:=dF.aI 4;have g5:=dF.aI 5;have e0:=dF.same (i:=0) (v:=.int .i64 0) rfl;have e1:=dF.same (i:=1) (v:=.int .i64 0) rfl;have e2:=dF.same (i:=2) (v:=.slice none 0 0) rfl;have e3:=dF.same (i:=3) (v:=.slice none 0 0) rfl;have e4:=dF.same (i:=4) (v:=.slice none 0 0) rfl;have e5:=dF.same (i:=5) (v:=.slice none 0 0) rfl;have d0:=jQ.same (i:=0) (v:=.int .i64 0) rfl;have d1:=jQ.same (i:=1) (v:=.int .i64 0) rfl;have d2:=jQ.same (i:=2) (v:=.slice none 0 0) rfl;have d3:=jQ.same (i:=3) (v:=.slice none 0 0) rfl;have d4:=jQ.same (i:=4) (v:=.slice none 0 0) rfl;have d5:=jQ.same (i:=5) (v:=.slice none 0 0) rfl;go_wp2
  refine bodyPost_ret (v:=.tuple #[vb,.slice none 0 0,.int .i64 9]) ?_ rfl ⟨.inl ⟨HL.o,rfl⟩,db.o.trans (sA.below (by simp) db.o.size)⟩;rw[fI rfl];go_simp
 .obtain⟨W,hW⟩:=ex1 (w1.alloc (.cells #[.int .i64 b.ah,.int .i64 b.places,.slice a2 b.parts.length c2,.slice a3 b.apart.length c3,.slice a4 b.aa.length c4,.slice a (aD b ag).length c] 93));have B2:=bnew hW;have sA:=knew hW;have qY:Hid (Below w1.heap.size w1 W):=sA.below (by simp) (Nat.le_refl _);have gE:=db.t qY.o;have jQ:=sA.box HR1.o (by simp);have hC:=sy W b _ _ _ _ (aD b ag) (HB.o.later (Kp.of gE.o)) HV.o (ox.later (Kp.of qY.o)) hL (jN HV.o ag);have Md:Hid (bh 5 W (.slice a (aD b ag).length c) (aD b ag)):=ox.later (Kp.of qY.o);have z0:=B2.o.cell 0 rfl;have z1:=B2.o.cell 1 rfl;have z2:=B2.o.cell 2 rfl;have z3:=B2.o.cell 3 rfl;have z4:=B2.o.cell 4 rfl;have z5:=B2.o.cell 5 rfl;have HL:=hid hL;have Qw:=hid fO;clear hL ox fO;go_wp2_with fail
  refine hC.mono ?_;rintro e w2 ⟨⟨vs,rfl,oV,LF⟩,fP⟩;obtain⟨sa,sc,rfl,_,_⟩:=oV.slice;have qo:(aB b (aD b ag)).length<=(aK b).length:=List.length_filter_le _ _;have eM:=gE.t fP;have QB:=hid oV;have zbn:Hid (bh 5 w2 (.slice a (aD b ag).length c) (aD b ag)):=Md.o.later (Kp.of fP);have mC:aC w2 (w.heap.size+1) 93 #[.int .i64 0,.int .i64 0,.slice none 0 0,.slice none 0 0,.slice none 0 0,.slice none 0 0]:=jQ.below fP jQ.lt;have Ak:=hidb B2 fP;have zbo:=hid LF;have HsW:Hid (A2.heap.size<=W.heap.size):=(Nat.le_trans (by rw[js];omega) sA.size:A2.heap.size<=W.heap.size)
  clear fP oV hC z0 z1 z2 z3 z4 z5 hW jQ LF;by_cases h0:aB b (aD b ag)=[]
  .have HS:=hid h0;rw[h0];simp only[List.length_nil];have jQ:=mC;have t0:=jQ.cell 0 rfl;have t1:=jQ.cell 1 rfl;have t2:=jQ.cell 2 rfl;have t3:=jQ.cell 3 rfl;have t4:=jQ.cell 4 rfl;have t5:=jQ.cell 5 rfl;have f0:=jQ.aI 0;have f1:=jQ.aI 1;have f2:=jQ.aI 2;have f3:=jQ.aI 3;have f4:=jQ.aI 4;have f5:=jQ.aI 5;have d0:=jQ.same (i:=0) (v:=.int .i64 0) rfl;have d1:=jQ.same (i:=1) (v:=.int .i64 0) rfl;have d2:=jQ.same (i:=2) (v:=.slice none 0 0) rfl;have d3:=jQ.same (i:=3) (v:=.slice none 0 0) rfl;have d4:=jQ.same (i:=4) (v:=.slice none 0 0) rfl;have d5:=jQ.same (i:=5) (v:=.slice none 0 0) rfl;go_wp2
   refine bodyPost_ret (v:=.tuple #[vb,.slice none 0 0,.int .i64 8]) ?_ rfl ⟨.inr (.inl ⟨HL.o,HS.o,rfl⟩),eM.o⟩;rw[fI rfl];go_simp
  .have HS:=hid h0;have fp:0<(aB b (aD b ag)).length:=List.length_pos_iff.2 h0;obtain⟨ln,Vl⟩:=ex1 ((aB b (aD b ag)).length);have ve:=hid Vl;rw[Vl]at fp qo⊢;have xu:¬((ln:Int)=0):=by omega
   have ye:((ln:Int)==0)=false:=by simp;omega
   have zbp:Hid (aC w2 (w.heap.size+1) 93 #[.int .i64 0,.int .i64 0,.slice none 0 0,.slice none 0 0,.slice none 0 0,.slice none 0 0]):=mC;have zhm:w1.heap.size<w2.heap.size:=Ak.o.lt;have t0:=mC.cell 0 rfl;have t1:=mC.cell 1 rfl;have t2:=mC.cell 2 rfl;have t3:=mC.cell 3 rfl;have t4:=mC.cell 4 rfl;have t5:=mC.cell 5 rfl;have f0:=mC.aI 0;have f1:=mC.aI 1;have f2:=mC.aI 2;have f3:=mC.aI 3;have f4:=mC.aI 4;have f5:=mC.aI 5;have s0:=Ak.o.cell 0 rfl;have s1:=Ak.o.cell 1 rfl;have s2:=Ak.o.cell 2 rfl;have s3:=Ak.o.cell 3 rfl;have s4:=Ak.o.cell 4 rfl;have s5:=Ak.o.cell 5 rfl;clear mC h0 Vl;go_wp2
   obtain⟨WF,kC⟩:∃W,((((((w2.setCell ⟨w.heap.size+1,0,none⟩ (.int .i64 b.ah)).setCell ⟨w.heap.size+1,1,none⟩ (.int .i64 b.places)).setCell ⟨w.heap.size+1,2,none⟩ (.slice a2 b.parts.length c2)).setCell
    ⟨w.heap.size+1,3,none⟩ (.slice a3 b.apart.length c3)).setCell ⟨w.heap.size+1,4,none⟩ (.slice a4 b.aa.length c4)).setCell ⟨w.heap.size+1,5,none⟩ (.slice a (aD b ag).length c))=W:=⟨_,rfl⟩
   obtain⟨iP,oH⟩:=wU (.int .i64 b.ah) (.int .i64 b.places) (.slice a2 b.parts.length c2) (.slice a3 b.apart.length c3) (.slice a4 b.aa.length c4) (.slice a (aD b ag).length c) zbp.out;rw[kC]at iP oH⊢;have pv:Below w.heap.size w WF:=eM.o.trans (oH.below (by simp) eM.o.size);have q0:=iP.cell 0 rfl;have q1:=iP.cell 1 rfl;have q2:=iP.cell 2 rfl;have q3:=iP.cell 3 rfl;have q4:=iP.cell 4 rfl;have q5:=iP.cell 5 rfl;have hsW:=HsW.o;have qD:=Qw.o;have hfb:=zbo.o;have I1:=zbn.o;have hvb:=QB.o;rw[ve.o]at hfb hvb
   refine bodyPost_ret (v:=.tuple #[B8 b (.slice a2 b.parts.length c2) (.slice a3 b.apart.length c3) (.slice a4 b.aa.length c4) (.slice a (aD b ag).length c),.slice sa ln sc,.int .i64 0]) ?_ rfl
    ⟨.inr (.inr ⟨HL.o,HS.o,a,c,_,rfl,?_,?_,qD.le (by omega),hfb.le (by omega)⟩),pv⟩
   .rw[fI rfl];go_simp
   .exact I1.on fun k hk au=>by
     have h1:=qD k hk;exact oH.block k au (by simp;omega)
   .exact hvb.on fun k hk au=>by
     have h1:=hfb k hk;exact oH.block k au (by simp;omega)
def aQ (N:Nat) (m:Nat->Int):List Int:=(List.range N).map m
theorem zK (hN:N<=4) (h:aC w g 107 (bD m)):ao w (.slice (some ⟨g,0,none⟩) N 4) (aQ N m):=by
 have hl:(aQ N m).length=N:=by simp[aQ]
 refine⟨_,4,⟨by rw[hl],by rw[hl];exact hN,by unfold maxLen;omega,(fun h=>by cases h),fun b e=>.inr ⟨bD m,107,(0,0),by cases e;exact h⟩⟩,fun b e j x hj=>?_⟩;cases e;have nk:j<N:=by have:=(List.getElem?_eq_some_iff.1 hj).1;rwa [hl]at this
 have hx:x=m j:=by
  unfold aQ at hj;rw[List.getElem?_map,List.getElem?_range nk]at hj;simpa using hj.symm
 subst hx;refine⟨rfl,?_⟩;show w.cell? ⟨g,0+j,none⟩=_;rw[Nat.zero_add];exact h.cell j (gF (by omega) m)
theorem Fj {w':World} {blk off s:Nat} (h:∀r,r<s->At w ⟨blk,off,none⟩ (k*s+r) (.int .i64 (t r))) (hk:Kp w w'):∀r,r<s->w'.cell? ⟨blk,off+k*s+r,none⟩=some (.int .i64 (t r)):=fun r hr=>by
 have:=((h r hr).later hk).2;rwa [<-Nat.add_assoc]at this
end Go.Proofs.Cz
