/- A part. Conditions: none. -/
import Derived.Test.YtddlcmejelobdaaGreatDoorT32
import Derived.Laws.ResultCell
set_option linter.all false
set_option maxHeartbeats 8000000
set_option maxRecDepth 100000
namespace Go.Proofs.Cz
open Go.RowKit
variable {L l:List (Nat->Int)} {N g k:Nat} {b:ab} {m t t0:Nat->Int} {v:fu} {w:nq}
def Dw (w:nq) (a b c d e:fu):Calls ZP 52 #[.agg #[a,b,c,d,e]] w (bK w (.int .i64 0)):=by
 go_enter ZF52,Tryz.ntmps52
 go_wp2
 go_ret;exact⟨rfl,(aa.alloc [] w _).below (by simp) (zAB _)⟩
abbrev Gq (b:ab) (v2 v3 v4 v5:fu):fu:=.agg #[.int .i64 b.ak,.int .i64 b.ah,v2,v3,v4,v5]
abbrev gX:fu:=.agg #[.int .i64 0,.int .i64 0,.slice none 0 0,.slice none 0 0,.slice none 0 0,.slice none 0 0]
def Xd {W:nq} {t:Nat} {c0 c1 c2 c3 c4 c5:fu} (v0 v1 v2 v3 v4 v5:fu) (h:aA W g t #[c0,c1,c2,c3,c4,c5]):
 aA ((((((W.setCell ⟨g,0,none⟩ v0).setCell ⟨g,1,none⟩ v1).setCell ⟨g,2,none⟩ v2).setCell ⟨g,3,none⟩ v3).setCell ⟨g,4,none⟩ v4).setCell ⟨g,5,none⟩ v5) g t #[v0,v1,v2,v3,v4,v5]/\
 aa [g] W ((((((W.setCell ⟨g,0,none⟩ v0).setCell ⟨g,1,none⟩ v1).setCell ⟨g,2,none⟩ v2).setCell ⟨g,3,none⟩ v3).setCell ⟨g,4,none⟩ v4).setCell ⟨g,5,none⟩ v5):=
 ⟨(((((h.set 0 v0).set 1 v1).set 2 v2).set 3 v3).set 4 v4).set 5 v5,
  (((((aa.set W (by simp) v0).trans' (aa.set _ (by simp) v1)).trans' (aa.set _ (by simp) v2)).trans' (aa.set _ (by simp) v3)).trans' (aa.set _ (by simp) v4)).trans' (aa.set _ (by simp) v5)⟩
def NU (w:nq) (b:ab) (v2 v3 v4:fu) (L:List (Nat->Int)) (e:Ending) (w':nq):Prop:=
 ((L=[]/\e=.returned (.tuple #[gX,.int .i64 9]))\/
  (L≠ []/\∃a c,e=.returned (.tuple #[Gq b v2 v3 v4 (.slice a L.length c),.int .i64 0])/\bW 5 w' (.slice a L.length c) L/\kM w (.slice a L.length c)))/\
 Below w.heap.size w w'
def yN (f:Nat) (hf:∀(args:Array fu) (w:nq),Sem.run ZP (Go.callFunc f args) w=.ok (.enter f args) w) (w:nq) (b:ab) (v:fu) (a2:Option Addr) (c2:Nat) (v3 v4:fu) (ag:(Nat->Int)->Bool) (Ph:v=.agg #[.int .i64 b.ak,.int .i64 b.ah,.slice a2 b.ptz.length c2,v3,v4]) (hb:ar w v b) (hv:Valid b) (hc:jh w)
 (cs:Array fu) (km:∀X t,Below w.heap.size w X->Calls ZP 135 #[v,.agg (tick t)] X (bK X (.bool (ag t))))
 (bQ:∀X,Below w.heap.size w X->Calls ZP f (#[v]++cs) X (bK X (.int .i64 0))):
 Calls ZP 51 #[v,.func (.func f) #[] cs] w (NU w b (.slice a2 b.ptz.length c2) v3 v4 (an b ag)):=by
 subst Ph;have HB:Hid (ar w (.agg #[.int .i64 b.ak,.int .i64 b.ah,.slice a2 b.ptz.length c2,v3,v4]) b):=hb;have HV:Hid (Valid b):=hv;obtain⟨_,_,_,Bj,_,⟨a3,c3,⟨e3,_,_,_,_⟩,_⟩,⟨a4,c4,⟨e4,_,_,_,_⟩,_⟩⟩:=hb;simp only[Value.agg.injEq,zCO,zCB,zCK,zEC]at Bj;obtain⟨rfl,rfl,rfl⟩:=Bj;subst e3 e4;obtain⟨A1,bh⟩:∃A,w.alloc (.cells #[.int .i64 b.ak,.int .i64 b.ah,.slice a2 b.ptz.length c2,.slice a3 b.aL.length c3,.slice a4 b.aX.length c4] 26)=A:=⟨_,rfl⟩
 obtain⟨A2,bL⟩:∃A,A1.alloc (.cells #[.int .i64 0,.int .i64 0,.slice none 0 0,.slice none 0 0,.slice none 0 0,.slice none 0 0] 81)=A:=⟨_,rfl⟩
 have eL:A1.heap.size=w.heap.size+1:=by rw[<-bh];simp
 have j8:A2.heap.size=w.heap.size+2:=by rw[<-bL];simp[eL]
 have Bv:Hid (aA A2 w.heap.size 26 #[.int .i64 b.ak,.int .i64 b.ah,.slice a2 b.ptz.length c2,.slice a3 b.aL.length c3,.slice a4 b.aX.length c4]):=by
  rw[<-bL];refine(aa.alloc [] _ _).box ?_ (by simp);rw[<-bh];exact aA.new _ _ _
 have NV:Hid (aA A2 (w.heap.size+1) 81 #[.int .i64 0,.int .i64 0,.slice none 0 0,.slice none 0 0,.slice none 0 0,.slice none 0 0]):=by rw[<-bL,<-eL];exact aA.new _ _ _
 have qW:Hid (Below w.heap.size w A2):=by rw[<-bL,<-bh];exact((aa.alloc [] _ _).cU _).below (by simp) (zAB _)
 have HC:Hid (jh w):=hc;have Km:Hid (∀X t,Below w.heap.size w X->Calls ZP 135 #[.agg #[.int .i64 b.ak,.int .i64 b.ah,.slice a2 b.ptz.length c2,.slice a3 b.aL.length c3,.slice a4 b.aX.length c4],.agg (tick t)] X (bK X (.bool (ag t)))):=km;have z0:A2.cell? ⟨w.heap.size,0,none⟩=some (.int .i64 b.ak):=Bv.out.cell 0 rfl;have z1:A2.cell? ⟨w.heap.size,1,none⟩=some (.int .i64 b.ah):=Bv.out.cell 1 rfl;have z2:A2.cell? ⟨w.heap.size,2,none⟩=some (.slice a2 b.ptz.length c2):=Bv.out.cell 2 rfl;have z3:A2.cell? ⟨w.heap.size,3,none⟩=some (.slice a3 b.aL.length c3):=Bv.out.cell 3 rfl;have z4:A2.cell? ⟨w.heap.size,4,none⟩=some (.slice a4 b.aX.length c4):=Bv.out.cell 4 rfl;have Ko:Hid (∀X,Below w.heap.size w X->Calls ZP f (#[.agg #[.int .i64 b.ak,.int .i64 b.ah,.slice a2 b.ptz.length c2,.slice a3 b.aL.length c3,.slice a4 b.aX.length c4]]++cs) X (bK X (.int .i64 0))):=bQ;clear hv hc km bQ;go_enter ZF51,Tryz.ntmps51
 go_wp2_with fail
 refine(jz A2 _ b (HB.out.later (Kp.of qW.out)) HV.out (HC.out.later qW.out)).mono ?_;rintro e w1 ⟨⟨r,rfl,rfl⟩,bq⟩;have cV:Hid (Below A2.heap.size A2 w1):=bq;clear z0 z1 z2 z3 z4 bq bh bL;have z0:w1.cell? ⟨w.heap.size,0,none⟩=some (.int .i64 b.ak):=(Bv.out.below cV.out Bv.out.lt).cell 0 rfl;have z1:w1.cell? ⟨w.heap.size,1,none⟩=some (.int .i64 b.ah):=(Bv.out.below cV.out Bv.out.lt).cell 1 rfl;have z2:w1.cell? ⟨w.heap.size,2,none⟩=some (.slice a2 b.ptz.length c2):=(Bv.out.below cV.out Bv.out.lt).cell 2 rfl;have z3:w1.cell? ⟨w.heap.size,3,none⟩=some (.slice a3 b.aL.length c3):=(Bv.out.below cV.out Bv.out.lt).cell 3 rfl;have z4:w1.cell? ⟨w.heap.size,4,none⟩=some (.slice a4 b.aX.length c4):=(Bv.out.below cV.out Bv.out.lt).cell 4 rfl;go_wp2_with fail
 obtain⟨A4,pA⟩:∃A,w1.alloc (.cells #[.int .i64 b.ak,.int .i64 b.ah,.slice a2 b.ptz.length c2,.slice a3 b.aL.length c3,.slice a4 b.aX.length c4] 78)=A:=⟨_,rfl⟩
 rw[pA];have Ub:A4.heap.size=w1.heap.size+1:=by rw[<-pA];simp
 have IF:Hid (aA A4 w1.heap.size 78 #[.int .i64 b.ak,.int .i64 b.ah,.slice a2 b.ptz.length c2,.slice a3 b.aL.length c3,.slice a4 b.aX.length c4]):=by rw[<-pA];exact aA.new _ _ _
 have RG:Hid (Below A2.heap.size A2 A4):=by rw[<-pA];exact cV.out.alloc cV.out.size _
 refine(Ko.out A4 (qW.out.trans (RG.out.mono qW.out.size))).mono ?_;rintro e w2 ⟨rfl,eQ⟩;have gW:Hid (Below A4.heap.size A4 w2):=eQ;clear z0 z1 z2 z3 z4 eQ pA;have z0:w2.cell? ⟨w1.heap.size,0,none⟩=some (.int .i64 b.ak):=(IF.out.below gW.out IF.out.lt).cell 0 rfl;have z1:w2.cell? ⟨w1.heap.size,1,none⟩=some (.int .i64 b.ah):=(IF.out.below gW.out IF.out.lt).cell 1 rfl;have z2:w2.cell? ⟨w1.heap.size,2,none⟩=some (.slice a2 b.ptz.length c2):=(IF.out.below gW.out IF.out.lt).cell 2 rfl;have z3:w2.cell? ⟨w1.heap.size,3,none⟩=some (.slice a3 b.aL.length c3):=(IF.out.below gW.out IF.out.lt).cell 3 rfl;have z4:w2.cell? ⟨w1.heap.size,4,none⟩=some (.slice a4 b.aX.length c4):=(IF.out.below gW.out IF.out.lt).cell 4 rfl;have AJ:Hid (Below A2.heap.size A2 w2):=RG.out.trans (gW.out.mono RG.out.size);have Yo:Hid (Below w.heap.size w w2):=qW.out.trans (AJ.out.mono qW.out.size);go_wp2_with fail
 refine(IC w2 b a2 c2 _ _ ag (HB.out.later (Kp.of Yo.out)) HV.out (λX t hX=>Km.out X t (Yo.out.trans (hX.mono Yo.out.size)))).mono ?_;rintro e w3 ⟨⟨v5,rfl,hv5⟩,Ly⟩
 have HV5:Hid (∀W',aa [w.heap.size+1] w3 W'->bW 5 W' v5 (an b ag)):=λW' hk=>bW.eS NS RF (aJ hv5 λk e=>by
  have h1:=aI hv5 k e;have h2:=AJ.out.size;refine hk.block k h1.2 ?_;simp;omega)
 have Ue:Hid (kM w v5):=kM.of hv5 Yo.out.size;have iI:Hid (Below w2.heap.size w2 w3):=Ly;have NW:Hid (Below A2.heap.size A2 w3):=AJ.out.trans (iI.out.mono AJ.out.size);have sI:Hid (aA w3 (w.heap.size+1) 81 #[.int .i64 0,.int .i64 0,.slice none 0 0,.slice none 0 0,.slice none 0 0,.slice none 0 0]):=NV.out.below NW.out NV.out.lt;have HX3:Hid (aA w3 w1.heap.size 78 #[.int .i64 b.ak,.int .i64 b.ah,.slice a2 b.ptz.length c2,.slice a3 b.aL.length c3,.slice a4 b.aX.length c4]):=IF.out.below (gW.out.trans (iI.out.mono gW.out.size)) IF.out.lt;have RH:Hid (Below w.heap.size w w3):=qW.out.trans (NW.out.mono qW.out.size);obtain⟨a5,c5,rfl⟩:=fM hv5;clear z0 z1 z2 z3 z4 Ly hv5;have z0:w3.cell? ⟨w1.heap.size,0,none⟩=some (.int .i64 b.ak):=HX3.out.cell 0 rfl;have z1:w3.cell? ⟨w1.heap.size,1,none⟩=some (.int .i64 b.ah):=HX3.out.cell 1 rfl;have z2:w3.cell? ⟨w1.heap.size,2,none⟩=some (.slice a2 b.ptz.length c2):=HX3.out.cell 2 rfl;have z3:w3.cell? ⟨w1.heap.size,3,none⟩=some (.slice a3 b.aL.length c3):=HX3.out.cell 3 rfl;have z4:w3.cell? ⟨w1.heap.size,4,none⟩=some (.slice a4 b.aX.length c4):=HX3.out.cell 4 rfl;have f0:w3.frozen? ⟨w.heap.size+1,0,none⟩=false:=sI.out.aH 0;have f1:w3.frozen? ⟨w.heap.size+1,1,none⟩=false:=sI.out.aH 1;have f2:w3.frozen? ⟨w.heap.size+1,2,none⟩=false:=sI.out.aH 2;have f3:w3.frozen? ⟨w.heap.size+1,3,none⟩=false:=sI.out.aH 3;have f4:w3.frozen? ⟨w.heap.size+1,4,none⟩=false:=sI.out.aH 4;have f5:w3.frozen? ⟨w.heap.size+1,5,none⟩=false:=sI.out.aH 5;have t0:w3.cell? ⟨w.heap.size+1,0,none⟩=some (.int .i64 0):=sI.out.cell 0 rfl;have t1:w3.cell? ⟨w.heap.size+1,1,none⟩=some (.int .i64 0):=sI.out.cell 1 rfl;have t2:w3.cell? ⟨w.heap.size+1,2,none⟩=some (.slice none 0 0):=sI.out.cell 2 rfl;have t3:w3.cell? ⟨w.heap.size+1,3,none⟩=some (.slice none 0 0):=sI.out.cell 3 rfl;have t4:w3.cell? ⟨w.heap.size+1,4,none⟩=some (.slice none 0 0):=sI.out.cell 4 rfl;have t5:w3.cell? ⟨w.heap.size+1,5,none⟩=some (.slice none 0 0):=sI.out.cell 5 rfl;have hlen:=Dv HV.out ag;by_cases h0:(di ag b.ptz b.ptz.length 0 (λ_=>0))=[]
 .have HL0:Hid (an b ag=[]):=h0;rw[h0]at*;simp only[zCC];go_wp2_with fail
  obtain⟨WF,pB⟩:∃W,((((((w3.setCell ⟨w.heap.size+1,0,none⟩ (.int .i64 0)).setCell ⟨w.heap.size+1,1,none⟩ (.int .i64 0)).setCell ⟨w.heap.size+1,2,none⟩ (.slice none 0 0)).setCell
   ⟨w.heap.size+1,3,none⟩ (.slice none 0 0)).setCell ⟨w.heap.size+1,4,none⟩ (.slice none 0 0)).setCell ⟨w.heap.size+1,5,none⟩ (.slice none 0 0))=W:=⟨_,rfl⟩
  obtain⟨lW,tX⟩:=Xd (.int .i64 0) (.int .i64 0) (.slice none 0 0) (.slice none 0 0) (.slice none 0 0) (.slice none 0 0) sI.out;rw[pB]at lW tX⊢;have xt:Below w.heap.size w WF:=RH.out.trans (tX.below (by simp) RH.out.size);have q0:=lW.cell 0 rfl;have q1:=lW.cell 1 rfl;have q2:=lW.cell 2 rfl;have q3:=lW.cell 3 rfl;have q4:=lW.cell 4 rfl;have q5:=lW.cell 5 rfl;refine bodyPost_ret (v:=.tuple #[gX,.int .i64 9]) ?_ rfl ⟨.inl ⟨HL0.out,rfl⟩,xt⟩;rw[results_cell_tmp rfl];go_simp
 .have gU:0<(di ag b.ptz b.ptz.length 0 (λ_=>0)).length:=zDC.2 h0;have HL0:Hid (an b ag≠ []):=h0;generalize hgl:(di ag b.ptz b.ptz.length 0 (λ_=>0)).length=ln at*;have hln:¬((ln:Int)=0):=by omega
  have zm7:((ln:Int)==0)=false:=by simp;omega
  go_wp2_with fail
  obtain⟨WF,pB⟩:∃W,((((((w3.setCell ⟨w.heap.size+1,0,none⟩ (.int .i64 b.ak)).setCell ⟨w.heap.size+1,1,none⟩ (.int .i64 b.ah)).setCell ⟨w.heap.size+1,2,none⟩ (.slice a2 b.ptz.length c2)).setCell
   ⟨w.heap.size+1,3,none⟩ (.slice a3 b.aL.length c3)).setCell ⟨w.heap.size+1,4,none⟩ (.slice a4 b.aX.length c4)).setCell ⟨w.heap.size+1,5,none⟩ (.slice a5 ln c5))=W:=⟨_,rfl⟩
  obtain⟨lW,tX⟩:=Xd (.int .i64 b.ak) (.int .i64 b.ah) (.slice a2 b.ptz.length c2) (.slice a3 b.aL.length c3) (.slice a4 b.aX.length c4) (.slice a5 ln c5) sI.out;rw[pB]at lW tX⊢;have xt:Below w.heap.size w WF:=RH.out.trans (tX.below (by simp) RH.out.size);have q0:=lW.cell 0 rfl;have q1:=lW.cell 1 rfl;have q2:=lW.cell 2 rfl;have q3:=lW.cell 3 rfl;have q4:=lW.cell 4 rfl;have q5:=lW.cell 5 rfl;refine bodyPost_ret (v:=.tuple #[Gq b (.slice a2 b.ptz.length c2) (.slice a3 b.aL.length c3) (.slice a4 b.aX.length c4) (.slice a5 ln c5),.int .i64 0]) ?_ rfl ⟨.inr ⟨HL0.out,a5,c5,by rw[hgl],by rw[hgl];exact HV5.out WF tX,by rw[hgl];exact Ue.out⟩,xt⟩;rw[results_cell_tmp rfl];go_simp
def Dx (w:nq) (b:ab) (v:fu) (a2:Option Addr) (c2:Nat) (v3 v4:fu) (ag:(Nat->Int)->Bool) (Ph:v=.agg #[.int .i64 b.ak,.int .i64 b.ah,.slice a2 b.ptz.length c2,v3,v4]) (hb:ar w v b) (hv:Valid b) (hc:jh w)
 (km:∀X t,Below w.heap.size w X->Calls ZP 135 #[v,.agg (tick t)] X (bK X (.bool (ag t)))):
 Calls ZP 51 #[v,.func (.func 52) #[] #[]] w (NU w b (.slice a2 b.ptz.length c2) v3 v4 (an b ag)):=
 yN 52 ZC52 w b v a2 c2 v3 v4 ag Ph hb hv hc #[] km λX _=>by subst Ph;exact Dw X _ _ _ _ _
def ey (m:Nat->Int) (N:Nat) (t0:Nat->Int) (L:List (Nat->Int)):Int:=L.foldl (λa t=>min a (aG m t N)) (aG m t0 N)
def eA (m:Nat->Int) (N:Nat) (t0:Nat->Int) (L:List (Nat->Int)):Int:=L.foldl (λa t=>max a (aG m t N)) (aG m t0 N)
def kN (N:Nat) (L:List (Nat->Int)) (m:Nat->Int):Int:=eA m N (L.headD λ_=>0) L.tail
def pg (N:Nat) (L:List (Nat->Int)) (m:Nat->Int):Int:=ey m N (L.headD λ_=>0) L.tail
def Dy (m:Nat->Int) (N:Nat) (t0 t:Nat->Int) (L:List (Nat->Int)):eA m N t0 (L++[t])=max (eA m N t0 L) (aG m t N):=by simp[eA]
def Dz (m:Nat->Int) (N:Nat) (t0 t:Nat->Int) (L:List (Nat->Int)):ey m N t0 (L++[t])=min (ey m N t0 L) (aG m t N):=by simp[ey]
noncomputable def aV (b:ab) (L:List (Nat->Int)):List (Nat->Int):=(aB b).filter λm=>decide (kN b.ah.toNat L m<=b.ak)
def bare (l:List Part) (i:Nat):List Part:=match l[i]? with|some x=>l.set i {x with fits:=[]}|none=>l
def DA (h:l[k]?=some t):eA m N t0 (l.take (k+1))=max (eA m N t0 (l.take k)) (aG m t N):=by
 rw[zBR,h];exact Dy ..
def DB (h:l[k]?=some t):ey m N t0 (l.take (k+1))=min (ey m N t0 (l.take k)) (aG m t N):=by
 rw[zBR,h];exact Dz ..
def yO (w:nq) (v2 v3 v4 v5:fu) (b:ab) (N:Nat) (hN:b.ah=N) (rN:N<=4) (L:List (Nat->Int)) (hL:bW 5 w v5 L) (bC:L≠ []) (m:Nat->Int) (hm:∀i,0<=m i/\m i<5) (ht:∀t∈L,∀i,0<=t i/\t i<=20):
 Calls ZP 62 #[Gq b v2 v3 v4 v5,.agg (bY m)] w (bK w (.agg #[.int .i64 (pg N L m),.int .i64 (kN N L m)])):=by
 obtain⟨t0,l,rfl⟩:∃t0 l,L=t0::l:=by cases L with
  |nil=>exact absurd rfl bC
  |cons a l=>exact⟨a,l,rfl⟩
 have HL:=hid hL;have HT:=hid ht;have HM:=hid hm;have HN:=hid hN;obtain⟨a,cap,hs,he⟩:=hL;obtain⟨⟨blk,off,sp⟩,t1,rfl,hx,ov⟩:=hs.elem he (k:=0) (by simp);simp at hx;subst hx;obtain rfl:sp=none:=(ov 0 (by omega)).1;have HE:Hid (bT w v5 (t0::l).length (some ⟨blk,off,none⟩) cap/\_):=⟨hs,he⟩
 obtain⟨rfl,hle,kv,_,_⟩:=hs;unfold maxLen at kv;clear ht hm bC;obtain⟨A1,bh⟩:=ex1 (w.alloc (.cells #[.int .i64 b.ak,.int .i64 b.ah,v2,v3,v4,.slice (some ⟨blk,off,none⟩) (t0::l).length cap] 81));obtain⟨A2,bL⟩:=ex1 (A1.alloc (.cells (bY m) 94));obtain⟨A3,gP⟩:=ex1 (A2.alloc (.cells #[.int .i64 0,.int .i64 0] 34));have eL:=snew bh;have j8:=snew2 bL eL;have zH:=snew2 gP j8
 have B1:Hid (aA A3 w.heap.size 81 #[.int .i64 b.ak,.int .i64 b.ah,v2,v3,v4,.slice (some ⟨blk,off,none⟩) (t0::l).length cap]):=by
  rw[<-gP];refine(aa.alloc [] _ _).box ?_ (by simp);rw[<-bL];refine(aa.alloc [] _ _).box ?_ (by simp);rw[<-bh];exact aA.new _ _ _
 have B2:Hid (aA A3 (w.heap.size+1) 94 (bY m)):=by
  rw[<-gP];refine(aa.alloc [] _ _).box ?_ (by simp);rw[<-bL,<-eL];exact aA.new _ _ _
 have B3:=bnew2 gP j8;have HW:=wnew3 bh bL gP;obtain⟨z0,z1,z2,z3,z4,z5⟩:=B1.o.a6;obtain⟨y0,y1,y2,y3⟩:=B2.o.a4;have r0:∀X:am A3,X.1.cell? ⟨blk,off,none⟩=some (.int .i64 (t0 0)):=λX=>X.cell (by simpa using((ov 0 (by omega)).later (Kp.of HW.o)).2);have r1:∀X:am A3,X.1.cell? ⟨blk,off+1,none⟩=some (.int .i64 (t0 1)):=λX=>X.cell (by simpa using((ov 1 (by omega)).later (Kp.of HW.o)).2);have r2:∀X:am A3,X.1.cell? ⟨blk,off+2,none⟩=some (.int .i64 (t0 2)):=λX=>X.cell (by simpa using((ov 2 (by omega)).later (Kp.of HW.o)).2);have r3:∀X:am A3,X.1.cell? ⟨blk,off+3,none⟩=some (.int .i64 (t0 3)):=λX=>X.cell (by simpa using((ov 3 (by omega)).later (Kp.of HW.o)).2);have r4:∀X:am A3,X.1.cell? ⟨blk,off+4,none⟩=some (.int .i64 (t0 4)):=λX=>X.cell (by simpa using((ov 4 (by omega)).later (Kp.of HW.o)).2)
 have oY:∀X:am A3,Calls ZP 117 #[.agg #[.int .i64 b.ak,.int .i64 b.ah,v2,v3,v4],.agg (bY m),.agg (tick t0)] X.1 (λe jy=>e=.returned (.int .i64 (aG m t0 N))/\∃Y:am A3,jy=Y.1):=λX=>
  (Ds X.1 v2 v3 v4 b N HN.o rN m t0 (λi _=>HM.o i) (HT.o t0 (by simp))).mono λe w' h=>⟨h.1,X.on h.2⟩
 simp only[bY,tick]at bL oY⊢;simp only[zBU]at bh z5 hle⊢;have TB:((l.length+1:Nat):Int)=(l.length:Int)+1:=by omega
 clear ov he hN;go_enter ZF62,Tryz.ntmps62
 go_wp2_with fail
 refine ap (by kernel_rfl) (by kernel_rfl) ?_;repeat(go_big_quiet_step (first|(go_at_call 117;exact oY _)))
 refine wpQuiet_nil ?_;rintro _ ⟨X,rfl⟩;have Uf:=HW.t X.2;obtain⟨W,hW⟩:=ex1 (X.1);rw[hW];have HK:Hid (Below A3.heap.size A3 W):=by rw[<-hW];exact X.2
 obtain⟨W1,Kf⟩:=ex1 (W.alloc (.cells #[.int .i64 (aG m t0 N),.int .i64 (aG m t0 N)] 34));have x5:W.cell? ⟨w.heap.size,5,none⟩=some (.slice (some ⟨blk,off,none⟩) (l.length+1) cap):=by rw[<-hW];exact z5 X
 have x5':W1.cell? ⟨w.heap.size,5,none⟩=some (.slice (some ⟨blk,off,none⟩) (l.length+1) cap):=by
  rw[<-Kf];exact(eR (by have:=HK.o.size;show w.heap.size<_;omega) _).trans x5
 rw[hW]at Uf;clear oY z0 z1 z2 z3 z4 z5 y0 y1 y2 y3 r0 r1 r2 r3 r4 hW X x5;by_cases Ya:cap=1
 .have Lz:l=[]:=zBZ (by omega);subst Lz;have q0:W1.cell? ⟨W.heap.size,0,none⟩=some (.int .i64 (aG m t0 N)):=by rw[<-Kf];exact(aA.new W 34 _).cell 0 rfl
  have q1:W1.cell? ⟨W.heap.size,1,none⟩=some (.int .i64 (aG m t0 N)):=by rw[<-Kf];exact(aA.new W 34 _).cell 1 rfl
  go_wp2_with fail
  go_loopw [24] (λi wr=>i=.int .i64 0/\Hid (aA wr W.heap.size 34 #[.int .i64 (ey m N t0 []),.int .i64 (eA m N t0 [])])/\Hid (aa [W.heap.size] W wr)) (λ_ _=>0)
  case atStart=>exact⟨rfl,by rw[<-Kf];exact aA.new W 34 _,by rw[<-Kf];exact aa.alloc _ _ _⟩
  case round=>
   obtain⟨rfl,Ev,qB⟩:=hrel;have xk:aA wr (w.heap.size+1+1) 34 #[.int .i64 0,.int .i64 0]:=qB.o.box ((aa.of (O:=[]) HK.o).box B3.o (by simp)) (by have:=HK.o.size;simp;omega);have p0:=xk.cell 0 rfl;have p1:=xk.cell 1 rfl;have p2:=xk.aH 0;have p3:=xk.aH 1;have q0:=Ev.o.cell 0 rfl;have q1:=Ev.o.cell 1 rfl;go_wp2
   obtain⟨WF,pB⟩:=ex1 ((wr.setCell ⟨w.heap.size+1+1,0,none⟩ (.int .i64 (ey m N t0 []))).setCell ⟨w.heap.size+1+1,1,none⟩ (.int .i64 (eA m N t0 [])));have lW:aA WF (w.heap.size+1+1) 34 #[.int .i64 (ey m N t0 []),.int .i64 (eA m N t0 [])]:=by rw[<-pB];exact(xk.set 0 _).set 1 _
   have tX:aa [w.heap.size+1+1] wr WF:=by rw[<-pB];exact(aa.set wr (by simp) _).trans' (aa.set _ (by simp) _)
   have xt:Below w.heap.size w WF:=Uf.o.trans ((qB.o.below (by have:=HK.o.size;simp;omega) Uf.o.size).trans (tX.below (by simp;omega) (by have:=qB.o.size;have:=Uf.o.size;omega)));have u0:=lW.cell 0 rfl;have u1:=lW.cell 1 rfl;rw[pB];refine bodyPost_ret (v:=.agg #[.int .i64 (pg N (t0:: []) m),.int .i64 (kN N (t0:: []) m)]) ?_ rfl ⟨rfl,xt⟩;rw[ew rfl];go_simp;exact⟨rfl,rfl⟩
 .go_wp2_with fail
  go_loopw [24] (λi wr=>∃k:Nat,k<=l.length/\i=.int .i64 k/\Hid (aA wr W.heap.size 34 #[.int .i64 (ey m N t0 (l.take k)),.int .i64 (eA m N t0 (l.take k))])/\Hid (aa [W.heap.size] W wr)) (λi _=>l.length-(intOf i).toNat)
  case atStart=>exact⟨0,zAM _,rfl,by rw[<-Kf];exact aA.new W 34 _,by rw[<-Kf];exact aa.alloc _ _ _⟩
  case round=>
   obtain⟨k,hk,rfl,Ev,qB⟩:=hrel;by_cases av:k<l.length
   .have hx:l[k]?=some l[k]:=zAJ av;obtain⟨t,htt⟩:=ex1 (l[k]);rw[htt]at hx
    have bu:∀r,r<5->wr.cell? ⟨blk,off+5+k*5+r,none⟩=some (.int .i64 (t r)):=λr hr=>by
     have h1:=(HE.o.2 _ rfl (k+1) t (by simpa using hx) r hr)
     have h2:=h1.later (Kp.of Uf.o);have h3:=h2.lt;have h4:=h2.2;rw[show off+5+k*5+r=off+((k+1)*5+r) by omega];exact(World.cell?_of_block (w:=W) (a:=⟨blk,off+((k+1)*5+r),none⟩) (qB.o.block blk h3 (by simp at h3⊢;omega))).trans h4
    have r0:=bu 0 (by omega);have r1:=bu 1 (by omega);have r2:=bu 2 (by omega);have r3:=bu 3 (by omega);have r4:=bu 4 (by omega);simp only[zDX]at r0;have HX:=hid hx
    have hWg:∀(g tt:Nat) (cs:Array fu),g<A3.heap.size->aA A3 g tt cs->aA wr g tt cs:=λg tt cs hg h=>
     qB.o.box ((aa.of (O:=[]) HK.o).box h (by simp)) (by have:=HK.o.size;simp;omega)
    have BW1:=hWg _ _ _ (by omega) B1.o;have BW2:=hWg _ _ _ (by omega) B2.o;obtain⟨wt,rO⟩:=ex1 (wr.alloc (.cells (tick t) 130));have RI:=knew rO;have HBt:Hid (aA wt W.heap.size 34 #[.int .i64 (ey m N t0 (l.take k)),.int .i64 (eA m N t0 (l.take k))]):=RI.box Ev.o (by simp);have Yp:Hid (aa [W.heap.size] W wt):=qB.o.trans (O':=[]) RI (by simp);have BT1:=RI.box BW1 (by simp);have BT2:=RI.box BW2 (by simp);obtain⟨s0,s1,s2,s3,s4⟩:=BT1.c5;obtain⟨y0,y1,y2,y3⟩:=BT2.c4;have BX:=aA.new wr 130 (tick t);rw[rO]at BX;obtain⟨e0,e1,e2,e3,e4⟩:=BX.c5;have hC:=Ds wt v2 v3 v4 b N HN.o rN m t (λi _=>HM.o i) (HT.o t (by have:=zBI HX.o;simp[this]));simp only[bY,tick]at hC rO;have f7:(k:Int)<(l.length:Int):=by omega
    have vD:=hid av;clear bu hx htt hWg BW1 BW2 RI BT1 BT2 BX hk av;go_wp2_with fail
    refine hC.mono ?_;rintro e w2 ⟨rfl,eQ⟩;have gW:Hid (aa [W.heap.size] W w2):=Yp.o.trans (O':=[]) (aa.of eQ) (by simp);have jA:Hid (aA w2 W.heap.size 34 #[.int .i64 (ey m N t0 (l.take k)),.int .i64 (eA m N t0 (l.take k))]):=(aa.of (O:=[]) eQ).box HBt.o (by simp);have q0:=jA.o.cell 0 rfl;have q1:=jA.o.cell 1 rfl;have g0:=jA.o.aH 0;have g1:=jA.o.aH 1;have HLo:=DB (m:=m) (N:=N) (t0:=t0) HX.o;have HHi:=DA (m:=m) (N:=N) (t0:=t0) HX.o;have HLH:Hid (ey m N t0 (l.take (k+1))=min (ey m N t0 (l.take k)) (aG m t N)/\eA m N t0 (l.take (k+1))=max (eA m N t0 (l.take k)) (aG m t N)):=⟨HLo,HHi⟩
    clear hC eQ HLo HHi s0 s1 s2 s3 s4 y0 y1 y2 y3 e0 e1 e2 e3 e4 r0 r1 r2 r3 r4 rO;generalize ey m N t0 (l.take k)=lo at*;generalize eA m N t0 (l.take k)=hi at*;generalize aG m t N=tk at*;go_wp2
    have e1:(if tk<lo then tk else lo)=min lo tk:=by split<;>omega
    have e2:(if hi<tk then tk else hi)=max hi tk:=by split<;>omega
    have rk:=vD.o;rw[e1,e2];refine⟨⟨k+1,by omega,by go_num,?_,?_⟩,by simp[intOf];omega⟩
    .rw[HLH.o.1,HLH.o.2];exact(jA.o.set 0 _).set 1 _
    .exact gW.o.trans' ((aa.set _ (by simp) _).trans' (aa.set _ (by simp) _))
   .have e:k=l.length:=by omega
    subst e;rw[zCU]at Ev;have xk:aA wr (w.heap.size+1+1) 34 #[.int .i64 0,.int .i64 0]:=qB.o.box ((aa.of (O:=[]) HK.o).box B3.o (by simp)) (by have:=HK.o.size;simp;omega);have p0:=xk.cell 0 rfl;have p1:=xk.cell 1 rfl;have p2:=xk.aH 0;have p3:=xk.aH 1;have q0:=Ev.o.cell 0 rfl;have q1:=Ev.o.cell 1 rfl;go_wp2
    obtain⟨WF,pB⟩:=ex1 ((wr.setCell ⟨w.heap.size+1+1,0,none⟩ (.int .i64 (ey m N t0 l))).setCell ⟨w.heap.size+1+1,1,none⟩ (.int .i64 (eA m N t0 l)));have lW:aA WF (w.heap.size+1+1) 34 #[.int .i64 (ey m N t0 l),.int .i64 (eA m N t0 l)]:=by rw[<-pB];exact(xk.set 0 _).set 1 _
    have tX:aa [w.heap.size+1+1] wr WF:=by rw[<-pB];exact(aa.set wr (by simp) _).trans' (aa.set _ (by simp) _)
    have xt:Below w.heap.size w WF:=Uf.o.trans ((qB.o.below (by have:=HK.o.size;simp;omega) Uf.o.size).trans (tX.below (by simp;omega) (by have:=qB.o.size;have:=Uf.o.size;omega)));have u0:=lW.cell 0 rfl;have u1:=lW.cell 1 rfl;rw[pB];refine bodyPost_ret (v:=.agg #[.int .i64 (pg N (t0::l) m),.int .i64 (kN N (t0::l) m)]) ?_ rfl ⟨rfl,xt⟩;rw[ew rfl];go_simp;exact⟨rfl,rfl⟩
def yP (w:nq) (a b:Int):(Instr.field 34 (.agg #[.int .i64 a,.int .i64 b]) 1).run ZP w=.ok (.int .i64 b) w:=by
 have u:ZP.underlying 34=_:=(Tz.under 34).trans Tryz.underlying34;have a3:=Tryz.isAgg3;have z3:=Tryz.sizeOf3;simp[Instr.field,run_underlying u,asAgg,part,go_sem,a3,z3]
def zbm (s:Nat) (w:nq) (L:List (Nat->Int)) (e:Ending) (w':nq):Prop:=(∃v,e=.returned v/\bW s w' v L/\kM w v)/\Below w.heap.size w w'
noncomputable def eO (b:ab) (L:List (Nat->Int)) (k:Nat):List (Nat->Int):=((aB b).take k).filter λm=>decide (kN b.ah.toNat L m<=b.ak)
def Gr (hx:(aB b)[k]?=some m) (h:kN b.ah.toNat L m<=b.ak):eO b L (k+1)=eO b L k++[m]:=by
 unfold eO;rw[zBR,hx,zFP];simp[h]
def Kq (hx:(aB b)[k]?=some m) (h:¬kN b.ah.toNat L m<=b.ak):eO b L (k+1)=eO b L k:=by
 unfold eO;rw[zBR,hx,zFP];simp[h]
def Gs (b:ab) (L:List (Nat->Int)) (k:Nat):(eO b L k).length<=k:=by
 unfold eO;exact zAP (zEH _ _) (by simp;omega)
def DC (w:nq) (b:ab) (v2 v3 v4 v5:fu) (L:List (Nat->Int)) (hb:ar w (.agg #[.int .i64 b.ak,.int .i64 b.ah,v2,v3,v4]) b) (hv:Valid b) (hL:bW 5 w v5 L) (bC:L≠ []) (ht:∀t∈L,∀i,0<=t i/\t i<=20):
 Calls ZP 53 #[Gq b v2 v3 v4 v5] w (zbm 4 w (aV b L)):=by
 have HB:=hid hb;have HV:Hid (Valid b):=hv;have HL:=hid hL;have HT:Hid (L≠ []/\∀t∈L,∀i,0<=t i/\t i<=20):=⟨bC,ht⟩
 obtain⟨i0,hi,tw,nI,qm⟩:=info_parts NJ;obtain⟨A1,bh⟩:=ex1 (w.alloc (.cells #[.int .i64 b.ak,.int .i64 b.ah,v2,v3,v4,v5] 81));have eL:=snew bh;have B1:=bnew bh;have HW:=wnew bh;have z0:=B1.o.cell 0 rfl;have z1:=B1.o.cell 1 rfl;have z2:=B1.o.cell 2 rfl;have z3:=B1.o.cell 3 rfl;have z4:=B1.o.cell 4 rfl;clear hb hv hL bC ht;go_enter ZF53,Tryz.ntmps53
 go_wp2_with fail
 refine(qy A1 _ b (HB.o.later (Kp.of HW.o)) HV.o).mono ?_;rintro e w1 ⟨⟨v8,rfl,hv8⟩,bq⟩;have HM:Hid (bW 4 w1 v8 (aB b)):=bW.eS ID NT hv8;have cV:=hid bq;have pf:=HW.t bq;clear hv8 bq z0 z1 z2 z3 z4;obtain⟨a8,c8,hs8,he8⟩:=HM.o;have HE:Hid (bT w1 v8 (aB b).length a8 c8/\_):=⟨hs8,he8⟩
 obtain⟨rfl,hle,kv,_,_⟩:=hs8;unfold maxLen at kv;have Pa:=gQ HV.o;obtain⟨nn,hnn⟩:=ex1 ((aB b).length);have xi:=hid hnn;rw[hnn]at Pa hle⊢;clear he8 hnn kv;go_wp2_with fail
 go_loopw [10,3] (λi v wr=>∃k:Nat,k<=nn/\i=.int .i64 k/\Hid (wr.ownsRow w1.heap.size 94 4 v (eO b L k).length ((eO b L k).flatMap λm=>(bY m).toList))/\Hid (Below w1.heap.size w1 wr)) (λi _ _=>nn-(intOf i).toNat)
 case atStart=>exact⟨0,zAM _,rfl,World.ownsRow_nil _ _ _ _,Below.refl _ _⟩
 case round=>
  obtain⟨k,hk,rfl,hO,hB⟩:=hrel;by_cases av:k<nn
  .obtain⟨⟨blk,off,sp⟩,m,rfl,hx,ov⟩:=HE.o.1.elem HE.o.2 (k:=k) (by rw[xi.o];exact av);obtain rfl:sp=none:=(ov 0 (by omega)).1;have bu:∀r,r<4->wr.cell? ⟨blk,off+(k*4+r),none⟩=some (.int .i64 (m r)):=λr hr=>((ov r hr).later (Kp.of hB.o)).2;have r0:=bu 0 (by omega);have r1:=bu 1 (by omega);have r2:=bu 2 (by omega);have r3:=bu 3 (by omega);simp only[zDX,<-zBD]at r0 r1 r2 r3;have HX:=hid hx;have f7:(k:Int)<(nn:Int):=by omega
   have vD:Hid (k<nn):=av;have RC:=pf.t hB.o;obtain⟨wt,rO⟩:=ex1 (wr.alloc (.cells (bY m) 94));have cu:=snew rO;have Yq:Hid (Below wr.heap.size wr wt):=by rw[<-rO];exact(Below.refl _ _).alloc (zAB _) _
   have BS:Hid (aA wt w.heap.size 81 #[.int .i64 b.ak,.int .i64 b.ah,v2,v3,v4,v5]):=
    ((B1.o.below cV.o B1.o.lt).below (hB.o.trans (Yq.o.mono hB.o.size)) ((B1.o.below cV.o B1.o.lt).lt))
   have BM:=bnew rO;obtain⟨s0,s1,s2,s3,s4,s5⟩:=BS.o.a6;obtain⟨m0,m1,m2,m3⟩:=BM.o.a4
   have oY:∀X:am wt,Calls ZP 62 #[Gq b v2 v3 v4 v5,.agg (bY m)] X.1 (λe jy=>e=.returned (.agg #[.int .i64 (pg b.ah.toNat L m),.int .i64 (kN b.ah.toNat L m)])/\∃Y:am wt,jy=Y.1):=λX=>
    (yO X.1 v2 v3 v4 v5 b b.ah.toNat (by have:=HV.o.ah;omega) (by have:=HV.o.ah;omega) L (((HL.o.later (Kp.of RC.o)).later (Kp.of Yq.o)).later X.kp) HT.o.1 m (na HV.o m (zBI HX.o)) HT.o.2).mono λe w' h=>⟨h.1,X.on h.2⟩
   obtain⟨lo,IB⟩:=ex1 (pg b.ah.toNat L m);obtain⟨se,Ug⟩:∃x,kN b.ah.toNat L m=x:=⟨_,rfl⟩
   have HHI:=hid Ug;rw[IB,Ug]at oY;simp only[bY]at oY rO;have hln:=Gs b L k;clear bu ov hx IB Ug av;by_cases hsf:se<=b.ak
   .go_wp2_with fail
    refine ap (by kernel_rfl) (by kernel_rfl) ?_;go_big_quiet_step (fail)
    go_big_quiet_step (fail)
    go_big_quiet_step (first|(go_at_call 62;exact oY _))
    have Xe:=λw=>yP w lo se;repeat(go_big_quiet_step (first|(go_at_call 62;exact oY _)))
    refine wpQuiet_nil ?_;rintro _ ⟨X,rfl⟩;obtain⟨W,hW⟩:=ex1 (X.1);have HXt:Hid (Below wt.heap.size wt W):=by rw[<-hW];exact X.2
    have Uh:=Yq.t HXt.o;have HOw:Hid (W.ownsRow w1.heap.size 94 4 u3 (eO b L k).length ((eO b L k).flatMap λm=>(bY m).toList)):=aJ hO.o λj hj=>Uh.o.block j (aI hO.o j hj).2;have n0:=m0 X;have n1:=m1 X;have n2:=m2 X;have n3:=m3 X;have cr:=Uh.o.size;have zm9:=hB.o.size;rw[hW]at n0 n1 n2 n3⊢;clear s0 s1 s2 s3 s4 s5 m0 m1 m2 m3 oY Xe hW X rO;have zna:∀x:Nat->Int,(bY x).toList.length=4:=λ_=>rfl
    go_wp2_with(at_builtin
                refine wpList_append_own _ rfl (.tmp 23) (.tmp 25) 85 rfl w1.heap.size 94 i0 (.agg #[.int .i64 0,.int .i64 0,.int .i64 0,.int .i64 0]) 4 32 Iw hi tw nI qm rfl (by decide) _ _ _ rfl (HOw.o.alloc _) ⟨W.heap.size,0,none⟩ 1 1 (bY m).toList rfl rfl (Iy (aA.new W 94 (bY m))) (Iz m) (by unfold maxLen;omega) (by omega) (by simp;omega) ?_;intro v' w2 dO cF _)
    have vq:Hid (w2.ownsRow w1.heap.size 94 4 v' (eO b L (k+1)).length ((eO b L (k+1)).flatMap λm=>(bY m).toList)):=(by
     rw[Gr HX.o (by rw[HHI.o];exact hsf),zAZ,zCR];have h2:=dO;simp only[zCW,zGB,zCP,zBU,zCC];exact h2)
    have gW:Hid (Below w1.heap.size w1 w2):=Below.grown (Below.alloc (hB.o.trans (Uh.o.mono hB.o.size)) (by omega) _) cF (by simp;omega) (dD HOw.o);clear dO cF;have rk:=vD.o;go_round
    case rel=>exact⟨k+1,by omega,by go_num,vq,gW⟩
    case measure=>simp[intOf];omega
   .go_wp2_with fail
    refine ap (by kernel_rfl) (by kernel_rfl) ?_;have Xe:=λw=>yP w lo se;repeat(go_big_quiet_step (first|(go_at_call 62;exact oY _)))
    refine wpQuiet_nil ?_;rintro _ ⟨X,rfl⟩;obtain⟨W,hW⟩:=ex1 (X.1);have HXt:Hid (Below wt.heap.size wt W):=by rw[<-hW];exact X.2
    have Uh:=Yq.t HXt.o
    have HOw:Hid (W.ownsRow w1.heap.size 94 4 u3 (eO b L (k+1)).length ((eO b L (k+1)).flatMap λm=>(bY m).toList)):=by
     rw[Kq HX.o (by rw[HHI.o];omega)];exact aJ hO.o λj hj=>Uh.o.block j (aI hO.o j hj).2
    have gW:=hB.t Uh.o;rw[hW];clear s0 s1 s2 s3 s4 s5 m0 m1 m2 m3 oY Xe hW X rO;have rk:=vD.o;go_wp2
    go_round
    case rel=>exact⟨k+1,by omega,by go_num,HOw,gW⟩
    case measure=>simp[intOf];omega
  .have e:k=nn:=by omega
   have vq:Hid (bW 4 wr u3 (aV b L)):=by
    have:eO b L k=aV b L:=by unfold eO aV;rw[e,<-xi.o,zCU]
    rw[this]at hO;exact bW.eS ID NT hO.o
   have Ue:Hid (kM w u3):=kM.of hO.o pf.o.size;have RC:=pf.t hB.o;go_wp2
   go_ret;exact⟨⟨_,rfl,vq.o,Ue.o⟩,RC.o⟩
abbrev pl (w:nq) (v:fu) (ag:(Nat->Int)->Bool):Prop:=∀X t,Below w.heap.size w X->Calls ZP 135 #[v,.agg (tick t)] X (bK X (.bool (ag t)))
def ar.dJ (h:ar w v b):∃a2 c2 a3 c3 a4 c4,v=.agg #[.int .i64 b.ak,.int .i64 b.ah,.slice a2 b.ptz.length c2,.slice a3 b.aL.length c3,.slice a4 b.aX.length c4]:=by
 obtain⟨v2,v3,v4,rfl,⟨a2,c2,⟨rfl,_,_,_,_⟩,_⟩,⟨a3,c3,⟨rfl,_,_,_,_⟩,_⟩,⟨a4,c4,⟨rfl,_,_,_,_⟩,_⟩⟩:=h;exact⟨a2,c2,a3,c3,a4,c4,rfl⟩
def eT {fn:Func} {p u u':Tmp} {ty:a00} (h:fn.results=#[.cell p ty,.tmp u,.tmp u']) (tmps:Array fu) (P:un) (w:nq):
 (results fn tmps).run P w=
   ((asAddr (tmps.getD p undef)).run P w).andThen λa w₁=>((loadVar ty a).run P w₁).andThen λv w₂=>.ok (.tuple #[v,tmps.getD u undef,tmps.getD u' undef]) w₂:=by
 simp only[results,h];simp[Sem.run_bind,Result.andThen]
def aA.same {t:a00} {cs:Array fu} {i:Nat} (h:aA w g t cs) (hv:cs[i]?=some v):w.setCell ⟨g,i,none⟩ v=w:=by
 have e:(w.setCell ⟨g,i,none⟩ v).heap=w.heap:=by
  refine zFM λk=>?_;by_cases hk:k=g
  .subst hk;have h1:_=_:=h.set i v
   have h2:cs.setIfInBounds i v=cs:=by
    refine zFM λj=>?_;by_cases hj:i=j
    .subst hj;obtain⟨av,hx⟩:=zAD.1 hv;rw[Array.getElem?_setIfInBounds_self_of_lt av,hv]
    .rw[zCS hj]
   rw[h2]at h1;exact h1.trans h.symm
  .exact Below.heap_setCell _ _ _ _ hk
 show({w with heap:=(w.setCell ⟨g,i,none⟩ v).heap}:nq)=w;rw[e]
def zbn (w:nq) (b:ab) (v2 v3 v4:fu) (L:List (Nat->Int)) (e:Ending) (w':nq):Prop:=
 ((L=[]/\e=.returned (.tuple #[gX,.slice none 0 0,.int .i64 9]))\/(L≠ []/\aV b L=[]/\e=.returned (.tuple #[gX,.slice none 0 0,.int .i64 8]))\/
  (L≠ []/\aV b L≠ []/\∃a c vs,e=.returned (.tuple #[Gq b v2 v3 v4 (.slice a L.length c),vs,.int .i64 0])/\bW 5 w' (.slice a L.length c) L/\bW 4 w' vs (aV b L)/\kM w (.slice a L.length c)/\kM w vs))/\Below w.heap.size w w'
def sJ (w:nq) (v:fu) (b:ab) (ag:(Nat->Int)->Bool) (a2:Option Addr) (c2:Nat) (v3 v4:fu) (Ph:v=.agg #[.int .i64 b.ak,.int .i64 b.ah,.slice a2 b.ptz.length c2,v3,v4]) (hb:ar w v b) (hv:Valid b) (hc:jh w) (km:pl w v ag):
 Calls ZP 65 #[v] w (zbn w b (.slice a2 b.ptz.length c2) v3 v4 (an b ag)):=by
 subst Ph;have HB:=hid hb;have HV:Hid (Valid b):=hv;have HC:Hid (jh w):=hc;obtain⟨a2',c2',a3,c3,a4,c4,Bj⟩:=hb.dJ;simp only[Value.agg.injEq,zCO,zCB,zCK,zEC]at Bj;obtain⟨_,rfl,rfl⟩:=Bj;have Km:=hid km;obtain⟨A1,bh⟩:=ex1 (w.alloc (.cells #[.int .i64 b.ak,.int .i64 b.ah,.slice a2 b.ptz.length c2,.slice a3 b.aL.length c3,.slice a4 b.aX.length c4] 26));obtain⟨A2,bL⟩:=ex1 (A1.alloc (.cells #[.int .i64 0,.int .i64 0,.slice none 0 0,.slice none 0 0,.slice none 0 0,.slice none 0 0] 81));have eL:=snew bh;have j8:=snew2 bL eL;have B1:=bnewk bh bL;have NV:=bnew2 bL eL;have HW:=wnew2 bh bL;have z0:=B1.o.cell 0 rfl;have z1:=B1.o.cell 1 rfl;have z2:=B1.o.cell 2 rfl;have z3:=B1.o.cell 3 rfl;have z4:=B1.o.cell 4 rfl;clear hb hv hc km;go_enter ZF65,Tryz.ntmps65
 go_wp2_with fail
 refine(Dx A2 b _ a2 c2 _ _ ag rfl (HB.o.later (Kp.of HW.o)) HV.o (HC.o.later HW.o) (λX t hX=>Km.o X t (HW.o.trans (hX.mono HW.o.size)))).mono ?_;rintro e w1 ⟨Hh,bq⟩;have cV:=HW.t bq;have Ui:=hidb NV bq;have Pa:=gQ HV.o;have zgq:w.heap.size+1<w1.heap.size:=Ui.o.lt;clear bq z0 z1 z2 z3 z4 bh bL;rcases Hh with⟨hL,rfl⟩|⟨hL,a,c,rfl,xu,gq⟩
 .have HL:=hid hL;clear hL;obtain⟨W,hW⟩:=ex1 (w1.alloc (.cells #[.int .i64 0,.int .i64 0,.slice none 0 0,.slice none 0 0,.slice none 0 0,.slice none 0 0] 81));have DD:=knew hW;have eI:=(bnew hW).o;have gD:=DD.box Ui.o (by simp);have t0:=gD.cell 0 rfl;have t1:=gD.cell 1 rfl;have t2:=gD.cell 2 rfl;have t3:=gD.cell 3 rfl;have t4:=gD.cell 4 rfl;have t5:=gD.cell 5 rfl;have f0:=gD.aH 0;have f1:=gD.aH 1;have f2:=gD.aH 2;have f3:=gD.aH 3;have f4:=gD.aH 4;have f5:=gD.aH 5;have s0:=eI.cell 0 rfl;have s1:=eI.cell 1 rfl;have s2:=eI.cell 2 rfl;have s3:=eI.cell 3 rfl;have s4:=eI.cell 4 rfl;have s5:=eI.cell 5 rfl;have g0:=eI.aH 0;have g1:=eI.aH 1;have g2:=eI.aH 2;have g3:=eI.aH 3;have g4:=eI.aH 4;have g5:=eI.aH 5;have e0:=eI.same (i:=0) (v:=.int .i64 0) rfl;have e1:=eI.same (i:=1) (v:=.int .i64 0) rfl;have e2:=eI.same (i:=2) (v:=.slice none 0 0) rfl;have e3:=eI.same (i:=3) (v:=.slice none 0 0) rfl;have e4:=eI.same (i:=4) (v:=.slice none 0 0) rfl;have e5:=eI.same (i:=5) (v:=.slice none 0 0) rfl;have d0:=gD.same (i:=0) (v:=.int .i64 0) rfl;have d1:=gD.same (i:=1) (v:=.int .i64 0) rfl;have d2:=gD.same (i:=2) (v:=.slice none 0 0) rfl;have d3:=gD.same (i:=3) (v:=.slice none 0 0) rfl;have d4:=gD.same (i:=4) (v:=.slice none 0 0) rfl;have d5:=gD.same (i:=5) (v:=.slice none 0 0) rfl;go_wp2
  refine bodyPost_ret (v:=.tuple #[gX,.slice none 0 0,.int .i64 9]) ?_ rfl ⟨.inl ⟨HL.o,rfl⟩,cV.o.trans (DD.below (by simp) cV.o.size)⟩;rw[eT rfl];go_simp
 .obtain⟨W,hW⟩:=ex1 (w1.alloc (.cells #[.int .i64 b.ak,.int .i64 b.ah,.slice a2 b.ptz.length c2,.slice a3 b.aL.length c3,.slice a4 b.aX.length c4,.slice a (an b ag).length c] 81));have B2:=bnew hW;have DD:=knew hW;have qW:Hid (Below w1.heap.size w1 W):=DD.below (by simp) (zAB _);have gW:=cV.t qW.o;have gD:=DD.box Ui.o (by simp);have hC:=DC W b _ _ _ _ (an b ag) (HB.o.later (Kp.of gW.o)) HV.o (xu.later (Kp.of qW.o)) hL (nN HV.o ag);have Yr:Hid (bW 5 W (.slice a (an b ag).length c) (an b ag)):=xu.later (Kp.of qW.o);have z0:=B2.o.cell 0 rfl;have z1:=B2.o.cell 1 rfl;have z2:=B2.o.cell 2 rfl;have z3:=B2.o.cell 3 rfl;have z4:=B2.o.cell 4 rfl;have z5:=B2.o.cell 5 rfl;have HL:=hid hL;have Ue:=hid gq;clear hL xu gq;go_wp2_with fail
  refine hC.mono ?_;rintro e w2 ⟨⟨vs,rfl,sr,QY⟩,eQ⟩;obtain⟨sa,sc,rfl,_,_⟩:=sr.slice;have tf:(aV b (an b ag)).length<=(aB b).length:=zEH _ _;have iI:=gW.t eQ;have RJ:=hid sr;have zgr:Hid (bW 5 w2 (.slice a (an b ag).length c) (an b ag)):=Yr.o.later (Kp.of eQ);have jA:aA w2 (w.heap.size+1) 81 #[.int .i64 0,.int .i64 0,.slice none 0 0,.slice none 0 0,.slice none 0 0,.slice none 0 0]:=gD.below eQ gD.lt;have IG:=hidb B2 eQ;have zgs:=hid QY;have HsW:Hid (A2.heap.size<=W.heap.size):=(zAP (by rw[j8];omega) DD.size:A2.heap.size<=W.heap.size)
  clear eQ sr hC z0 z1 z2 z3 z4 z5 hW gD QY;by_cases h0:aV b (an b ag)=[]
  .have HS:=hid h0;rw[h0];simp only[zCC];have gD:=jA;have t0:=gD.cell 0 rfl;have t1:=gD.cell 1 rfl;have t2:=gD.cell 2 rfl;have t3:=gD.cell 3 rfl;have t4:=gD.cell 4 rfl;have t5:=gD.cell 5 rfl;have f0:=gD.aH 0;have f1:=gD.aH 1;have f2:=gD.aH 2;have f3:=gD.aH 3;have f4:=gD.aH 4;have f5:=gD.aH 5;have d0:=gD.same (i:=0) (v:=.int .i64 0) rfl;have d1:=gD.same (i:=1) (v:=.int .i64 0) rfl;have d2:=gD.same (i:=2) (v:=.slice none 0 0) rfl;have d3:=gD.same (i:=3) (v:=.slice none 0 0) rfl;have d4:=gD.same (i:=4) (v:=.slice none 0 0) rfl;have d5:=gD.same (i:=5) (v:=.slice none 0 0) rfl;go_wp2
   refine bodyPost_ret (v:=.tuple #[gX,.slice none 0 0,.int .i64 8]) ?_ rfl ⟨.inr (.inl ⟨HL.o,HS.o,rfl⟩),iI.o⟩;rw[eT rfl];go_simp
  .have HS:=hid h0;have gU:0<(aV b (an b ag)).length:=zDC.2 h0;obtain⟨ln,hln⟩:=ex1 ((aV b (an b ag)).length);have NY:=hid hln;rw[hln]at gU tf⊢;have Bp:¬((ln:Int)=0):=by omega
   have zK:((ln:Int)==0)=false:=by simp;omega
   have NZ:Hid (aA w2 (w.heap.size+1) 81 #[.int .i64 0,.int .i64 0,.slice none 0 0,.slice none 0 0,.slice none 0 0,.slice none 0 0]):=jA;have znc:w1.heap.size<w2.heap.size:=IG.o.lt;have t0:=jA.cell 0 rfl;have t1:=jA.cell 1 rfl;have t2:=jA.cell 2 rfl;have t3:=jA.cell 3 rfl;have t4:=jA.cell 4 rfl;have t5:=jA.cell 5 rfl;have f0:=jA.aH 0;have f1:=jA.aH 1;have f2:=jA.aH 2;have f3:=jA.aH 3;have f4:=jA.aH 4;have f5:=jA.aH 5;have s0:=IG.o.cell 0 rfl;have s1:=IG.o.cell 1 rfl;have s2:=IG.o.cell 2 rfl;have s3:=IG.o.cell 3 rfl;have s4:=IG.o.cell 4 rfl;have s5:=IG.o.cell 5 rfl;clear jA h0 hln;go_wp2
   obtain⟨WF,pB⟩:∃W,((((((w2.setCell ⟨w.heap.size+1,0,none⟩ (.int .i64 b.ak)).setCell ⟨w.heap.size+1,1,none⟩ (.int .i64 b.ah)).setCell ⟨w.heap.size+1,2,none⟩ (.slice a2 b.ptz.length c2)).setCell
    ⟨w.heap.size+1,3,none⟩ (.slice a3 b.aL.length c3)).setCell ⟨w.heap.size+1,4,none⟩ (.slice a4 b.aX.length c4)).setCell ⟨w.heap.size+1,5,none⟩ (.slice a (an b ag).length c))=W:=⟨_,rfl⟩
   obtain⟨lW,tX⟩:=Xd (.int .i64 b.ak) (.int .i64 b.ah) (.slice a2 b.ptz.length c2) (.slice a3 b.aL.length c3) (.slice a4 b.aX.length c4) (.slice a (an b ag).length c) NZ.out;rw[pB]at lW tX⊢;have xt:Below w.heap.size w WF:=iI.o.trans (tX.below (by simp) iI.o.size);have q0:=lW.cell 0 rfl;have q1:=lW.cell 1 rfl;have q2:=lW.cell 2 rfl;have q3:=lW.cell 3 rfl;have q4:=lW.cell 4 rfl;have q5:=lW.cell 5 rfl;have hsW:=HsW.o;have wD:=Ue.o;have hfb:=zgs.o;have Xf:=zgr.o;have hvb:=RJ.o;rw[NY.o]at hfb hvb
   refine bodyPost_ret (v:=.tuple #[Gq b (.slice a2 b.ptz.length c2) (.slice a3 b.aL.length c3) (.slice a4 b.aX.length c4) (.slice a (an b ag).length c),.slice sa ln sc,.int .i64 0]) ?_ rfl
    ⟨.inr (.inr ⟨HL.o,HS.o,a,c,_,rfl,?_,?_,wD.le (by omega),hfb.le (by omega)⟩),xt⟩
   .rw[eT rfl];go_simp
   .exact Xf.on λk hk av=>by
     have h1:=wD k hk;exact tX.block k av (by simp;omega)
   .exact hvb.on λk hk av=>by
     have h1:=hfb k hk;exact tX.block k av (by simp;omega)
def bX (N:Nat) (m:Nat->Int):List Int:=(List.range N).map m
def DE (hN:N<=4) (h:aA w g 94 (bY m)):ao w (.slice (some ⟨g,0,none⟩) N 4) (bX N m):=by
 have hl:(bX N m).length=N:=by simp[bX]
 refine⟨_,4,⟨by rw[hl],by rw[hl];exact hN,by unfold maxLen;omega,(λh=>by cases h),λb e=>.inr ⟨bY m,94,(0,0),by cases e;exact h⟩⟩,λb e j x hj=>?_⟩;cases e;have pW:j<N:=by have:=(zAT.1 hj).1;rwa [hl]at this
 have hx:x=m j:=by
  unfold bX at hj;rw[zCM,List.getElem?_range pW]at hj;simpa using hj.symm
 subst hx;refine⟨rfl,?_⟩;show w.cell? ⟨g,0+j,none⟩=_;rw[zDN];exact h.cell j (fR (by omega) m)
def ar.RK {x y:Int} {v2 v3 v4:fu} (h:ar w (.agg #[.int .i64 x,.int .i64 y,v2,v3,v4]) b):dA w v2 b.ptz:=by
 obtain⟨_,_,_,e,h2,h3,_⟩:=h;simp only[Value.agg.injEq,zCO,zCB,zCK,zEC]at e;obtain⟨_,_,rfl,_,_⟩:=e;exact h2
end Go.Proofs.Cz
