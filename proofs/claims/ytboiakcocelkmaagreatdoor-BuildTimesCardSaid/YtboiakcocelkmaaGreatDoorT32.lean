/- A part. Conditions: none. -/
import Derived.Test.YtboiakcocelkmaaGreatDoorT31
import Derived.Laws.ResultCell
set_option linter.all false
set_option maxHeartbeats 8000000
set_option maxRecDepth 100000
namespace Go.Proofs.Cz
open Go.RowKit
variable {L l:List (Nat->Int)} {N g k s:Nat} {b:ao} {m t t0:Nat->Int} {v:Value} {w:World}
theorem zN (w:World) (a b c d e:Value):Calls ZP 64 #[.agg #[a,b,c,d,e]] w (bK w (.int .i64 0)):=by
 go_enter ZF64,Tryz.ntmps64
 go_wp2
 go_ret;exact⟨rfl,(ac.alloc [] w _).below (by simp) (Nat.le_refl _)⟩
abbrev Ju (b:ao) (v2 v3 v4 v5:Value):Value:=.agg #[.int .i64 b.ak,.int .i64 b.places,v2,v3,v4,v5]
abbrev ku:Value:=.agg #[.int .i64 0,.int .i64 0,.slice none 0 0,.slice none 0 0,.slice none 0 0,.slice none 0 0]
theorem tY {W:World} {t:Nat} {c0 c1 c2 c3 c4 c5:Value} (v0 v1 v2 v3 v4 v5:Value) (h:aF W g t #[c0,c1,c2,c3,c4,c5]):
 aF ((((((W.setCell ⟨g,0,none⟩ v0).setCell ⟨g,1,none⟩ v1).setCell ⟨g,2,none⟩ v2).setCell ⟨g,3,none⟩ v3).setCell ⟨g,4,none⟩ v4).setCell ⟨g,5,none⟩ v5) g t #[v0,v1,v2,v3,v4,v5]/\
 ac [g] W ((((((W.setCell ⟨g,0,none⟩ v0).setCell ⟨g,1,none⟩ v1).setCell ⟨g,2,none⟩ v2).setCell ⟨g,3,none⟩ v3).setCell ⟨g,4,none⟩ v4).setCell ⟨g,5,none⟩ v5):=
 ⟨(((((h.set 0 v0).set 1 v1).set 2 v2).set 3 v3).set 4 v4).set 5 v5,
  (((((ac.set W (by simp) v0).trans' (ac.set _ (by simp) v1)).trans' (ac.set _ (by simp) v2)).trans' (ac.set _ (by simp) v3)).trans' (ac.set _ (by simp) v4)).trans' (ac.set _ (by simp) v5)⟩
def sN (w:World) (b:ao) (v2 v3 v4:Value) (L:List (Nat->Int)) (e:Ending) (w':World):Prop:=
 ((L=[]/\e=.returned (.tuple #[ku,.int .i64 9]))\/
  (L≠ []/\∃a c,e=.returned (.tuple #[Ju b v2 v3 v4 (.slice a L.length c),.int .i64 0])/\bV 5 w' (.slice a L.length c) L/\oe w (.slice a L.length c)))/\
 Below w.heap.size w w'
theorem lQ (f:Nat) (hf:∀(args:Array Value) (w:World),Sem.run ZP (Go.callFunc f args) w=.ok (.enter f args) w) (w:World) (b:ao) (v:Value) (a2:Option Addr) (c2:Nat) (v3 v4:Value) (ag:(Nat->Int)->Bool) (GB:v=.agg #[.int .i64 b.ak,.int .i64 b.places,.slice a2 b.parts.length c2,v3,v4]) (hb:au w v b) (hv:Valid b) (hc:jH w)
 (cs:Array Value) (kA:∀X t,Below w.heap.size w X->Calls ZP 122 #[v,.agg (tick t)] X (bK X (.bool (ag t))))
 (bB:∀X,Below w.heap.size w X->Calls ZP f (#[v]++cs) X (bK X (.int .i64 0))):
 Calls ZP 45 #[v,.func (.func f) #[] cs] w (sN w b (.slice a2 b.parts.length c2) v3 v4 (aM b ag)):=by
 subst GB;have HB:Hid (au w (.agg #[.int .i64 b.ak,.int .i64 b.places,.slice a2 b.parts.length c2,v3,v4]) b):=hb;have HV:Hid (Valid b):=hv;obtain⟨_,_,_,Ba,_,⟨a3,c3,⟨e3,_,_,_,_⟩,_⟩,⟨a4,c4,⟨e4,_,_,_,_⟩,_⟩⟩:=hb;simp only[Value.agg.injEq,Array.mk.injEq,List.cons.injEq,true_and,and_true]at Ba;obtain⟨rfl,rfl,rfl⟩:=Ba;subst e3 e4;obtain⟨A1,aV⟩:∃A,w.alloc (.cells #[.int .i64 b.ak,.int .i64 b.places,.slice a2 b.parts.length c2,.slice a3 b.apart.length c3,.slice a4 b.ab.length c4] 26)=A:=⟨_,rfl⟩
 obtain⟨A2,bY⟩:∃A,A1.alloc (.cells #[.int .i64 0,.int .i64 0,.slice none 0 0,.slice none 0 0,.slice none 0 0,.slice none 0 0] 71)=A:=⟨_,rfl⟩
 have eE:A1.heap.size=w.heap.size+1:=by rw[<-aV];simp
 have mh:A2.heap.size=w.heap.size+2:=by rw[<-bY];simp[eE]
 have xM:Hid (aF A2 w.heap.size 26 #[.int .i64 b.ak,.int .i64 b.places,.slice a2 b.parts.length c2,.slice a3 b.apart.length c3,.slice a4 b.ab.length c4]):=by
  rw[<-bY];refine(ac.alloc [] _ _).box ?_ (by simp);rw[<-aV];exact aF.new _ _ _
 have Vq:Hid (aF A2 (w.heap.size+1) 71 #[.int .i64 0,.int .i64 0,.slice none 0 0,.slice none 0 0,.slice none 0 0,.slice none 0 0]):=by rw[<-bY,<-eE];exact aF.new _ _ _
 have zO:Hid (Below w.heap.size w A2):=by rw[<-bY,<-aV];exact((ac.alloc [] _ _).jk _).below (by simp) (Nat.le_refl _)
 have HC:Hid (jH w):=hc;have Jv:Hid (∀X t,Below w.heap.size w X->Calls ZP 122 #[.agg #[.int .i64 b.ak,.int .i64 b.places,.slice a2 b.parts.length c2,.slice a3 b.apart.length c3,.slice a4 b.ab.length c4],.agg (tick t)] X (bK X (.bool (ag t)))):=kA;have z0:A2.cell? ⟨w.heap.size,0,none⟩=some (.int .i64 b.ak):=xM.out.cell 0 rfl;have z1:A2.cell? ⟨w.heap.size,1,none⟩=some (.int .i64 b.places):=xM.out.cell 1 rfl;have z2:A2.cell? ⟨w.heap.size,2,none⟩=some (.slice a2 b.parts.length c2):=xM.out.cell 2 rfl;have z3:A2.cell? ⟨w.heap.size,3,none⟩=some (.slice a3 b.apart.length c3):=xM.out.cell 3 rfl;have z4:A2.cell? ⟨w.heap.size,4,none⟩=some (.slice a4 b.ab.length c4):=xM.out.cell 4 rfl;have QY:Hid (∀X,Below w.heap.size w X->Calls ZP f (#[.agg #[.int .i64 b.ak,.int .i64 b.places,.slice a2 b.parts.length c2,.slice a3 b.apart.length c3,.slice a4 b.ab.length c4]]++cs) X (bK X (.int .i64 0))):=bB;clear hv hc kA bB;go_enter ZF45,Tryz.ntmps45
 go_wp2_with fail
 refine(mY A2 _ b (HB.out.later (Kp.of zO.out)) HV.out (HC.out.later zO.out)).mono ?_;rintro e w1 ⟨⟨r,rfl,rfl⟩,bj⟩;have eI:Hid (Below A2.heap.size A2 w1):=bj;clear z0 z1 z2 z3 z4 bj aV bY;have z0:w1.cell? ⟨w.heap.size,0,none⟩=some (.int .i64 b.ak):=(xM.out.below eI.out xM.out.lt).cell 0 rfl;have z1:w1.cell? ⟨w.heap.size,1,none⟩=some (.int .i64 b.places):=(xM.out.below eI.out xM.out.lt).cell 1 rfl;have z2:w1.cell? ⟨w.heap.size,2,none⟩=some (.slice a2 b.parts.length c2):=(xM.out.below eI.out xM.out.lt).cell 2 rfl;have z3:w1.cell? ⟨w.heap.size,3,none⟩=some (.slice a3 b.apart.length c3):=(xM.out.below eI.out xM.out.lt).cell 3 rfl;have z4:w1.cell? ⟨w.heap.size,4,none⟩=some (.slice a4 b.ab.length c4):=(xM.out.below eI.out xM.out.lt).cell 4 rfl;go_wp2_with fail
 obtain⟨A4,sF⟩:∃A,w1.alloc (.cells #[.int .i64 b.ak,.int .i64 b.places,.slice a2 b.parts.length c2,.slice a3 b.apart.length c3,.slice a4 b.ab.length c4] 66)=A:=⟨_,rfl⟩
 rw[sF];have QU:A4.heap.size=w1.heap.size+1:=by rw[<-sF];simp
 have AO:Hid (aF A4 w1.heap.size 66 #[.int .i64 b.ak,.int .i64 b.places,.slice a2 b.parts.length c2,.slice a3 b.apart.length c3,.slice a4 b.ab.length c4]):=by rw[<-sF];exact aF.new _ _ _
 have Sq:Hid (Below A2.heap.size A2 A4):=by rw[<-sF];exact eI.out.alloc eI.out.size _
 refine(QY.out A4 (zO.out.trans (Sq.out.mono zO.out.size))).mono ?_;rintro e w2 ⟨rfl,fk⟩;have eJ:Hid (Below A4.heap.size A4 w2):=fk;clear z0 z1 z2 z3 z4 fk sF;have z0:w2.cell? ⟨w1.heap.size,0,none⟩=some (.int .i64 b.ak):=(AO.out.below eJ.out AO.out.lt).cell 0 rfl;have z1:w2.cell? ⟨w1.heap.size,1,none⟩=some (.int .i64 b.places):=(AO.out.below eJ.out AO.out.lt).cell 1 rfl;have z2:w2.cell? ⟨w1.heap.size,2,none⟩=some (.slice a2 b.parts.length c2):=(AO.out.below eJ.out AO.out.lt).cell 2 rfl;have z3:w2.cell? ⟨w1.heap.size,3,none⟩=some (.slice a3 b.apart.length c3):=(AO.out.below eJ.out AO.out.lt).cell 3 rfl;have z4:w2.cell? ⟨w1.heap.size,4,none⟩=some (.slice a4 b.ab.length c4):=(AO.out.below eJ.out AO.out.lt).cell 4 rfl;have qG:Hid (Below A2.heap.size A2 w2):=Sq.out.trans (eJ.out.mono Sq.out.size);have Sr:Hid (Below w.heap.size w w2):=zO.out.trans (qG.out.mono zO.out.size);go_wp2_with fail
 refine(Eb w2 b a2 c2 _ _ ag (HB.out.later (Kp.of Sr.out)) HV.out (fun X t hX=>Jv.out X t (Sr.out.trans (hX.mono Sr.out.size)))).mono ?_;rintro e w3 ⟨⟨v5,rfl,Vr⟩,MV⟩
 have HV5:Hid (∀W',ac [w.heap.size+1] w3 W'->bV 5 W' v5 (aM b ag)):=fun W' hk=>bV.dW Js MU (bz Vr fun k e=>by
  have h1:=aE Vr k e;have h2:=qG.out.size;refine hk.block k h1.2 ?_;simp;omega)
 have QZ:Hid (oe w v5):=oe.of Vr Sr.out.size;have gi:Hid (Below w2.heap.size w2 w3):=MV;have Cy:Hid (Below A2.heap.size A2 w3):=qG.out.trans (gi.out.mono qG.out.size);have tn:Hid (aF w3 (w.heap.size+1) 71 #[.int .i64 0,.int .i64 0,.slice none 0 0,.slice none 0 0,.slice none 0 0,.slice none 0 0]):=Vq.out.below Cy.out Vq.out.lt;have Vs:Hid (aF w3 w1.heap.size 66 #[.int .i64 b.ak,.int .i64 b.places,.slice a2 b.parts.length c2,.slice a3 b.apart.length c3,.slice a4 b.ab.length c4]):=AO.out.below (eJ.out.trans (gi.out.mono eJ.out.size)) AO.out.lt;have MW:Hid (Below w.heap.size w w3):=zO.out.trans (Cy.out.mono zO.out.size);obtain⟨a5,c5,rfl⟩:=jl Vr;clear z0 z1 z2 z3 z4 MV Vr;have z0:w3.cell? ⟨w1.heap.size,0,none⟩=some (.int .i64 b.ak):=Vs.out.cell 0 rfl;have z1:w3.cell? ⟨w1.heap.size,1,none⟩=some (.int .i64 b.places):=Vs.out.cell 1 rfl;have z2:w3.cell? ⟨w1.heap.size,2,none⟩=some (.slice a2 b.parts.length c2):=Vs.out.cell 2 rfl;have z3:w3.cell? ⟨w1.heap.size,3,none⟩=some (.slice a3 b.apart.length c3):=Vs.out.cell 3 rfl;have z4:w3.cell? ⟨w1.heap.size,4,none⟩=some (.slice a4 b.ab.length c4):=Vs.out.cell 4 rfl;have f0:w3.frozen? ⟨w.heap.size+1,0,none⟩=false:=tn.out.bM 0;have f1:w3.frozen? ⟨w.heap.size+1,1,none⟩=false:=tn.out.bM 1;have f2:w3.frozen? ⟨w.heap.size+1,2,none⟩=false:=tn.out.bM 2;have f3:w3.frozen? ⟨w.heap.size+1,3,none⟩=false:=tn.out.bM 3;have f4:w3.frozen? ⟨w.heap.size+1,4,none⟩=false:=tn.out.bM 4;have f5:w3.frozen? ⟨w.heap.size+1,5,none⟩=false:=tn.out.bM 5;have t0:w3.cell? ⟨w.heap.size+1,0,none⟩=some (.int .i64 0):=tn.out.cell 0 rfl;have t1:w3.cell? ⟨w.heap.size+1,1,none⟩=some (.int .i64 0):=tn.out.cell 1 rfl;have t2:w3.cell? ⟨w.heap.size+1,2,none⟩=some (.slice none 0 0):=tn.out.cell 2 rfl;have t3:w3.cell? ⟨w.heap.size+1,3,none⟩=some (.slice none 0 0):=tn.out.cell 3 rfl;have t4:w3.cell? ⟨w.heap.size+1,4,none⟩=some (.slice none 0 0):=tn.out.cell 4 rfl;have t5:w3.cell? ⟨w.heap.size+1,5,none⟩=some (.slice none 0 0):=tn.out.cell 5 rfl;have hlen:=sL HV.out ag;by_cases h0:(dw ag b.parts b.parts.length 0 (fun _=>0))=[]
 .have Q0:Hid (aM b ag=[]):=h0;rw[h0]at*;simp only[List.length_nil];go_wp2_with fail
  obtain⟨WF,vi⟩:∃W,((((((w3.setCell ⟨w.heap.size+1,0,none⟩ (.int .i64 0)).setCell ⟨w.heap.size+1,1,none⟩ (.int .i64 0)).setCell ⟨w.heap.size+1,2,none⟩ (.slice none 0 0)).setCell
   ⟨w.heap.size+1,3,none⟩ (.slice none 0 0)).setCell ⟨w.heap.size+1,4,none⟩ (.slice none 0 0)).setCell ⟨w.heap.size+1,5,none⟩ (.slice none 0 0))=W:=⟨_,rfl⟩
  obtain⟨kF,CA⟩:=tY (.int .i64 0) (.int .i64 0) (.slice none 0 0) (.slice none 0 0) (.slice none 0 0) (.slice none 0 0) tn.out;rw[vi]at kF CA⊢;have tZ:Below w.heap.size w WF:=MW.out.trans (CA.below (by simp) MW.out.size);have q0:=kF.cell 0 rfl;have q1:=kF.cell 1 rfl;have q2:=kF.cell 2 rfl;have q3:=kF.cell 3 rfl;have q4:=kF.cell 4 rfl;have q5:=kF.cell 5 rfl;refine bodyPost_ret (v:=.tuple #[ku,.int .i64 9]) ?_ rfl ⟨.inl ⟨Q0.out,rfl⟩,tZ⟩;rw[results_cell_tmp rfl];go_simp
 .have gL:0<(dw ag b.parts b.parts.length 0 (fun _=>0)).length:=List.length_pos_iff.2 h0;have Q0:Hid (aM b ag≠ []):=h0;generalize Jw:(dw ag b.parts b.parts.length 0 (fun _=>0)).length=ln at*;have hln:¬((ln:Int)=0):=by omega
  have zgG:((ln:Int)==0)=false:=by simp;omega
  go_wp2_with fail
  obtain⟨WF,vi⟩:∃W,((((((w3.setCell ⟨w.heap.size+1,0,none⟩ (.int .i64 b.ak)).setCell ⟨w.heap.size+1,1,none⟩ (.int .i64 b.places)).setCell ⟨w.heap.size+1,2,none⟩ (.slice a2 b.parts.length c2)).setCell
   ⟨w.heap.size+1,3,none⟩ (.slice a3 b.apart.length c3)).setCell ⟨w.heap.size+1,4,none⟩ (.slice a4 b.ab.length c4)).setCell ⟨w.heap.size+1,5,none⟩ (.slice a5 ln c5))=W:=⟨_,rfl⟩
  obtain⟨kF,CA⟩:=tY (.int .i64 b.ak) (.int .i64 b.places) (.slice a2 b.parts.length c2) (.slice a3 b.apart.length c3) (.slice a4 b.ab.length c4) (.slice a5 ln c5) tn.out;rw[vi]at kF CA⊢;have tZ:Below w.heap.size w WF:=MW.out.trans (CA.below (by simp) MW.out.size);have q0:=kF.cell 0 rfl;have q1:=kF.cell 1 rfl;have q2:=kF.cell 2 rfl;have q3:=kF.cell 3 rfl;have q4:=kF.cell 4 rfl;have q5:=kF.cell 5 rfl;refine bodyPost_ret (v:=.tuple #[Ju b (.slice a2 b.parts.length c2) (.slice a3 b.apart.length c3) (.slice a4 b.ab.length c4) (.slice a5 ln c5),.int .i64 0]) ?_ rfl ⟨.inr ⟨Q0.out,a5,c5,by rw[Jw],by rw[Jw];exact HV5.out WF CA,by rw[Jw];exact QZ.out⟩,tZ⟩;rw[results_cell_tmp rfl];go_simp
theorem Jy (w:World) (b:ao) (v:Value) (a2:Option Addr) (c2:Nat) (v3 v4:Value) (ag:(Nat->Int)->Bool) (GB:v=.agg #[.int .i64 b.ak,.int .i64 b.places,.slice a2 b.parts.length c2,v3,v4]) (hb:au w v b) (hv:Valid b) (hc:jH w)
 (kA:∀X t,Below w.heap.size w X->Calls ZP 122 #[v,.agg (tick t)] X (bK X (.bool (ag t)))):
 Calls ZP 45 #[v,.func (.func 64) #[] #[]] w (sN w b (.slice a2 b.parts.length c2) v3 v4 (aM b ag)):=
 lQ 64 ZC64 w b v a2 c2 v3 v4 ag GB hb hv hc #[] kA fun X _=>by subst GB;exact zN X _ _ _ _ _
def cg (m:Nat->Int) (N:Nat) (t0:Nat->Int) (L:List (Nat->Int)):Int:=L.foldl (fun a t=>min a (aB m t N)) (aB m t0 N)
def ci (m:Nat->Int) (N:Nat) (t0:Nat->Int) (L:List (Nat->Int)):Int:=L.foldl (fun a t=>max a (aB m t N)) (aB m t0 N)
def fq (N:Nat) (L:List (Nat->Int)) (m:Nat->Int):Int:=ci m N (L.headD fun _=>0) L.tail
def gW (N:Nat) (L:List (Nat->Int)) (m:Nat->Int):Int:=cg m N (L.headD fun _=>0) L.tail
theorem zP (m:Nat->Int) (N:Nat) (t0 t:Nat->Int) (L:List (Nat->Int)):ci m N t0 (L++[t])=max (ci m N t0 L) (aB m t N):=by simp[ci]
theorem zQ (m:Nat->Int) (N:Nat) (t0 t:Nat->Int) (L:List (Nat->Int)):cg m N t0 (L++[t])=min (cg m N t0 L) (aB m t N):=by simp[cg]
noncomputable def du (b:ao) (L:List (Nat->Int)):List (Nat->Int):=(aR b).filter fun m=>decide (fq b.places.toNat L m<=b.ak)
def bare (l:List Part) (i:Nat):List Part:=match l[i]? with|some x=>l.set i {x with fits:=[]}|none=>l
theorem qf (h:l[k]?=some t):ci m N t0 (l.take (k+1))=max (ci m N t0 (l.take k)) (aB m t N):=by
 rw[List.take_add_one,h];exact zP ..
theorem qg (h:l[k]?=some t):cg m N t0 (l.take (k+1))=min (cg m N t0 (l.take k)) (aB m t N):=by
 rw[List.take_add_one,h];exact zQ ..
theorem pu (w:World) (v2 v3 v4 v5:Value) (b:ao) (N:Nat) (hN:b.places=N) (zJ:N<=4) (L:List (Nat->Int)) (hL:bV 5 w v5 L) (bJ:L≠ []) (m:Nat->Int) (hm:∀i,0<=m i/\m i<5) (ht:∀t∈L,∀i,0<=t i/\t i<=20):
 Calls ZP 54 #[Ju b v2 v3 v4 v5,.agg (cW m)] w (bK w (.agg #[.int .i64 (gW N L m),.int .i64 (fq N L m)])):=by
 obtain⟨t0,l,rfl⟩:∃t0 l,L=t0::l:=by cases L with
  |nil=>exact absurd rfl bJ
  |cons a l=>exact⟨a,l,rfl⟩
 have HL:=hid hL;have HT:=hid ht;have HM:=hid hm;have HN:=hid hN;obtain⟨a,cap,hs,he⟩:=hL;obtain⟨⟨blk,off,sp⟩,t1,rfl,hx,xE⟩:=hs.elem he (k:=0) (by simp);simp at hx;subst hx;obtain rfl:sp=none:=(xE 0 (by omega)).1;have HE:Hid (bH w v5 (t0::l).length (some ⟨blk,off,none⟩) cap/\_):=⟨hs,he⟩
 obtain⟨rfl,hle,iG,_,_⟩:=hs;unfold maxLen at iG;clear ht hm bJ;obtain⟨A1,aV⟩:=ex1 (w.alloc (.cells #[.int .i64 b.ak,.int .i64 b.places,v2,v3,v4,.slice (some ⟨blk,off,none⟩) (t0::l).length cap] 71));obtain⟨A2,bY⟩:=ex1 (A1.alloc (.cells (cW m) 86));obtain⟨A3,iI⟩:=ex1 (A2.alloc (.cells #[.int .i64 0,.int .i64 0] 37));have eE:=snew aV;have mh:=snew2 bY eE;have A8:=snew2 iI mh
 have B1:Hid (aF A3 w.heap.size 71 #[.int .i64 b.ak,.int .i64 b.places,v2,v3,v4,.slice (some ⟨blk,off,none⟩) (t0::l).length cap]):=by
  rw[<-iI];refine(ac.alloc [] _ _).box ?_ (by simp);rw[<-bY];refine(ac.alloc [] _ _).box ?_ (by simp);rw[<-aV];exact aF.new _ _ _
 have B2:Hid (aF A3 (w.heap.size+1) 86 (cW m)):=by
  rw[<-iI];refine(ac.alloc [] _ _).box ?_ (by simp);rw[<-bY,<-eE];exact aF.new _ _ _
 have B3:=bnew2 iI mh;have HW:=wnew3 aV bY iI;obtain⟨z0,z1,z2,z3,z4,z5⟩:=B1.o.a6;obtain⟨y0,y1,y2,y3⟩:=B2.o.a4;have r0:∀X:ai A3,X.1.cell? ⟨blk,off,none⟩=some (.int .i64 (t0 0)):=fun X=>X.cell (by simpa using((xE 0 (by omega)).later (Kp.of HW.o)).2);have r1:∀X:ai A3,X.1.cell? ⟨blk,off+1,none⟩=some (.int .i64 (t0 1)):=fun X=>X.cell (by simpa using((xE 1 (by omega)).later (Kp.of HW.o)).2);have r2:∀X:ai A3,X.1.cell? ⟨blk,off+2,none⟩=some (.int .i64 (t0 2)):=fun X=>X.cell (by simpa using((xE 2 (by omega)).later (Kp.of HW.o)).2);have r3:∀X:ai A3,X.1.cell? ⟨blk,off+3,none⟩=some (.int .i64 (t0 3)):=fun X=>X.cell (by simpa using((xE 3 (by omega)).later (Kp.of HW.o)).2);have r4:∀X:ai A3,X.1.cell? ⟨blk,off+4,none⟩=some (.int .i64 (t0 4)):=fun X=>X.cell (by simpa using((xE 4 (by omega)).later (Kp.of HW.o)).2)
 have mV:∀X:ai A3,Calls ZP 107 #[.agg #[.int .i64 b.ak,.int .i64 b.places,v2,v3,v4],.agg (cW m),.agg (tick t0)] X.1 (fun e gI=>e=.returned (.int .i64 (aB m t0 N))/\∃Y:ai A3,gI=Y.1):=fun X=>
  (zI X.1 v2 v3 v4 b N HN.o zJ m t0 (fun i _=>HM.o i) (HT.o t0 (by simp))).mono fun e w' h=>⟨h.1,X.on h.2⟩
 simp only[cW,tick]at bY mV⊢;simp only[List.length_cons]at aV z5 hle⊢;have P7:((l.length+1:Nat):Int)=(l.length:Int)+1:=by omega
 clear xE he hN;go_enter ZF54,Tryz.ntmps54
 go_wp2_with fail
 refine am (by kernel_rfl) (by kernel_rfl) ?_;repeat(go_big_quiet_step (first|(go_at_call 107;exact mV _)))
 refine wpQuiet_nil ?_;rintro _ ⟨X,rfl⟩;have OB:=HW.t X.2;obtain⟨W,hW⟩:=ex1 (X.1);rw[hW];have HK:Hid (Below A3.heap.size A3 W):=by rw[<-hW];exact X.2
 obtain⟨W1,FH⟩:=ex1 (W.alloc (.cells #[.int .i64 (aB m t0 N),.int .i64 (aB m t0 N)] 37));have x5:W.cell? ⟨w.heap.size,5,none⟩=some (.slice (some ⟨blk,off,none⟩) (l.length+1) cap):=by rw[<-hW];exact z5 X
 have x5':W1.cell? ⟨w.heap.size,5,none⟩=some (.slice (some ⟨blk,off,none⟩) (l.length+1) cap):=by
  rw[<-FH];exact(dI (by have:=HK.o.size;show w.heap.size<_;omega) _).trans x5
 rw[hW]at OB;clear mV z0 z1 z2 z3 z4 z5 y0 y1 y2 y3 r0 r1 r2 r3 r4 hW X x5;by_cases hc1:cap=1
 .have MX:l=[]:=List.eq_nil_of_length_eq_zero (by omega);subst MX;have q0:W1.cell? ⟨W.heap.size,0,none⟩=some (.int .i64 (aB m t0 N)):=by rw[<-FH];exact(aF.new W 37 _).cell 0 rfl
  have q1:W1.cell? ⟨W.heap.size,1,none⟩=some (.int .i64 (aB m t0 N)):=by rw[<-FH];exact(aF.new W 37 _).cell 1 rfl
  go_wp2_with fail
  go_loopw [24] (fun i wr=>i=.int .i64 0/\Hid (aF wr W.heap.size 37 #[.int .i64 (cg m N t0 []),.int .i64 (ci m N t0 [])])/\Hid (ac [W.heap.size] W wr)) (fun _ _=>0)
  case atStart=>exact⟨rfl,by rw[<-FH];exact aF.new W 37 _,by rw[<-FH];exact ac.alloc _ _ _⟩
  case round=>
   obtain⟨rfl,qH,KK⟩:=hrel;have oC:aF wr (w.heap.size+1+1) 37 #[.int .i64 0,.int .i64 0]:=KK.o.box ((ac.of (O:=[]) HK.o).box B3.o (by simp)) (by have:=HK.o.size;simp;omega);have p0:=oC.cell 0 rfl;have p1:=oC.cell 1 rfl;have p2:=oC.bM 0;have p3:=oC.bM 1;have q0:=qH.o.cell 0 rfl;have q1:=qH.o.cell 1 rfl;go_wp2
   obtain⟨WF,vi⟩:=ex1 ((wr.setCell ⟨w.heap.size+1+1,0,none⟩ (.int .i64 (cg m N t0 []))).setCell ⟨w.heap.size+1+1,1,none⟩ (.int .i64 (ci m N t0 [])));have kF:aF WF (w.heap.size+1+1) 37 #[.int .i64 (cg m N t0 []),.int .i64 (ci m N t0 [])]:=by rw[<-vi];exact(oC.set 0 _).set 1 _
   have CA:ac [w.heap.size+1+1] wr WF:=by rw[<-vi];exact(ac.set wr (by simp) _).trans' (ac.set _ (by simp) _)
   have tZ:Below w.heap.size w WF:=OB.o.trans ((KK.o.below (by have:=HK.o.size;simp;omega) OB.o.size).trans (CA.below (by simp;omega) (by have:=KK.o.size;have:=OB.o.size;omega)));have u0:=kF.cell 0 rfl;have u1:=kF.cell 1 rfl;rw[vi];refine bodyPost_ret (v:=.agg #[.int .i64 (gW N (t0:: []) m),.int .i64 (fq N (t0:: []) m)]) ?_ rfl ⟨rfl,tZ⟩;rw[gV rfl];go_simp;exact⟨rfl,rfl⟩
 .go_wp2_with fail
  go_loopw [24] (fun i wr=>∃k:Nat,k<=l.length/\i=.int .i64 k/\Hid (aF wr W.heap.size 37 #[.int .i64 (cg m N t0 (l.take k)),.int .i64 (ci m N t0 (l.take k))])/\Hid (ac [W.heap.size] W wr)) (fun i _=>l.length-(intOf i).toNat)
  case atStart=>exact⟨0,Nat.zero_le _,rfl,by rw[<-FH];exact aF.new W 37 _,by rw[<-FH];exact ac.alloc _ _ _⟩
  case round=>
   obtain⟨k,hk,rfl,qH,KK⟩:=hrel;by_cases az:k<l.length
   .have hx:l[k]?=some l[k]:=List.getElem?_eq_getElem az;obtain⟨t,htt⟩:=ex1 (l[k]);rw[htt]at hx
    have bt:∀r,r<5->wr.cell? ⟨blk,off+5+k*5+r,none⟩=some (.int .i64 (t r)):=fun r hr=>by
     have h1:=(HE.o.2 _ rfl (k+1) t (by simpa using hx) r hr)
     have h2:=h1.later (Kp.of OB.o);have h3:=h2.lt;have h4:=h2.2;rw[show off+5+k*5+r=off+((k+1)*5+r) by omega];exact(World.cell?_of_block (w:=W) (a:=⟨blk,off+((k+1)*5+r),none⟩) (KK.o.block blk h3 (by simp at h3⊢;omega))).trans h4
    have r0:=bt 0 (by omega);have r1:=bt 1 (by omega);have r2:=bt 2 (by omega);have r3:=bt 3 (by omega);have r4:=bt 4 (by omega);simp only[Nat.add_zero]at r0;have HX:=hid hx
    have hWg:∀(g tt:Nat) (cs:Array Value),g<A3.heap.size->aF A3 g tt cs->aF wr g tt cs:=fun g tt cs hg h=>
     KK.o.box ((ac.of (O:=[]) HK.o).box h (by simp)) (by have:=HK.o.size;simp;omega)
    have BW1:=hWg _ _ _ (by omega) B1.o;have BW2:=hWg _ _ _ (by omega) B2.o;obtain⟨wt,Jz⟩:=ex1 (wr.alloc (.cells (tick t) 77));have Vt:=knew Jz;have HBt:Hid (aF wt W.heap.size 37 #[.int .i64 (cg m N t0 (l.take k)),.int .i64 (ci m N t0 (l.take k))]):=Vt.box qH.o (by simp);have HKt:Hid (ac [W.heap.size] W wt):=KK.o.trans (O':=[]) Vt (by simp);have BT1:=Vt.box BW1 (by simp);have BT2:=Vt.box BW2 (by simp);obtain⟨s0,s1,s2,s3,s4⟩:=BT1.c5;obtain⟨y0,y1,y2,y3⟩:=BT2.c4;have BX:=aF.new wr 77 (tick t);rw[Jz]at BX;obtain⟨e0,e1,e2,e3,e4⟩:=BX.c5;have hC:=zI wt v2 v3 v4 b N HN.o zJ m t (fun i _=>HM.o i) (HT.o t (by have:=List.mem_of_getElem? HX.o;simp[this]));simp only[cW,tick]at hC Jz;have nL:(k:Int)<(l.length:Int):=by omega
    have Jo:=hid az;clear bt hx htt hWg BW1 BW2 Vt BT1 BT2 BX hk az;go_wp2_with fail
    refine hC.mono ?_;rintro e w2 ⟨rfl,fk⟩;have eJ:Hid (ac [W.heap.size] W w2):=HKt.o.trans (O':=[]) (ac.of fk) (by simp);have AN:Hid (aF w2 W.heap.size 37 #[.int .i64 (cg m N t0 (l.take k)),.int .i64 (ci m N t0 (l.take k))]):=(ac.of (O:=[]) fk).box HBt.o (by simp);have q0:=AN.o.cell 0 rfl;have q1:=AN.o.cell 1 rfl;have g0:=AN.o.bM 0;have g1:=AN.o.bM 1;have Su:=qg (m:=m) (N:=N) (t0:=t0) HX.o;have Sv:=qf (m:=m) (N:=N) (t0:=t0) HX.o;have Sx:Hid (cg m N t0 (l.take (k+1))=min (cg m N t0 (l.take k)) (aB m t N)/\ci m N t0 (l.take (k+1))=max (ci m N t0 (l.take k)) (aB m t N)):=⟨Su,Sv⟩
    clear hC fk Su Sv s0 s1 s2 s3 s4 y0 y1 y2 y3 e0 e1 e2 e3 e4 r0 r1 r2 r3 r4 Jz;generalize cg m N t0 (l.take k)=lo at*;generalize ci m N t0 (l.take k)=hi at*;generalize aB m t N=tk at*;go_wp2
    have e1:(if tk<lo then tk else lo)=min lo tk:=by split<;>omega
    have e2:(if hi<tk then tk else hi)=max hi tk:=by split<;>omega
    have vP:=Jo.o;rw[e1,e2];refine⟨⟨k+1,by omega,by go_num,?_,?_⟩,by simp[intOf];omega⟩
    .rw[Sx.o.1,Sx.o.2];exact(AN.o.set 0 _).set 1 _
    .exact eJ.o.trans' ((ac.set _ (by simp) _).trans' (ac.set _ (by simp) _))
   .have e:k=l.length:=by omega
    subst e;rw[List.take_length]at qH;have oC:aF wr (w.heap.size+1+1) 37 #[.int .i64 0,.int .i64 0]:=KK.o.box ((ac.of (O:=[]) HK.o).box B3.o (by simp)) (by have:=HK.o.size;simp;omega);have p0:=oC.cell 0 rfl;have p1:=oC.cell 1 rfl;have p2:=oC.bM 0;have p3:=oC.bM 1;have q0:=qH.o.cell 0 rfl;have q1:=qH.o.cell 1 rfl;go_wp2
    obtain⟨WF,vi⟩:=ex1 ((wr.setCell ⟨w.heap.size+1+1,0,none⟩ (.int .i64 (cg m N t0 l))).setCell ⟨w.heap.size+1+1,1,none⟩ (.int .i64 (ci m N t0 l)));have kF:aF WF (w.heap.size+1+1) 37 #[.int .i64 (cg m N t0 l),.int .i64 (ci m N t0 l)]:=by rw[<-vi];exact(oC.set 0 _).set 1 _
    have CA:ac [w.heap.size+1+1] wr WF:=by rw[<-vi];exact(ac.set wr (by simp) _).trans' (ac.set _ (by simp) _)
    have tZ:Below w.heap.size w WF:=OB.o.trans ((KK.o.below (by have:=HK.o.size;simp;omega) OB.o.size).trans (CA.below (by simp;omega) (by have:=KK.o.size;have:=OB.o.size;omega)));have u0:=kF.cell 0 rfl;have u1:=kF.cell 1 rfl;rw[vi];refine bodyPost_ret (v:=.agg #[.int .i64 (gW N (t0::l) m),.int .i64 (fq N (t0::l) m)]) ?_ rfl ⟨rfl,tZ⟩;rw[gV rfl];go_simp;exact⟨rfl,rfl⟩
theorem pv (w:World) (a b:Int):(Instr.field 37 (.agg #[.int .i64 a,.int .i64 b]) 1).run ZP w=.ok (.int .i64 b) w:=by
 have u:ZP.underlying 37=_:=(Tz.under 37).trans Tryz.underlying37;have a3:=Tryz.isAgg3;have z3:=Tryz.sizeOf3;simp[Instr.field,run_underlying u,asAgg,part,go_sem,a3,z3]
theorem FO (w:World) (a b:Int):(Instr.field 37 (.agg #[.int .i64 a,.int .i64 b]) 0).run ZP w=.ok (.int .i64 a) w:=by
 have u:ZP.underlying 37=_:=(Tz.under 37).trans Tryz.underlying37;have a3:=Tryz.isAgg3;have z3:=Tryz.sizeOf3;simp[Instr.field,run_underlying u,asAgg,part,go_sem,a3,z3]
def Vu (s:Nat) (w:World) (L:List (Nat->Int)) (e:Ending) (w':World):Prop:=(∃v,e=.returned v/\bV s w' v L/\oe w v)/\Below w.heap.size w w'
noncomputable def dU (b:ao) (L:List (Nat->Int)) (k:Nat):List (Nat->Int):=((aR b).take k).filter fun m=>decide (fq b.places.toNat L m<=b.ak)
theorem CB (hx:(aR b)[k]?=some m) (h:fq b.places.toNat L m<=b.ak):dU b L (k+1)=dU b L k++[m]:=by
 unfold dU;rw[List.take_add_one,hx,List.filter_append];simp[h]
theorem FP (hx:(aR b)[k]?=some m) (h:¬fq b.places.toNat L m<=b.ak):dU b L (k+1)=dU b L k:=by
 unfold dU;rw[List.take_add_one,hx,List.filter_append];simp[h]
theorem CD (b:ao) (L:List (Nat->Int)) (k:Nat):(dU b L k).length<=k:=by
 unfold dU;exact Nat.le_trans (List.length_filter_le _ _) (by simp;omega)
theorem zR (w:World) (b:ao) (v2 v3 v4 v5:Value) (L:List (Nat->Int)) (hb:au w (.agg #[.int .i64 b.ak,.int .i64 b.places,v2,v3,v4]) b) (hv:Valid b) (hL:bV 5 w v5 L) (bJ:L≠ []) (ht:∀t∈L,∀i,0<=t i/\t i<=20):
 Calls ZP 60 #[Ju b v2 v3 v4 v5] w (Vu 4 w (du b L)):=by
 have HB:=hid hb;have HV:Hid (Valid b):=hv;have HL:=hid hL;have HT:Hid (L≠ []/\∀t∈L,∀i,0<=t i/\t i<=20):=⟨bJ,ht⟩
 obtain⟨i0,hi,pW,li,m8⟩:=info_parts Jm;obtain⟨A1,aV⟩:=ex1 (w.alloc (.cells #[.int .i64 b.ak,.int .i64 b.places,v2,v3,v4,v5] 71));have eE:=snew aV;have B1:=bnew aV;have HW:=wnew aV;have z0:=B1.o.cell 0 rfl;have z1:=B1.o.cell 1 rfl;have z2:=B1.o.cell 2 rfl;have z3:=B1.o.cell 3 rfl;have z4:=B1.o.cell 4 rfl;clear hb hv hL bJ ht;go_enter ZF60,Tryz.ntmps60
 go_wp2_with fail
 refine(xe A1 _ b (HB.o.later (Kp.of HW.o)) HV.o).mono ?_;rintro e w1 ⟨⟨v8,rfl,hv8⟩,bj⟩;have HM:Hid (bV 4 w1 v8 (aR b)):=bV.dW Ec Jt hv8;have eI:=hid bj;have kE:=HW.t bj;clear hv8 bj z0 z1 z2 z3 z4;obtain⟨a8,c8,hs8,he8⟩:=HM.o;have HE:Hid (bH w1 v8 (aR b).length a8 c8/\_):=⟨hs8,he8⟩
 obtain⟨rfl,hle,iG,_,_⟩:=hs8;unfold maxLen at iG;have sw:=fI HV.o;obtain⟨nn,NQ⟩:=ex1 ((aR b).length);have wS:=hid NQ;rw[NQ]at sw hle⊢;clear he8 NQ iG;go_wp2_with fail
 go_loopw [10,3] (fun i v wr=>∃k:Nat,k<=nn/\i=.int .i64 k/\Hid (wr.ownsRow w1.heap.size 86 4 v (dU b L k).length ((dU b L k).flatMap fun m=>(cW m).toList))/\Hid (Below w1.heap.size w1 wr)) (fun i _ _=>nn-(intOf i).toNat)
 case atStart=>exact⟨0,Nat.zero_le _,rfl,World.ownsRow_nil _ _ _ _,Below.refl _ _⟩
 case round=>
  obtain⟨k,hk,rfl,hO,hB⟩:=hrel;by_cases az:k<nn
  .obtain⟨⟨blk,off,sp⟩,m,rfl,hx,xE⟩:=HE.o.1.elem HE.o.2 (k:=k) (by rw[wS.o];exact az);obtain rfl:sp=none:=(xE 0 (by omega)).1;have bt:∀r,r<4->wr.cell? ⟨blk,off+(k*4+r),none⟩=some (.int .i64 (m r)):=fun r hr=>((xE r hr).later (Kp.of hB.o)).2;have r0:=bt 0 (by omega);have r1:=bt 1 (by omega);have r2:=bt 2 (by omega);have r3:=bt 3 (by omega);simp only[Nat.add_zero,<-Nat.add_assoc]at r0 r1 r2 r3;have HX:=hid hx;have nL:(k:Int)<(nn:Int):=by omega
   have Jo:Hid (k<nn):=az;have tX:=kE.t hB.o;obtain⟨wt,Jz⟩:=ex1 (wr.alloc (.cells (cW m) 86));have bP:=snew Jz;have Xq:Hid (Below wr.heap.size wr wt):=by rw[<-Jz];exact(Below.refl _ _).alloc (Nat.le_refl _) _
   have BS:Hid (aF wt w.heap.size 71 #[.int .i64 b.ak,.int .i64 b.places,v2,v3,v4,v5]):=
    ((B1.o.below eI.o B1.o.lt).below (hB.o.trans (Xq.o.mono hB.o.size)) ((B1.o.below eI.o B1.o.lt).lt))
   have BM:=bnew Jz;obtain⟨s0,s1,s2,s3,s4,s5⟩:=BS.o.a6;obtain⟨m0,m1,m2,m3⟩:=BM.o.a4
   have mV:∀X:ai wt,Calls ZP 54 #[Ju b v2 v3 v4 v5,.agg (cW m)] X.1 (fun e gI=>e=.returned (.agg #[.int .i64 (gW b.places.toNat L m),.int .i64 (fq b.places.toNat L m)])/\∃Y:ai wt,gI=Y.1):=fun X=>
    (pu X.1 v2 v3 v4 v5 b b.places.toNat (by have:=HV.o.places;omega) (by have:=HV.o.places;omega) L (((HL.o.later (Kp.of tX.o)).later (Kp.of Xq.o)).later X.kp) HT.o.1 m (zM HV.o m (List.mem_of_getElem? HX.o)) HT.o.2).mono fun e w' h=>⟨h.1,X.on h.2⟩
   obtain⟨lo,qe⟩:=ex1 (gW b.places.toNat L m);obtain⟨rn,sO⟩:∃x,fq b.places.toNat L m=x:=⟨_,rfl⟩
   have Vv:=hid sO;rw[qe,sO]at mV;simp only[cW]at mV Jz;have hln:=CD b L k;clear bt xE hx qe sO az;by_cases Vw:rn<=b.ak
   .go_wp2_with fail
    refine am (by kernel_rfl) (by kernel_rfl) ?_;go_big_quiet_step (fail)
    go_big_quiet_step (fail)
    go_big_quiet_step (first|(go_at_call 54;exact mV _))
    have MY:=fun w=>pv w lo rn;repeat(go_big_quiet_step (first|(go_at_call 54;exact mV _)))
    refine wpQuiet_nil ?_;rintro _ ⟨X,rfl⟩;obtain⟨W,hW⟩:=ex1 (X.1);have HXt:Hid (Below wt.heap.size wt W):=by rw[<-hW];exact X.2
    have Sy:=Xq.t HXt.o;have Xr:Hid (W.ownsRow w1.heap.size 86 4 u3 (dU b L k).length ((dU b L k).flatMap fun m=>(cW m).toList)):=bz hO.o fun j hj=>Sy.o.block j (aE hO.o j hj).2;have n0:=m0 X;have n1:=m1 X;have n2:=m2 X;have n3:=m3 X;have bX:=Sy.o.size;have zgJ:=hB.o.size;rw[hW]at n0 n1 n2 n3⊢;clear s0 s1 s2 s3 s4 s5 m0 m1 m2 m3 mV MY hW X Jz;have zgK:∀x:Nat->Int,(cW x).toList.length=4:=fun _=>rfl
    go_wp2_with(at_builtin
                refine wpList_append_own _ rfl (.tmp 23) (.tmp 25) 91 rfl w1.heap.size 86 i0 (.agg #[.int .i64 0,.int .i64 0,.int .i64 0,.int .i64 0]) 4 32 D6 hi pW li m8 rfl (by decide) _ _ _ rfl (Xr.o.alloc _) ⟨W.heap.size,0,none⟩ 1 1 (cW m).toList rfl rfl (D7 (aF.new W 86 (cW m))) (D9 m) (by unfold maxLen;omega) (by omega) (by simp;omega) ?_;intro v' w2 eN gE _)
    have q7:Hid (w2.ownsRow w1.heap.size 86 4 v' (dU b L (k+1)).length ((dU b L (k+1)).flatMap fun m=>(cW m).toList)):=(by
     rw[CB HX.o (by rw[Vv.o];exact Vw),List.length_append,List.flatMap_append];have h2:=eN;simp only[List.flatMap_cons,List.flatMap_nil,List.append_nil,List.length_cons,List.length_nil];exact h2)
    have eJ:Hid (Below w1.heap.size w1 w2):=Below.grown (Below.alloc (hB.o.trans (Sy.o.mono hB.o.size)) (by omega) _) gE (by simp;omega) (iZ Xr.o);clear eN gE;have vP:=Jo.o;go_round
    case rel=>exact⟨k+1,by omega,by go_num,q7,eJ⟩
    case measure=>simp[intOf];omega
   .go_wp2_with fail
    refine am (by kernel_rfl) (by kernel_rfl) ?_;have MY:=fun w=>pv w lo rn;repeat(go_big_quiet_step (first|(go_at_call 54;exact mV _)))
    refine wpQuiet_nil ?_;rintro _ ⟨X,rfl⟩;obtain⟨W,hW⟩:=ex1 (X.1);have HXt:Hid (Below wt.heap.size wt W):=by rw[<-hW];exact X.2
    have Sy:=Xq.t HXt.o
    have Xr:Hid (W.ownsRow w1.heap.size 86 4 u3 (dU b L (k+1)).length ((dU b L (k+1)).flatMap fun m=>(cW m).toList)):=by
     rw[FP HX.o (by rw[Vv.o];omega)];exact bz hO.o fun j hj=>Sy.o.block j (aE hO.o j hj).2
    have eJ:=hB.t Sy.o;rw[hW];clear s0 s1 s2 s3 s4 s5 m0 m1 m2 m3 mV MY hW X Jz;have vP:=Jo.o;go_wp2
    go_round
    case rel=>exact⟨k+1,by omega,by go_num,Xr,eJ⟩
    case measure=>simp[intOf];omega
  .have e:k=nn:=by omega
   have q7:Hid (bV 4 wr u3 (du b L)):=by
    have:dU b L k=du b L:=by unfold dU du;rw[e,<-wS.o,List.take_length]
    rw[this]at hO;exact bV.dW Ec Jt hO.o
   have QZ:Hid (oe w u3):=oe.of hO.o kE.o.size;have tX:=kE.t hB.o;go_wp2
   go_ret;exact⟨⟨_,rfl,q7.o,QZ.o⟩,tX.o⟩
def Vx (w:World) (b:ao) (L:List (Nat->Int)) (e:Ending) (w':World):Prop:=
 ((L=[]/\e=.returned (.tuple #[.int .i64 0,.int .i64 9]))\/(L≠ []/\e=.returned (.tuple #[.int .i64 (du b L).length,.int .i64 0])))/\Below w.heap.size w w'
abbrev pw (w:World) (v:Value) (ag:(Nat->Int)->Bool):Prop:=∀X t,Below w.heap.size w X->Calls ZP 122 #[v,.agg (tick t)] X (bK X (.bool (ag t)))
theorem au.cj (h:au w v b):∃a2 c2 a3 c3 a4 c4,v=.agg #[.int .i64 b.ak,.int .i64 b.places,.slice a2 b.parts.length c2,.slice a3 b.apart.length c3,.slice a4 b.ab.length c4]:=by
 obtain⟨v2,v3,v4,rfl,⟨a2,c2,⟨rfl,_,_,_,_⟩,_⟩,⟨a3,c3,⟨rfl,_,_,_,_⟩,_⟩,⟨a4,c4,⟨rfl,_,_,_,_⟩,_⟩⟩:=h;exact⟨a2,c2,a3,c3,a4,c4,rfl⟩
theorem FQ (w:World) (v:Value) (b:ao) (ag:(Nat->Int)->Bool) (hb:au w v b) (hv:Valid b) (hc:jH w) (kA:pw w v ag):Calls ZP 16 #[v] w (Vx w b (aM b ag)):=by
 have HB:=hid hb;have HV:Hid (Valid b):=hv;have HC:Hid (jH w):=hc;obtain⟨a2,c2,a3,c3,a4,c4,rfl⟩:=hb.cj;have Jv:=hid kA;obtain⟨A1,aV⟩:=ex1 (w.alloc (.cells #[.int .i64 b.ak,.int .i64 b.places,.slice a2 b.parts.length c2,.slice a3 b.apart.length c3,.slice a4 b.ab.length c4] 26));have B1:=bnew aV;have HW:=wnew aV;have z0:=B1.o.cell 0 rfl;have z1:=B1.o.cell 1 rfl;have z2:=B1.o.cell 2 rfl;have z3:=B1.o.cell 3 rfl;have z4:=B1.o.cell 4 rfl;clear hb hv hc kA;go_enter ZF16,Tryz.ntmps16
 go_wp2_with fail
 refine(Jy A1 b _ a2 c2 _ _ ag rfl (HB.o.later (Kp.of HW.o)) HV.o (HC.o.later HW.o) (fun X t hX=>Jv.o X t (HW.o.trans (hX.mono HW.o.size)))).mono ?_;rintro e w1 ⟨Kn,bj⟩;have eI:=HW.t bj;have sw:=fI HV.o;clear bj z0 z1 z2 z3 z4 aV;rcases Kn with⟨hL,rfl⟩|⟨hL,a,c,rfl,t6,_⟩
 .have HL:=hid hL;clear hL;go_wp2
  go_ret2;exact⟨.inl ⟨HL.o,rfl⟩,eI.o.alloc eI.o.size _⟩
 .obtain⟨A2,bY⟩:=ex1 (w1.alloc (.cells #[.int .i64 b.ak,.int .i64 b.places,.slice a2 b.parts.length c2,.slice a3 b.apart.length c3,.slice a4 b.ab.length c4,.slice a (aM b ag).length c] 71));have B2:=bnew bY;have zO:=wnew bY;have eJ:=eI.t zO.o;have hC:=zR A2 b _ _ _ _ (aM b ag) (HB.o.later (Kp.of eJ.o)) HV.o (t6.later (Kp.of zO.o)) hL (pr HV.o ag);have z0:=B2.o.cell 0 rfl;have z1:=B2.o.cell 1 rfl;have z2:=B2.o.cell 2 rfl;have z3:=B2.o.cell 3 rfl;have z4:=B2.o.cell 4 rfl;have z5:=B2.o.cell 5 rfl;have HL:=hid hL;clear hL t6;go_wp2_with fail
  refine hC.mono ?_;rintro e w2 ⟨⟨vs,rfl,NM,_⟩,fk⟩;obtain⟨sa,sc,rfl,_,_⟩:=NM.slice;have gi:=eJ.t fk;clear fk NM hC z0 z1 z2 z3 z4 z5 bY;go_wp2
  go_ret2;exact⟨.inr ⟨HL.o,rfl⟩,gi.o⟩
theorem aF.same {t:TypeId} {cs:Array Value} {i:Nat} (h:aF w g t cs) (hv:cs[i]?=some v):w.setCell ⟨g,i,none⟩ v=w:=by
 have e:(w.setCell ⟨g,i,none⟩ v).heap=w.heap:=by
  refine Array.ext_getElem? fun k=>?_;by_cases hk:k=g
  .subst hk;have h1:_=_:=h.set i v
   have h2:cs.setIfInBounds i v=cs:=by
    refine Array.ext_getElem? fun j=>?_;by_cases hj:i=j
    .subst hj;obtain⟨az,hx⟩:=Array.getElem?_eq_some_iff.1 hv;rw[Array.getElem?_setIfInBounds_self_of_lt az,hv]
    .rw[Array.getElem?_setIfInBounds_ne hj]
   rw[h2]at h1;exact h1.trans h.symm
  .exact Below.heap_setCell _ _ _ _ hk
 show({w with heap:=(w.setCell ⟨g,i,none⟩ v).heap}:World)=w;rw[e]
def sP (N:Nat) (m:Nat->Int):List Int:=(List.range N).map m
theorem FS {w':World} {blk off:Nat} (h:∀r,r<s->At w ⟨blk,off,none⟩ (k*s+r) (.int .i64 (t r))) (hk:Kp w w'):∀r,r<s->w'.cell? ⟨blk,off+k*s+r,none⟩=some (.int .i64 (t r)):=fun r hr=>by
 have:=((h r hr).later hk).2;rwa [<-Nat.add_assoc]at this
theorem og {B n:Nat} {e:TypeId} {xs:List Value} (h:w.ownsRow B e s v n xs) (hn:0<n):∃g cap,v=.slice (some ⟨g,0,none⟩) n cap/\B<=g/\g<w.heap.size/\cap<=maxLen/\n<=cap:=by
 obtain⟨_,⟨_,h0⟩|⟨g,cap,cur,rfl,hb,hg,hle,iG,_⟩⟩:=h
 .omega
 .exact⟨g,cap,rfl,hb,(Array.getElem?_eq_some_iff.1 hg).1,iG,hle⟩
end Go.Proofs.Cz
