/- A part. Conditions: none. -/
import Derived.Test.YtddlcmejelobdaaGreatDoorT32
import Derived.Laws.ResultCell
set_option linter.all false
set_option maxHeartbeats 8000000
set_option maxRecDepth 100000
namespace Go.Proofs.Cz
open Go.RowKit
variable {L S l:List (Nat->Int)} {N g k:Nat} {b:ai} {m s t t0:Nat->Int} {v:Value} {w:World} {α:Type}
theorem zQ (w:World) (a b c d e:Value):Calls ZP 52 #[.agg #[a,b,c,d,e]] w (dQ w (.int .i64 0)):=by
 go_enter ZF52,Tryz.ntmps52
 go_wp2
 go_ret;exact⟨rfl,(aa.alloc [] w _).below (by simp) (Nat.le_refl _)⟩
abbrev JN (b:ai) (v2 v3 v4 v5:Value):Value:=.agg #[.int .i64 b.ao,.int .i64 b.places,v2,v3,v4,v5]
abbrev oC:Value:=.agg #[.int .i64 0,.int .i64 0,.slice none 0 0,.slice none 0 0,.slice none 0 0,.slice none 0 0]
theorem VY {W:World} {t:Nat} {c0 c1 c2 c3 c4 c5:Value} (v0 v1 v2 v3 v4 v5:Value) (h:aD W g t #[c0,c1,c2,c3,c4,c5]):
 aD ((((((W.setCell ⟨g,0,none⟩ v0).setCell ⟨g,1,none⟩ v1).setCell ⟨g,2,none⟩ v2).setCell ⟨g,3,none⟩ v3).setCell ⟨g,4,none⟩ v4).setCell ⟨g,5,none⟩ v5) g t #[v0,v1,v2,v3,v4,v5]/\
 aa [g] W ((((((W.setCell ⟨g,0,none⟩ v0).setCell ⟨g,1,none⟩ v1).setCell ⟨g,2,none⟩ v2).setCell ⟨g,3,none⟩ v3).setCell ⟨g,4,none⟩ v4).setCell ⟨g,5,none⟩ v5):=
 ⟨(((((h.set 0 v0).set 1 v1).set 2 v2).set 3 v3).set 4 v4).set 5 v5,
  (((((aa.set W (by simp) v0).trans' (aa.set _ (by simp) v1)).trans' (aa.set _ (by simp) v2)).trans' (aa.set _ (by simp) v3)).trans' (aa.set _ (by simp) v4)).trans' (aa.set _ (by simp) v5)⟩
def JO (w:World) (b:ai) (v2 v3 v4:Value) (L:List (Nat->Int)) (e:Ending) (w':World):Prop:=
 ((L=[]/\e=.returned (.tuple #[oC,.int .i64 9]))\/
  (L≠ []/\∃a c,e=.returned (.tuple #[JN b v2 v3 v4 (.slice a L.length c),.int .i64 0])/\bX 5 w' (.slice a L.length c) L/\qc w (.slice a L.length c)))/\
 Below w.heap.size w w'
theorem ve (f:Nat) (hf:∀(args:Array Value) (w:World),Sem.run ZP (Go.callFunc f args) w=.ok (.enter f args) w) (w:World) (b:ai) (v:Value) (a2:Option Addr) (c2:Nat) (v3 v4:Value) (ag:(Nat->Int)->Bool) (OS:v=.agg #[.int .i64 b.ao,.int .i64 b.places,.slice a2 b.parts.length c2,v3,v4]) (hb:au w v b) (hv:Valid b) (hc:me w)
 (cs:Array Value) (mc:∀X t,Below w.heap.size w X->Calls ZP 135 #[v,.agg (tick t)] X (dQ X (.bool (ag t))))
 (bO:∀X,Below w.heap.size w X->Calls ZP f (#[v]++cs) X (dQ X (.int .i64 0))):
 Calls ZP 51 #[v,.func (.func f) #[] cs] w (JO w b (.slice a2 b.parts.length c2) v3 v4 (aP b ag)):=by
 subst OS;have HB:Hid (au w (.agg #[.int .i64 b.ao,.int .i64 b.places,.slice a2 b.parts.length c2,v3,v4]) b):=hb;have HV:Hid (Valid b):=hv;obtain⟨_,_,_,A9,_,⟨a3,c3,⟨e3,_,_,_,_⟩,_⟩,⟨a4,c4,⟨e4,_,_,_,_⟩,_⟩⟩:=hb;simp only[Value.agg.injEq,Array.mk.injEq,List.cons.injEq,true_and,and_true]at A9;obtain⟨rfl,rfl,rfl⟩:=A9;subst e3 e4;obtain⟨A1,bI⟩:∃A,w.alloc (.cells #[.int .i64 b.ao,.int .i64 b.places,.slice a2 b.parts.length c2,.slice a3 b.apart.length c3,.slice a4 b.ab.length c4] 26)=A:=⟨_,rfl⟩
 obtain⟨A2,cF⟩:∃A,A1.alloc (.cells #[.int .i64 0,.int .i64 0,.slice none 0 0,.slice none 0 0,.slice none 0 0,.slice none 0 0] 81)=A:=⟨_,rfl⟩
 have fW:A1.heap.size=w.heap.size+1:=by rw[<-bI];simp
 have mt:A2.heap.size=w.heap.size+2:=by rw[<-cF];simp[fW]
 have xQ:Hid (aD A2 w.heap.size 26 #[.int .i64 b.ao,.int .i64 b.places,.slice a2 b.parts.length c2,.slice a3 b.apart.length c3,.slice a4 b.ab.length c4]):=by
  rw[<-cF];refine(aa.alloc [] _ _).box ?_ (by simp);rw[<-bI];exact aD.new _ _ _
 have VZ:Hid (aD A2 (w.heap.size+1) 81 #[.int .i64 0,.int .i64 0,.slice none 0 0,.slice none 0 0,.slice none 0 0,.slice none 0 0]):=by rw[<-cF,<-fW];exact aD.new _ _ _
 have xk:Hid (Below w.heap.size w A2):=by rw[<-cF,<-bI];exact((aa.alloc [] _ _).eY _).below (by simp) (Nat.le_refl _)
 have HC:Hid (me w):=hc;have RF:Hid (∀X t,Below w.heap.size w X->Calls ZP 135 #[.agg #[.int .i64 b.ao,.int .i64 b.places,.slice a2 b.parts.length c2,.slice a3 b.apart.length c3,.slice a4 b.ab.length c4],.agg (tick t)] X (dQ X (.bool (ag t)))):=mc;have z0:A2.cell? ⟨w.heap.size,0,none⟩=some (.int .i64 b.ao):=xQ.out.cell 0 rfl;have z1:A2.cell? ⟨w.heap.size,1,none⟩=some (.int .i64 b.places):=xQ.out.cell 1 rfl;have z2:A2.cell? ⟨w.heap.size,2,none⟩=some (.slice a2 b.parts.length c2):=xQ.out.cell 2 rfl;have z3:A2.cell? ⟨w.heap.size,3,none⟩=some (.slice a3 b.apart.length c3):=xQ.out.cell 3 rfl;have z4:A2.cell? ⟨w.heap.size,4,none⟩=some (.slice a4 b.ab.length c4):=xQ.out.cell 4 rfl;have F8:Hid (∀X,Below w.heap.size w X->Calls ZP f (#[.agg #[.int .i64 b.ao,.int .i64 b.places,.slice a2 b.parts.length c2,.slice a3 b.apart.length c3,.slice a4 b.ab.length c4]]++cs) X (dQ X (.int .i64 0))):=bO;clear hv hc mc bO;go_enter ZF51,Tryz.ntmps51
 go_wp2_with fail
 refine(nf A2 _ b (HB.out.later (Kp.of xk.out)) HV.out (HC.out.later xk.out)).mono ?_;rintro e w1 ⟨⟨r,rfl,rfl⟩,bE⟩;have fB:Hid (Below A2.heap.size A2 w1):=bE;clear z0 z1 z2 z3 z4 bE bI cF;have z0:w1.cell? ⟨w.heap.size,0,none⟩=some (.int .i64 b.ao):=(xQ.out.below fB.out xQ.out.lt).cell 0 rfl;have z1:w1.cell? ⟨w.heap.size,1,none⟩=some (.int .i64 b.places):=(xQ.out.below fB.out xQ.out.lt).cell 1 rfl;have z2:w1.cell? ⟨w.heap.size,2,none⟩=some (.slice a2 b.parts.length c2):=(xQ.out.below fB.out xQ.out.lt).cell 2 rfl;have z3:w1.cell? ⟨w.heap.size,3,none⟩=some (.slice a3 b.apart.length c3):=(xQ.out.below fB.out xQ.out.lt).cell 3 rfl;have z4:w1.cell? ⟨w.heap.size,4,none⟩=some (.slice a4 b.ab.length c4):=(xQ.out.below fB.out xQ.out.lt).cell 4 rfl;go_wp2_with fail
 obtain⟨A4,kF⟩:∃A,w1.alloc (.cells #[.int .i64 b.ao,.int .i64 b.places,.slice a2 b.parts.length c2,.slice a3 b.apart.length c3,.slice a4 b.ab.length c4] 78)=A:=⟨_,rfl⟩
 rw[kF];have CE:A4.heap.size=w1.heap.size+1:=by rw[<-kF];simp
 have AH:Hid (aD A4 w1.heap.size 78 #[.int .i64 b.ao,.int .i64 b.places,.slice a2 b.parts.length c2,.slice a3 b.apart.length c3,.slice a4 b.ab.length c4]):=by rw[<-kF];exact aD.new _ _ _
 have S0:Hid (Below A2.heap.size A2 A4):=by rw[<-kF];exact fB.out.alloc fB.out.size _
 refine(F8.out A4 (xk.out.trans (S0.out.mono xk.out.size))).mono ?_;rintro e w2 ⟨rfl,gz⟩;have iI:Hid (Below A4.heap.size A4 w2):=gz;clear z0 z1 z2 z3 z4 gz kF;have z0:w2.cell? ⟨w1.heap.size,0,none⟩=some (.int .i64 b.ao):=(AH.out.below iI.out AH.out.lt).cell 0 rfl;have z1:w2.cell? ⟨w1.heap.size,1,none⟩=some (.int .i64 b.places):=(AH.out.below iI.out AH.out.lt).cell 1 rfl;have z2:w2.cell? ⟨w1.heap.size,2,none⟩=some (.slice a2 b.parts.length c2):=(AH.out.below iI.out AH.out.lt).cell 2 rfl;have z3:w2.cell? ⟨w1.heap.size,3,none⟩=some (.slice a3 b.apart.length c3):=(AH.out.below iI.out AH.out.lt).cell 3 rfl;have z4:w2.cell? ⟨w1.heap.size,4,none⟩=some (.slice a4 b.ab.length c4):=(AH.out.below iI.out AH.out.lt).cell 4 rfl;have GX:Hid (Below A2.heap.size A2 w2):=S0.out.trans (iI.out.mono S0.out.size);have S3:Hid (Below w.heap.size w w2):=xk.out.trans (GX.out.mono xk.out.size);go_wp2_with fail
 refine(Ei w2 b a2 c2 _ _ ag (HB.out.later (Kp.of S3.out)) HV.out (fun X t hX=>RF.out X t (S3.out.trans (hX.mono S3.out.size)))).mono ?_;rintro e w3 ⟨⟨v5,rfl,V2⟩,GY⟩
 have HV5:Hid (∀W',aa [w.heap.size+1] w3 W'->bX 5 W' v5 (aP b ag)):=fun W' hk=>bX.ii JL M4 (bH V2 fun k e=>by
  have h1:=be V2 k e;have h2:=GX.out.size;refine hk.block k h1.2 ?_;simp;omega)
 have S4:Hid (qc w v5):=qc.of V2 S3.out.size;have jp:Hid (Below w2.heap.size w2 w3):=GY;have RG:Hid (Below A2.heap.size A2 w3):=GX.out.trans (jp.out.mono GX.out.size);have xi:Hid (aD w3 (w.heap.size+1) 81 #[.int .i64 0,.int .i64 0,.slice none 0 0,.slice none 0 0,.slice none 0 0,.slice none 0 0]):=VZ.out.below RG.out VZ.out.lt;have V3:Hid (aD w3 w1.heap.size 78 #[.int .i64 b.ao,.int .i64 b.places,.slice a2 b.parts.length c2,.slice a3 b.apart.length c3,.slice a4 b.ab.length c4]):=AH.out.below (iI.out.trans (jp.out.mono iI.out.size)) AH.out.lt;have M5:Hid (Below w.heap.size w w3):=xk.out.trans (RG.out.mono xk.out.size);obtain⟨a5,c5,rfl⟩:=mA V2;clear z0 z1 z2 z3 z4 GY V2;have z0:w3.cell? ⟨w1.heap.size,0,none⟩=some (.int .i64 b.ao):=V3.out.cell 0 rfl;have z1:w3.cell? ⟨w1.heap.size,1,none⟩=some (.int .i64 b.places):=V3.out.cell 1 rfl;have z2:w3.cell? ⟨w1.heap.size,2,none⟩=some (.slice a2 b.parts.length c2):=V3.out.cell 2 rfl;have z3:w3.cell? ⟨w1.heap.size,3,none⟩=some (.slice a3 b.apart.length c3):=V3.out.cell 3 rfl;have z4:w3.cell? ⟨w1.heap.size,4,none⟩=some (.slice a4 b.ab.length c4):=V3.out.cell 4 rfl;have f0:w3.frozen? ⟨w.heap.size+1,0,none⟩=false:=xi.out.cz 0;have f1:w3.frozen? ⟨w.heap.size+1,1,none⟩=false:=xi.out.cz 1;have f2:w3.frozen? ⟨w.heap.size+1,2,none⟩=false:=xi.out.cz 2;have f3:w3.frozen? ⟨w.heap.size+1,3,none⟩=false:=xi.out.cz 3;have f4:w3.frozen? ⟨w.heap.size+1,4,none⟩=false:=xi.out.cz 4;have f5:w3.frozen? ⟨w.heap.size+1,5,none⟩=false:=xi.out.cz 5;have t0:w3.cell? ⟨w.heap.size+1,0,none⟩=some (.int .i64 0):=xi.out.cell 0 rfl;have t1:w3.cell? ⟨w.heap.size+1,1,none⟩=some (.int .i64 0):=xi.out.cell 1 rfl;have t2:w3.cell? ⟨w.heap.size+1,2,none⟩=some (.slice none 0 0):=xi.out.cell 2 rfl;have t3:w3.cell? ⟨w.heap.size+1,3,none⟩=some (.slice none 0 0):=xi.out.cell 3 rfl;have t4:w3.cell? ⟨w.heap.size+1,4,none⟩=some (.slice none 0 0):=xi.out.cell 4 rfl;have t5:w3.cell? ⟨w.heap.size+1,5,none⟩=some (.slice none 0 0):=xi.out.cell 5 rfl;have hlen:=zO HV.out ag;by_cases h0:(db ag b.parts b.parts.length 0 (fun _=>0))=[]
 .have V4:Hid (aP b ag=[]):=h0;rw[h0]at*;simp only[List.length_nil];go_wp2_with fail
  obtain⟨WF,CH⟩:∃W,((((((w3.setCell ⟨w.heap.size+1,0,none⟩ (.int .i64 0)).setCell ⟨w.heap.size+1,1,none⟩ (.int .i64 0)).setCell ⟨w.heap.size+1,2,none⟩ (.slice none 0 0)).setCell
   ⟨w.heap.size+1,3,none⟩ (.slice none 0 0)).setCell ⟨w.heap.size+1,4,none⟩ (.slice none 0 0)).setCell ⟨w.heap.size+1,5,none⟩ (.slice none 0 0))=W:=⟨_,rfl⟩
  obtain⟨sJ,GZ⟩:=VY (.int .i64 0) (.int .i64 0) (.slice none 0 0) (.slice none 0 0) (.slice none 0 0) (.slice none 0 0) xi.out;rw[CH]at sJ GZ⊢;have M6:Below w.heap.size w WF:=M5.out.trans (GZ.below (by simp) M5.out.size);have q0:=sJ.cell 0 rfl;have q1:=sJ.cell 1 rfl;have q2:=sJ.cell 2 rfl;have q3:=sJ.cell 3 rfl;have q4:=sJ.cell 4 rfl;have q5:=sJ.cell 5 rfl;refine bodyPost_ret (v:=.tuple #[oC,.int .i64 9]) ?_ rfl ⟨.inl ⟨V4.out,rfl⟩,M6⟩;rw[results_cell_tmp rfl];go_simp
 .have ig:0<(db ag b.parts b.parts.length 0 (fun _=>0)).length:=List.length_pos_iff.2 h0;have V4:Hid (aP b ag≠ []):=h0;generalize V5:(db ag b.parts b.parts.length 0 (fun _=>0)).length=ln at*;have hln:¬((ln:Int)=0):=by omega
  have zhX:((ln:Int)==0)=false:=by simp;omega
  go_wp2_with fail
  obtain⟨WF,CH⟩:∃W,((((((w3.setCell ⟨w.heap.size+1,0,none⟩ (.int .i64 b.ao)).setCell ⟨w.heap.size+1,1,none⟩ (.int .i64 b.places)).setCell ⟨w.heap.size+1,2,none⟩ (.slice a2 b.parts.length c2)).setCell
   ⟨w.heap.size+1,3,none⟩ (.slice a3 b.apart.length c3)).setCell ⟨w.heap.size+1,4,none⟩ (.slice a4 b.ab.length c4)).setCell ⟨w.heap.size+1,5,none⟩ (.slice a5 ln c5))=W:=⟨_,rfl⟩
  obtain⟨sJ,GZ⟩:=VY (.int .i64 b.ao) (.int .i64 b.places) (.slice a2 b.parts.length c2) (.slice a3 b.apart.length c3) (.slice a4 b.ab.length c4) (.slice a5 ln c5) xi.out;rw[CH]at sJ GZ⊢;have M6:Below w.heap.size w WF:=M5.out.trans (GZ.below (by simp) M5.out.size);have q0:=sJ.cell 0 rfl;have q1:=sJ.cell 1 rfl;have q2:=sJ.cell 2 rfl;have q3:=sJ.cell 3 rfl;have q4:=sJ.cell 4 rfl;have q5:=sJ.cell 5 rfl;refine bodyPost_ret (v:=.tuple #[JN b (.slice a2 b.parts.length c2) (.slice a3 b.apart.length c3) (.slice a4 b.ab.length c4) (.slice a5 ln c5),.int .i64 0]) ?_ rfl ⟨.inr ⟨V4.out,a5,c5,by rw[V5],by rw[V5];exact HV5.out WF GZ,by rw[V5];exact S4.out⟩,M6⟩;rw[results_cell_tmp rfl];go_simp
theorem JP (w:World) (b:ai) (v:Value) (a2:Option Addr) (c2:Nat) (v3 v4:Value) (ag:(Nat->Int)->Bool) (OS:v=.agg #[.int .i64 b.ao,.int .i64 b.places,.slice a2 b.parts.length c2,v3,v4]) (hb:au w v b) (hv:Valid b) (hc:me w)
 (mc:∀X t,Below w.heap.size w X->Calls ZP 135 #[v,.agg (tick t)] X (dQ X (.bool (ag t)))):
 Calls ZP 51 #[v,.func (.func 52) #[] #[]] w (JO w b (.slice a2 b.parts.length c2) v3 v4 (aP b ag)):=
 ve 52 ZC52 w b v a2 c2 v3 v4 ag OS hb hv hc #[] mc fun X _=>by subst OS;exact zQ X _ _ _ _ _
def ee (m:Nat->Int) (N:Nat) (t0:Nat->Int) (L:List (Nat->Int)):Int:=L.foldl (fun a t=>min a (cn m t N)) (cn m t0 N)
def eh (m:Nat->Int) (N:Nat) (t0:Nat->Int) (L:List (Nat->Int)):Int:=L.foldl (fun a t=>max a (cn m t N)) (cn m t0 N)
def qF (N:Nat) (L:List (Nat->Int)) (m:Nat->Int):Int:=eh m N (L.headD fun _=>0) L.tail
def zR (N:Nat) (L:List (Nat->Int)) (m:Nat->Int):Int:=ee m N (L.headD fun _=>0) L.tail
theorem zS (m:Nat->Int) (N:Nat) (t0 t:Nat->Int) (L:List (Nat->Int)):eh m N t0 (L++[t])=max (eh m N t0 L) (cn m t N):=by simp[eh]
theorem zT (m:Nat->Int) (N:Nat) (t0 t:Nat->Int) (L:List (Nat->Int)):ee m N t0 (L++[t])=min (ee m N t0 L) (cn m t N):=by simp[ee]
noncomputable def cr (b:ai) (L:List (Nat->Int)):List (Nat->Int):=(aM b).filter fun m=>decide (qF b.places.toNat L m<=b.ao)
def bare (l:List Part) (i:Nat):List Part:=match l[i]? with|some x=>l.set i {x with fits:=[]}|none=>l
theorem zU (h:l[k]?=some t):eh m N t0 (l.take (k+1))=max (eh m N t0 (l.take k)) (cn m t N):=by
 rw[List.take_add_one,h];exact zS ..
theorem zV (h:l[k]?=some t):ee m N t0 (l.take (k+1))=min (ee m N t0 (l.take k)) (cn m t N):=by
 rw[List.take_add_one,h];exact zT ..
theorem vg (w:World) (v2 v3 v4 v5:Value) (b:ai) (N:Nat) (hN:b.places=N) (tV:N<=4) (L:List (Nat->Int)) (hL:bX 5 w v5 L) (bC:L≠ []) (m:Nat->Int) (hm:∀i,0<=m i/\m i<5) (ht:∀t∈L,∀i,0<=t i/\t i<=20):
 Calls ZP 62 #[JN b v2 v3 v4 v5,.agg (cA m)] w (dQ w (.agg #[.int .i64 (zR N L m),.int .i64 (qF N L m)])):=by
 obtain⟨t0,l,rfl⟩:∃t0 l,L=t0::l:=by cases L with
  |nil=>exact absurd rfl bC
  |cons a l=>exact⟨a,l,rfl⟩
 have HL:=hid hL;have HT:=hid ht;have HM:=hid hm;have HN:=hid hN;obtain⟨a,cap,hs,he⟩:=hL;obtain⟨⟨blk,off,sp⟩,t1,rfl,hx,ti⟩:=hs.elem he (k:=0) (by simp);simp at hx;subst hx;obtain rfl:sp=none:=(ti 0 (by omega)).1;have HE:Hid (bS w v5 (t0::l).length (some ⟨blk,off,none⟩) cap/\_):=⟨hs,he⟩
 obtain⟨rfl,hle,jt,_,_⟩:=hs;unfold maxLen at jt;clear ht hm bC;obtain⟨A1,bI⟩:=ex1 (w.alloc (.cells #[.int .i64 b.ao,.int .i64 b.places,v2,v3,v4,.slice (some ⟨blk,off,none⟩) (t0::l).length cap] 81));obtain⟨A2,cF⟩:=ex1 (A1.alloc (.cells (cA m) 94));obtain⟨A3,gh⟩:=ex1 (A2.alloc (.cells #[.int .i64 0,.int .i64 0] 34));have fW:=snew bI;have mt:=snew2 cF fW;have Ay:=snew2 gh mt
 have B1:Hid (aD A3 w.heap.size 81 #[.int .i64 b.ao,.int .i64 b.places,v2,v3,v4,.slice (some ⟨blk,off,none⟩) (t0::l).length cap]):=by
  rw[<-gh];refine(aa.alloc [] _ _).box ?_ (by simp);rw[<-cF];refine(aa.alloc [] _ _).box ?_ (by simp);rw[<-bI];exact aD.new _ _ _
 have B2:Hid (aD A3 (w.heap.size+1) 94 (cA m)):=by
  rw[<-gh];refine(aa.alloc [] _ _).box ?_ (by simp);rw[<-cF,<-fW];exact aD.new _ _ _
 have B3:=bnew2 gh mt;have HW:=wnew3 bI cF gh;obtain⟨z0,z1,z2,z3,z4,z5⟩:=B1.o.a6;obtain⟨y0,y1,y2,y3⟩:=B2.o.a4;have r0:∀X:ah A3,X.1.cell? ⟨blk,off,none⟩=some (.int .i64 (t0 0)):=fun X=>X.cell (by simpa using((ti 0 (by omega)).later (Kp.of HW.o)).2);have r1:∀X:ah A3,X.1.cell? ⟨blk,off+1,none⟩=some (.int .i64 (t0 1)):=fun X=>X.cell (by simpa using((ti 1 (by omega)).later (Kp.of HW.o)).2);have r2:∀X:ah A3,X.1.cell? ⟨blk,off+2,none⟩=some (.int .i64 (t0 2)):=fun X=>X.cell (by simpa using((ti 2 (by omega)).later (Kp.of HW.o)).2);have r3:∀X:ah A3,X.1.cell? ⟨blk,off+3,none⟩=some (.int .i64 (t0 3)):=fun X=>X.cell (by simpa using((ti 3 (by omega)).later (Kp.of HW.o)).2);have r4:∀X:ah A3,X.1.cell? ⟨blk,off+4,none⟩=some (.int .i64 (t0 4)):=fun X=>X.cell (by simpa using((ti 4 (by omega)).later (Kp.of HW.o)).2)
 have m9:∀X:ah A3,Calls ZP 117 #[.agg #[.int .i64 b.ao,.int .i64 b.places,v2,v3,v4],.agg (cA m),.agg (tick t0)] X.1 (fun e jk=>e=.returned (.int .i64 (cn m t0 N))/\∃Y:ah A3,jk=Y.1):=fun X=>
  (zM X.1 v2 v3 v4 b N HN.o tV m t0 (fun i _=>HM.o i) (HT.o t0 (by simp))).mono fun e w' h=>⟨h.1,X.on h.2⟩
 simp only[cA,tick]at cF m9⊢;simp only[List.length_cons]at bI z5 hle⊢;have Qw:((l.length+1:Nat):Int)=(l.length:Int)+1:=by omega
 clear ti he hN;go_enter ZF62,Tryz.ntmps62
 go_wp2_with fail
 refine am (by kernel_rfl) (by kernel_rfl) ?_;repeat(go_big_quiet_step (first|(go_at_call 117;exact m9 _)))
 refine wpQuiet_nil ?_;rintro _ ⟨X,rfl⟩;have OT:=HW.t X.2;obtain⟨W,hW⟩:=ex1 (X.1);rw[hW];have HK:Hid (Below A3.heap.size A3 W):=by rw[<-hW];exact X.2
 obtain⟨W1,FY⟩:=ex1 (W.alloc (.cells #[.int .i64 (cn m t0 N),.int .i64 (cn m t0 N)] 34));have x5:W.cell? ⟨w.heap.size,5,none⟩=some (.slice (some ⟨blk,off,none⟩) (l.length+1) cap):=by rw[<-hW];exact z5 X
 have x5':W1.cell? ⟨w.heap.size,5,none⟩=some (.slice (some ⟨blk,off,none⟩) (l.length+1) cap):=by
  rw[<-FY];exact(ey (by have:=HK.o.size;show w.heap.size<_;omega) _).trans x5
 rw[hW]at OT;clear m9 z0 z1 z2 z3 z4 z5 y0 y1 y2 y3 r0 r1 r2 r3 r4 hW X x5;by_cases hc1:cap=1
 .have OU:l=[]:=List.eq_nil_of_length_eq_zero (by omega);subst OU;have q0:W1.cell? ⟨W.heap.size,0,none⟩=some (.int .i64 (cn m t0 N)):=by rw[<-FY];exact(aD.new W 34 _).cell 0 rfl
  have q1:W1.cell? ⟨W.heap.size,1,none⟩=some (.int .i64 (cn m t0 N)):=by rw[<-FY];exact(aD.new W 34 _).cell 1 rfl
  go_wp2_with fail
  go_loopw [24] (fun i wr=>i=.int .i64 0/\Hid (aD wr W.heap.size 34 #[.int .i64 (ee m N t0 []),.int .i64 (eh m N t0 [])])/\Hid (aa [W.heap.size] W wr)) (fun _ _=>0)
  case atStart=>exact⟨rfl,by rw[<-FY];exact aD.new W 34 _,by rw[<-FY];exact aa.alloc _ _ _⟩
  case round=>
   obtain⟨rfl,RH,xl⟩:=hrel;have qb:aD wr (w.heap.size+1+1) 34 #[.int .i64 0,.int .i64 0]:=xl.o.box ((aa.of (O:=[]) HK.o).box B3.o (by simp)) (by have:=HK.o.size;simp;omega);have p0:=qb.cell 0 rfl;have p1:=qb.cell 1 rfl;have p2:=qb.cz 0;have p3:=qb.cz 1;have q0:=RH.o.cell 0 rfl;have q1:=RH.o.cell 1 rfl;go_wp2
   obtain⟨WF,CH⟩:=ex1 ((wr.setCell ⟨w.heap.size+1+1,0,none⟩ (.int .i64 (ee m N t0 []))).setCell ⟨w.heap.size+1+1,1,none⟩ (.int .i64 (eh m N t0 [])));have sJ:aD WF (w.heap.size+1+1) 34 #[.int .i64 (ee m N t0 []),.int .i64 (eh m N t0 [])]:=by rw[<-CH];exact(qb.set 0 _).set 1 _
   have GZ:aa [w.heap.size+1+1] wr WF:=by rw[<-CH];exact(aa.set wr (by simp) _).trans' (aa.set _ (by simp) _)
   have M6:Below w.heap.size w WF:=OT.o.trans ((xl.o.below (by have:=HK.o.size;simp;omega) OT.o.size).trans (GZ.below (by simp;omega) (by have:=xl.o.size;have:=OT.o.size;omega)));have u0:=sJ.cell 0 rfl;have u1:=sJ.cell 1 rfl;rw[CH];refine bodyPost_ret (v:=.agg #[.int .i64 (zR N (t0:: []) m),.int .i64 (qF N (t0:: []) m)]) ?_ rfl ⟨rfl,M6⟩;rw[j9 rfl];go_simp;exact⟨rfl,rfl⟩
 .go_wp2_with fail
  go_loopw [24] (fun i wr=>∃k:Nat,k<=l.length/\i=.int .i64 k/\Hid (aD wr W.heap.size 34 #[.int .i64 (ee m N t0 (l.take k)),.int .i64 (eh m N t0 (l.take k))])/\Hid (aa [W.heap.size] W wr)) (fun i _=>l.length-(intOf i).toNat)
  case atStart=>exact⟨0,Nat.zero_le _,rfl,by rw[<-FY];exact aD.new W 34 _,by rw[<-FY];exact aa.alloc _ _ _⟩
  case round=>
   obtain⟨k,hk,rfl,RH,xl⟩:=hrel;by_cases ar:k<l.length
   .have hx:l[k]?=some l[k]:=List.getElem?_eq_getElem ar;obtain⟨t,htt⟩:=ex1 (l[k]);rw[htt]at hx
    have aZ:∀r,r<5->wr.cell? ⟨blk,off+5+k*5+r,none⟩=some (.int .i64 (t r)):=fun r hr=>by
     have h1:=(HE.o.2 _ rfl (k+1) t (by simpa using hx) r hr)
     have h2:=h1.later (Kp.of OT.o);have h3:=h2.lt;have h4:=h2.2;rw[show off+5+k*5+r=off+((k+1)*5+r) by omega];exact(World.cell?_of_block (w:=W) (a:=⟨blk,off+((k+1)*5+r),none⟩) (xl.o.block blk h3 (by simp at h3⊢;omega))).trans h4
    have r0:=aZ 0 (by omega);have r1:=aZ 1 (by omega);have r2:=aZ 2 (by omega);have r3:=aZ 3 (by omega);have r4:=aZ 4 (by omega);simp only[Nat.add_zero]at r0;have HX:=hid hx
    have hWg:∀(g tt:Nat) (cs:Array Value),g<A3.heap.size->aD A3 g tt cs->aD wr g tt cs:=fun g tt cs hg h=>
     xl.o.box ((aa.of (O:=[]) HK.o).box h (by simp)) (by have:=HK.o.size;simp;omega)
    have BW1:=hWg _ _ _ (by omega) B1.o;have BW2:=hWg _ _ _ (by omega) B2.o;obtain⟨wt,tq⟩:=ex1 (wr.alloc (.cells (tick t) 130));have V6:=knew tq;have HBt:Hid (aD wt W.heap.size 34 #[.int .i64 (ee m N t0 (l.take k)),.int .i64 (eh m N t0 (l.take k))]):=V6.box RH.o (by simp);have HKt:Hid (aa [W.heap.size] W wt):=xl.o.trans (O':=[]) V6 (by simp);have BT1:=V6.box BW1 (by simp);have BT2:=V6.box BW2 (by simp);obtain⟨s0,s1,s2,s3,s4⟩:=BT1.c5;obtain⟨y0,y1,y2,y3⟩:=BT2.c4;have BX:=aD.new wr 130 (tick t);rw[tq]at BX;obtain⟨e0,e1,e2,e3,e4⟩:=BX.c5;have hC:=zM wt v2 v3 v4 b N HN.o tV m t (fun i _=>HM.o i) (HT.o t (by have:=List.mem_of_getElem? HX.o;simp[this]));simp only[cA,tick]at hC tq;have mO:(k:Int)<(l.length:Int):=by omega
    have AG:=hid ar;clear aZ hx htt hWg BW1 BW2 V6 BT1 BT2 BX hk ar;go_wp2_with fail
    refine hC.mono ?_;rintro e w2 ⟨rfl,gz⟩;have iI:Hid (aa [W.heap.size] W w2):=HKt.o.trans (O':=[]) (aa.of gz) (by simp);have xO:Hid (aD w2 W.heap.size 34 #[.int .i64 (ee m N t0 (l.take k)),.int .i64 (eh m N t0 (l.take k))]):=(aa.of (O:=[]) gz).box HBt.o (by simp);have q0:=xO.o.cell 0 rfl;have q1:=xO.o.cell 1 rfl;have g0:=xO.o.cz 0;have g1:=xO.o.cz 1;have HLo:=zV (m:=m) (N:=N) (t0:=t0) HX.o;have HHi:=zU (m:=m) (N:=N) (t0:=t0) HX.o;have HLH:Hid (ee m N t0 (l.take (k+1))=min (ee m N t0 (l.take k)) (cn m t N)/\eh m N t0 (l.take (k+1))=max (eh m N t0 (l.take k)) (cn m t N)):=⟨HLo,HHi⟩
    clear hC gz HLo HHi s0 s1 s2 s3 s4 y0 y1 y2 y3 e0 e1 e2 e3 e4 r0 r1 r2 r3 r4 tq;generalize ee m N t0 (l.take k)=lo at*;generalize eh m N t0 (l.take k)=hi at*;generalize cn m t N=tk at*;go_wp2
    have e1:(if tk<lo then tk else lo)=min lo tk:=by split<;>omega
    have e2:(if hi<tk then tk else hi)=max hi tk:=by split<;>omega
    have rJ:=AG.o;rw[e1,e2];refine⟨⟨k+1,by omega,by go_num,?_,?_⟩,by simp[intOf];omega⟩
    .rw[HLH.o.1,HLH.o.2];exact(xO.o.set 0 _).set 1 _
    .exact iI.o.trans' ((aa.set _ (by simp) _).trans' (aa.set _ (by simp) _))
   .have e:k=l.length:=by omega
    subst e;rw[List.take_length]at RH;have qb:aD wr (w.heap.size+1+1) 34 #[.int .i64 0,.int .i64 0]:=xl.o.box ((aa.of (O:=[]) HK.o).box B3.o (by simp)) (by have:=HK.o.size;simp;omega);have p0:=qb.cell 0 rfl;have p1:=qb.cell 1 rfl;have p2:=qb.cz 0;have p3:=qb.cz 1;have q0:=RH.o.cell 0 rfl;have q1:=RH.o.cell 1 rfl;go_wp2
    obtain⟨WF,CH⟩:=ex1 ((wr.setCell ⟨w.heap.size+1+1,0,none⟩ (.int .i64 (ee m N t0 l))).setCell ⟨w.heap.size+1+1,1,none⟩ (.int .i64 (eh m N t0 l)));have sJ:aD WF (w.heap.size+1+1) 34 #[.int .i64 (ee m N t0 l),.int .i64 (eh m N t0 l)]:=by rw[<-CH];exact(qb.set 0 _).set 1 _
    have GZ:aa [w.heap.size+1+1] wr WF:=by rw[<-CH];exact(aa.set wr (by simp) _).trans' (aa.set _ (by simp) _)
    have M6:Below w.heap.size w WF:=OT.o.trans ((xl.o.below (by have:=HK.o.size;simp;omega) OT.o.size).trans (GZ.below (by simp;omega) (by have:=xl.o.size;have:=OT.o.size;omega)));have u0:=sJ.cell 0 rfl;have u1:=sJ.cell 1 rfl;rw[CH];refine bodyPost_ret (v:=.agg #[.int .i64 (zR N (t0::l) m),.int .i64 (qF N (t0::l) m)]) ?_ rfl ⟨rfl,M6⟩;rw[j9 rfl];go_simp;exact⟨rfl,rfl⟩
theorem vh (w:World) (a b:Int):(Instr.field 34 (.agg #[.int .i64 a,.int .i64 b]) 1).run ZP w=.ok (.int .i64 b) w:=by
 have u:ZP.underlying 34=_:=(Tz.under 34).trans Tryz.underlying34;have a3:=Tryz.isAgg3;have z3:=Tryz.sizeOf3;simp[Instr.field,run_underlying u,asAgg,part,go_sem,a3,z3]
theorem F9 (w:World) (a b:Int):(Instr.field 34 (.agg #[.int .i64 a,.int .i64 b]) 0).run ZP w=.ok (.int .i64 a) w:=by
 have u:ZP.underlying 34=_:=(Tz.under 34).trans Tryz.underlying34;have a3:=Tryz.isAgg3;have z3:=Tryz.sizeOf3;simp[Instr.field,run_underlying u,asAgg,part,go_sem,a3,z3]
def V7 (s:Nat) (w:World) (L:List (Nat->Int)) (e:Ending) (w':World):Prop:=(∃v,e=.returned v/\bX s w' v L/\qc w v)/\Below w.heap.size w w'
noncomputable def dO (b:ai) (L:List (Nat->Int)) (k:Nat):List (Nat->Int):=((aM b).take k).filter fun m=>decide (qF b.places.toNat L m<=b.ao)
theorem CI (hx:(aM b)[k]?=some m) (h:qF b.places.toNat L m<=b.ao):dO b L (k+1)=dO b L k++[m]:=by
 unfold dO;rw[List.take_add_one,hx,List.filter_append];simp[h]
theorem Ga (hx:(aM b)[k]?=some m) (h:¬qF b.places.toNat L m<=b.ao):dO b L (k+1)=dO b L k:=by
 unfold dO;rw[List.take_add_one,hx,List.filter_append];simp[h]
theorem CJ (b:ai) (L:List (Nat->Int)) (k:Nat):(dO b L k).length<=k:=by
 unfold dO;exact Nat.le_trans (List.length_filter_le _ _) (by simp;omega)
theorem zW (w:World) (b:ai) (v2 v3 v4 v5:Value) (L:List (Nat->Int)) (hb:au w (.agg #[.int .i64 b.ao,.int .i64 b.places,v2,v3,v4]) b) (hv:Valid b) (hL:bX 5 w v5 L) (bC:L≠ []) (ht:∀t∈L,∀i,0<=t i/\t i<=20):
 Calls ZP 53 #[JN b v2 v3 v4 v5] w (V7 4 w (cr b L)):=by
 have HB:=hid hb;have HV:Hid (Valid b):=hv;have HL:=hid hL;have HT:Hid (L≠ []/\∀t∈L,∀i,0<=t i/\t i<=20):=⟨bC,ht⟩
 obtain⟨i0,hi,tn,mU,pS⟩:=info_parts JF;obtain⟨A1,bI⟩:=ex1 (w.alloc (.cells #[.int .i64 b.ao,.int .i64 b.places,v2,v3,v4,v5] 81));have fW:=snew bI;have B1:=bnew bI;have HW:=wnew bI;have z0:=B1.o.cell 0 rfl;have z1:=B1.o.cell 1 rfl;have z2:=B1.o.cell 2 rfl;have z3:=B1.o.cell 3 rfl;have z4:=B1.o.cell 4 rfl;clear hb hv hL bC ht;go_enter ZF53,Tryz.ntmps53
 go_wp2_with fail
 refine(xe A1 _ b (HB.o.later (Kp.of HW.o)) HV.o).mono ?_;rintro e w1 ⟨⟨v8,rfl,hv8⟩,bE⟩;have HM:Hid (bX 4 w1 v8 (aM b)):=bX.ii Ej JM hv8;have fB:=hid bE;have xP:=HW.t bE;clear hv8 bE z0 z1 z2 z3 z4;obtain⟨a8,c8,hs8,he8⟩:=HM.o;have HE:Hid (bS w1 v8 (aM b).length a8 c8/\_):=⟨hs8,he8⟩
 obtain⟨rfl,hle,jt,_,_⟩:=hs8;unfold maxLen at jt;have OI:=j8 HV.o;obtain⟨nn,Xe⟩:=ex1 ((aM b).length);have FX:=hid Xe;rw[Xe]at OI hle⊢;clear he8 Xe jt;go_wp2_with fail
 go_loopw [10,3] (fun i v wr=>∃k:Nat,k<=nn/\i=.int .i64 k/\Hid (wr.ownsRow w1.heap.size 94 4 v (dO b L k).length ((dO b L k).flatMap fun m=>(cA m).toList))/\Hid (Below w1.heap.size w1 wr)) (fun i _ _=>nn-(intOf i).toNat)
 case atStart=>exact⟨0,Nat.zero_le _,rfl,World.ownsRow_nil _ _ _ _,Below.refl _ _⟩
 case round=>
  obtain⟨k,hk,rfl,hO,hB⟩:=hrel;by_cases ar:k<nn
  .obtain⟨⟨blk,off,sp⟩,m,rfl,hx,ti⟩:=HE.o.1.elem HE.o.2 (k:=k) (by rw[FX.o];exact ar);obtain rfl:sp=none:=(ti 0 (by omega)).1;have aZ:∀r,r<4->wr.cell? ⟨blk,off+(k*4+r),none⟩=some (.int .i64 (m r)):=fun r hr=>((ti r hr).later (Kp.of hB.o)).2;have r0:=aZ 0 (by omega);have r1:=aZ 1 (by omega);have r2:=aZ 2 (by omega);have r3:=aZ 3 (by omega);simp only[Nat.add_zero,<-Nat.add_assoc]at r0 r1 r2 r3;have HX:=hid hx;have mO:(k:Int)<(nn:Int):=by omega
   have AG:Hid (k<nn):=ar;have GW:=xP.t hB.o;obtain⟨wt,tq⟩:=ex1 (wr.alloc (.cells (cA m) 94));have bM:=snew tq;have XN:Hid (Below wr.heap.size wr wt):=by rw[<-tq];exact(Below.refl _ _).alloc (Nat.le_refl _) _
   have BS:Hid (aD wt w.heap.size 81 #[.int .i64 b.ao,.int .i64 b.places,v2,v3,v4,v5]):=
    ((B1.o.below fB.o B1.o.lt).below (hB.o.trans (XN.o.mono hB.o.size)) ((B1.o.below fB.o B1.o.lt).lt))
   have BM:=bnew tq;obtain⟨s0,s1,s2,s3,s4,s5⟩:=BS.o.a6;obtain⟨m0,m1,m2,m3⟩:=BM.o.a4
   have m9:∀X:ah wt,Calls ZP 62 #[JN b v2 v3 v4 v5,.agg (cA m)] X.1 (fun e jk=>e=.returned (.agg #[.int .i64 (zR b.places.toNat L m),.int .i64 (qF b.places.toNat L m)])/\∃Y:ah wt,jk=Y.1):=fun X=>
    (vg X.1 v2 v3 v4 v5 b b.places.toNat (by have:=HV.o.places;omega) (by have:=HV.o.places;omega) L (((HL.o.later (Kp.of GW.o)).later (Kp.of XN.o)).later X.kp) HT.o.1 m (lC HV.o m (List.mem_of_getElem? HX.o)) HT.o.2).mono fun e w' h=>⟨h.1,X.on h.2⟩
   obtain⟨lo,RE⟩:=ex1 (zR b.places.toNat L m);obtain⟨nA,hhi⟩:∃x,qF b.places.toNat L m=x:=⟨_,rfl⟩
   have HHI:=hid hhi;rw[RE,hhi]at m9;simp only[cA]at m9 tq;have hln:=CJ b L k;clear aZ ti hx RE hhi ar;by_cases hsf:nA<=b.ao
   .go_wp2_with fail
    refine am (by kernel_rfl) (by kernel_rfl) ?_;go_big_quiet_step (fail)
    go_big_quiet_step (fail)
    go_big_quiet_step (first|(go_at_call 62;exact m9 _))
    have RI:=fun w=>vh w lo nA;repeat(go_big_quiet_step (first|(go_at_call 62;exact m9 _)))
    refine wpQuiet_nil ?_;rintro _ ⟨X,rfl⟩;obtain⟨W,hW⟩:=ex1 (X.1);have HXt:Hid (Below wt.heap.size wt W):=by rw[<-hW];exact X.2
    have S5:=XN.t HXt.o;have XO:Hid (W.ownsRow w1.heap.size 94 4 u3 (dO b L k).length ((dO b L k).flatMap fun m=>(cA m).toList)):=bH hO.o fun j hj=>S5.o.block j (be hO.o j hj).2;have n0:=m0 X;have n1:=m1 X;have n2:=m2 X;have n3:=m3 X;have bQ:=S5.o.size;have zh0:=hB.o.size;rw[hW]at n0 n1 n2 n3⊢;clear s0 s1 s2 s3 s4 s5 m0 m1 m2 m3 m9 RI hW X tq;have zh1:∀x:Nat->Int,(cA x).toList.length=4:=fun _=>rfl
    go_wp2_with(at_builtin
                refine wpList_append_own _ rfl (.tmp 23) (.tmp 25) 85 rfl w1.heap.size 94 i0 (.agg #[.int .i64 0,.int .i64 0,.int .i64 0,.int .i64 0]) 4 32 Ee hi tn mU pS rfl (by decide) _ _ _ rfl (XO.o.alloc _) ⟨W.heap.size,0,none⟩ 1 1 (cA m).toList rfl rfl (Ef (aD.new W 94 (cA m))) (Eg m) (by unfold maxLen;omega) (by omega) (by simp;omega) ?_;intro v' w2 dk fy _)
    have GU:Hid (w2.ownsRow w1.heap.size 94 4 v' (dO b L (k+1)).length ((dO b L (k+1)).flatMap fun m=>(cA m).toList)):=(by
     rw[CI HX.o (by rw[HHI.o];exact hsf),List.length_append,List.flatMap_append];have h2:=dk;simp only[List.flatMap_cons,List.flatMap_nil,List.append_nil,List.length_cons,List.length_nil];exact h2)
    have iI:Hid (Below w1.heap.size w1 w2):=Below.grown (Below.alloc (hB.o.trans (S5.o.mono hB.o.size)) (by omega) _) fy (by simp;omega) (qW XO.o);clear dk fy;have rJ:=AG.o;go_round
    case rel=>exact⟨k+1,by omega,by go_num,GU,iI⟩
    case measure=>simp[intOf];omega
   .go_wp2_with fail
    refine am (by kernel_rfl) (by kernel_rfl) ?_;have RI:=fun w=>vh w lo nA;repeat(go_big_quiet_step (first|(go_at_call 62;exact m9 _)))
    refine wpQuiet_nil ?_;rintro _ ⟨X,rfl⟩;obtain⟨W,hW⟩:=ex1 (X.1);have HXt:Hid (Below wt.heap.size wt W):=by rw[<-hW];exact X.2
    have S5:=XN.t HXt.o
    have XO:Hid (W.ownsRow w1.heap.size 94 4 u3 (dO b L (k+1)).length ((dO b L (k+1)).flatMap fun m=>(cA m).toList)):=by
     rw[Ga HX.o (by rw[HHI.o];omega)];exact bH hO.o fun j hj=>S5.o.block j (be hO.o j hj).2
    have iI:=hB.t S5.o;rw[hW];clear s0 s1 s2 s3 s4 s5 m0 m1 m2 m3 m9 RI hW X tq;have rJ:=AG.o;go_wp2
    go_round
    case rel=>exact⟨k+1,by omega,by go_num,XO,iI⟩
    case measure=>simp[intOf];omega
  .have e:k=nn:=by omega
   have GU:Hid (bX 4 wr u3 (cr b L)):=by
    have:dO b L k=cr b L:=by unfold dO cr;rw[e,<-FX.o,List.take_length]
    rw[this]at hO;exact bX.ii Ej JM hO.o
   have S4:Hid (qc w u3):=qc.of hO.o xP.o.size;have GW:=xP.t hB.o;go_wp2
   go_ret;exact⟨⟨_,rfl,GU.o,S4.o⟩,GW.o⟩
abbrev xp (w:World) (v:Value) (ag:(Nat->Int)->Bool):Prop:=∀X t,Below w.heap.size w X->Calls ZP 135 #[v,.agg (tick t)] X (dQ X (.bool (ag t)))
theorem au.gi (h:au w v b):∃a2 c2 a3 c3 a4 c4,v=.agg #[.int .i64 b.ao,.int .i64 b.places,.slice a2 b.parts.length c2,.slice a3 b.apart.length c3,.slice a4 b.ab.length c4]:=by
 obtain⟨v2,v3,v4,rfl,⟨a2,c2,⟨rfl,_,_,_,_⟩,_⟩,⟨a3,c3,⟨rfl,_,_,_,_⟩,_⟩,⟨a4,c4,⟨rfl,_,_,_,_⟩,_⟩⟩:=h;exact⟨a2,c2,a3,c3,a4,c4,rfl⟩
theorem aD.same {t:TypeId} {cs:Array Value} {i:Nat} (h:aD w g t cs) (hv:cs[i]?=some v):w.setCell ⟨g,i,none⟩ v=w:=by
 have e:(w.setCell ⟨g,i,none⟩ v).heap=w.heap:=by
  refine Array.ext_getElem? fun k=>?_;by_cases hk:k=g
  .subst hk;have h1:_=_:=h.set i v
   have h2:cs.setIfInBounds i v=cs:=by
    refine Array.ext_getElem? fun j=>?_;by_cases hj:i=j
    .subst hj;obtain⟨ar,hx⟩:=Array.getElem?_eq_some_iff.1 hv;rw[Array.getElem?_setIfInBounds_self_of_lt ar,hv]
    .rw[Array.getElem?_setIfInBounds_ne hj]
   rw[h2]at h1;exact h1.trans h.symm
  .exact Below.heap_setCell _ _ _ _ hk
 show({w with heap:=(w.setCell ⟨g,i,none⟩ v).heap}:World)=w;rw[e]
def ak (s m:Nat->Int):Nat->Option (Nat->Int)
 |0=>some s
 |k+1=>match ak s m k with
  |none=>none
  |some r=>if r (m k).toNat-1<0 then none else some (upd r (m k).toNat (r (m k).toNat-1))
def dn (s:Nat->Int):Prop:=∀i,i<5->0<=s i/\s i<=3
theorem ka {s m:Nat->Int} (h:dn s):∀{k:Nat} {r:Nat->Int},ak s m k=some r->dn r
 |0,r,e=>by cases e;exact h
 |k+1,r,e=>by
  unfold ak at e;cases hw:ak s m k with
  |none=>rw[hw]at e;cases e
  |some q=>
   rw[hw]at e;simp only at e;split at e
   .cases e
   .cases e;have hq:=ka h hw;intro i hi;by_cases hx:i=(m k).toNat
    .subst hx;rw[aV];have:=hq _ hi;omega
    .rw[an _ _ hx];exact hq i hi
def total (s:Nat->Int):Nat:=(s 0).toNat+(s 1).toNat+(s 2).toNat+(s 3).toNat+(s 4).toNat
theorem Gb {j:Nat} (hj:j<5) (h:0<=s j-1):total (upd s j (s j-1))+1=total s:=by
 unfold total;match j,hj with
 |0,_=>simp only[aV,an _ _ (show 1≠0 by decide),an _ _ (show 2≠0 by decide),an _ _ (show 3≠0 by decide),an _ _ (show 4≠0 by decide)];omega
 |1,_=>simp only[aV,an _ _ (show 0≠1 by decide),an _ _ (show 2≠1 by decide),an _ _ (show 3≠1 by decide),an _ _ (show 4≠1 by decide)];omega
 |2,_=>simp only[aV,an _ _ (show 0≠2 by decide),an _ _ (show 1≠2 by decide),an _ _ (show 3≠2 by decide),an _ _ (show 4≠2 by decide)];omega
 |3,_=>simp only[aV,an _ _ (show 0≠3 by decide),an _ _ (show 1≠3 by decide),an _ _ (show 2≠3 by decide),an _ _ (show 4≠3 by decide)];omega
 |4,_=>simp only[aV,an _ _ (show 0≠4 by decide),an _ _ (show 1≠4 by decide),an _ _ (show 2≠4 by decide),an _ _ (show 3≠4 by decide)];omega
theorem cu:∀{k:Nat} {r:Nat->Int},(∀i,i<k->0<=m i/\m i<5)->ak s m k=some r->total r+k=total s
 |0,r,_,e=>by cases e;rfl
 |k+1,r,hm,e=>by
  unfold ak at e;cases hw:ak s m k with
  |none=>rw[hw]at e;cases e
  |some q=>
   rw[hw]at e;simp only at e;split at e
   .cases e
   .rename_i hn;cases e;have h1:=cu (fun i hi=>hm i (by omega)) hw;have h2:=hm k (by omega);have h3:=Gb (s:=q) (j:=(m k).toNat) (by omega) (by omega);omega
def lD (N:Nat) (S:List (Nat->Int)):Nat->(Nat->Int)->Nat
 |0,_=>0
 |f+1,s=>S.foldl (fun n m=>match ak s m N with|none=>n|some r=>max n (1+lD N S f r)) 0
theorem fold_congr {f g:Nat->α->Nat}:∀{l:List α} {n:Nat},(∀n,∀x∈l,f n x=g n x)->l.foldl f n=l.foldl g n
 | [],_,_=>rfl
 |x::l,n,h=>by
  rw[List.foldl_cons,List.foldl_cons,h n x List.mem_cons_self];exact fold_congr fun n y hy=>h n y (List.mem_cons_of_mem _ hy)
theorem sK (hN:1<=N) (hS:∀m∈S,∀i,i<N->0<=m i/\m i<5):∀(f g:Nat) (s:Nat->Int),total s<f->total s<g->lD N S f s=lD N S g s
 |0,_,s,h,_=>by omega
 |_+1,0,s,_,h=>by omega
 |f+1,g+1,s,hf,hg=>by
  unfold lD;refine fold_congr fun n m hm=>?_;cases hw:ak s m N with
  |none=>rfl
  |some r=>
   have ht:=cu (hS m hm) hw;simp only;rw[sK hN hS f g r (by omega) (by omega)]
def bg (N:Nat) (S:List (Nat->Int)) (s:Nat->Int):Nat:=lD N S (total s+1) s
def dc (N:Nat) (S:List (Nat->Int)) (s:Nat->Int) (n:Nat) (m:Nat->Int):Nat:=match ak s m N with|none=>n|some r=>max n (1+bg N S r)
def gp (N:Nat) (S:List (Nat->Int)) (s:Nat->Int) (k:Nat):Nat:=(S.take k).foldl (dc N S s) 0
theorem zX (N:Nat) (S:List (Nat->Int)) (s:Nat->Int):gp N S s 0=0:=rfl
theorem qd (h:S[k]?=some m):gp N S s (k+1)=dc N S s (gp N S s k) m:=by
 unfold gp;rw[List.take_add_one,h,Option.toList_some,List.foldl_append];rfl
theorem sL (hN:1<=N) (hS:∀m∈S,∀i,i<N->0<=m i/\m i<5) (s:Nat->Int):gp N S s S.length=bg N S s:=by
 unfold gp bg lD;rw[List.take_length];refine fold_congr fun n m hm=>?_;unfold dc;cases hw:ak s m N with
 |none=>rfl
 |some r=>
  have ht:=cu (hS m hm) hw;simp only;unfold bg;rw[sK hN hS (total r+1) (total s) r (by omega) (by omega)]
theorem El {f:Nat->α->Nat} {c:Nat}:∀{l:List α} {n:Nat},n<=c->(∀n,n<=c->∀x∈l,f n x<=c)->l.foldl f n<=c
 | [],_,h,_=>h
 |x::l,n,h,g=>by
  rw[List.foldl_cons];exact El (g n h x List.mem_cons_self) fun n hn y hy=>g n hn y (List.mem_cons_of_mem _ hy)
theorem oD (hN:1<=N) (hS:∀m∈S,∀i,i<N->0<=m i/\m i<5):∀(f:Nat) (s:Nat->Int),lD N S f s<=total s
 |0,_=>Nat.zero_le _
 |f+1,s=>by
  unfold lD;refine El (Nat.zero_le _) fun n hn m hm=>?_;cases hw:ak s m N with
  |none=>exact hn
  |some r=>
   have ht:=cu (hS m hm) hw;have h2:=oD hN hS f r;simp only;omega
theorem jb {fn:Func} {p u:Tmp} {ty:TypeId} (h:fn.results=#[.cell p ty,.tmp u]) (tmps:Array Value) (P:Program) (w:World):
 (results fn tmps).run P w=
   ((asAddr (tmps.getD p undef)).run P w).andThen fun a w₁=>((loadVar ty a).run P w₁).andThen fun v w₂=>.ok (.tuple #[v,tmps.getD u undef]) w₂:=by
 simp only[results,h];simp[Sem.run_bind,Result.andThen]
theorem zY (w:World) (v2 v3 v4:Value) (b:ai) (N:Nat) (hN:b.places=N) (tV:N<=4) (s m:Nat->Int) (hs:dn s) (hm:∀i,i<N->0<=m i/\m i<5):
 Calls ZP 55 #[.agg #[.int .i64 b.ao,.int .i64 b.places,v2,v3,v4],.agg (tick s),.agg (cA m)] w
  (dQ w (match ak s m N with|none=>.tuple #[.agg (tick fun _=>0),.bool false]|some r=>.tuple #[.agg (tick r),.bool true])):=by
 have HS:Hid (dn s):=hs;rw[hN];obtain⟨R,hR⟩:=ex1 ((match ak s m N with|none=>Value.tuple #[.agg (tick fun _=>0),.bool false]|some r=>.tuple #[.agg (tick r),.bool true]));have HRn:Hid (ak s m N=none->.tuple #[.agg (tick fun _=>0),.bool false]=R):=fun h=>by rw[<-hR,h]
 have HRs:Hid (∀r,ak s m N=some r->.tuple #[.agg (tick r),.bool true]=R):=fun r h=>by rw[<-hR,h]
 rw[hR];clear hR;obtain⟨A1,bI⟩:=ex1 (w.alloc (.cells #[.int .i64 b.ao,.int .i64 N,v2,v3,v4] 78));obtain⟨A2,cF⟩:=ex1 (A1.alloc (.cells (tick s) 91));obtain⟨A3,gh⟩:=ex1 (A2.alloc (.cells (cA m) 94));obtain⟨A4,kF⟩:=ex1 (A3.alloc (.cells #[.int .i64 0,.int .i64 0,.int .i64 0,.int .i64 0,.int .i64 0] 91));have fW:=snew bI;have mt:=snew2 cF fW;have Ay:=snew2 gh mt
 have B1:Hid (aD A4 w.heap.size 78 #[.int .i64 b.ao,.int .i64 N,v2,v3,v4]):=by
  rw[<-kF];refine(aa.alloc [] _ _).box ?_ (by simp<;>omega);rw[<-gh];refine(aa.alloc [] _ _).box ?_ (by simp<;>omega);rw[<-cF];refine(aa.alloc [] _ _).box ?_ (by simp<;>omega);rw[<-bI];exact aD.new _ _ _
 have B2:Hid (aD A4 (w.heap.size+1) 91 (tick s)):=by
  rw[<-kF];refine(aa.alloc [] _ _).box ?_ (by simp<;>omega);rw[<-gh];refine(aa.alloc [] _ _).box ?_ (by simp<;>omega);rw[<-cF,<-fW];exact aD.new _ _ _
 have B3:Hid (aD A4 (w.heap.size+1+1) 94 (cA m)):=by
  rw[<-kF];refine(aa.alloc [] _ _).box ?_ (by simp<;>omega);rw[<-gh,<-mt];exact aD.new _ _ _
 have B4:=bnew2 kF Ay;have HW:Hid (Below w.heap.size w A4):=by rw[<-kF,<-gh,<-cF,<-bI];exact((((aa.alloc [] _ _).eY _).eY _).eY _).below (by simp<;>omega) (Nat.le_refl _)
 obtain⟨-,z1⟩:=B1.o.c2;simp only[cA,tick]at cF gh⊢;clear hN hs;go_enter ZF55,Tryz.ntmps55
 go_wp2
 clear bI cF gh kF fW mt Ay z1;go_loopw [12,8] (fun i _ wr=>∃(k:Nat) (r:Nat->Int),k<=N/\i=.int .i64 k/\Hid (ak s m k=some r)/\Hid (aa [w.heap.size+1] A4 wr/\aD wr (w.heap.size+1) 91 (tick r))) (fun i _ _=>N-(intOf i).toNat)
 case atStart=>exact⟨0,s,Nat.zero_le _,rfl,rfl,aa.refl _ _,B2.o⟩
 case round=>
  obtain⟨k,r,hk,rfl,hr,hK⟩:=hrel;have C1:=hK.o.1.box B1.o (by simp<;>omega);have C3:=hK.o.1.box B3.o (by simp<;>omega);have C4:=hK.o.1.box B4.o (by simp<;>omega);have zZ:Hid (Below w.heap.size w wr):=HW.o.trans (hK.o.1.below (by simp<;>omega) HW.o.size);have oM:Hid (dn r):=ka HS.o hr.o;by_cases ar:k<N
  .have mT:k<4:=by omega
   have hki:(k:Int)<(N:Int):=by omega
   obtain⟨j,hj⟩:∃j:Nat,m k=(j:Int):=⟨(m k).toNat,by have:=(hm k ar).1;omega⟩
   have OQ:j<5:=by have:=(hm k ar).2;omega
   have YC:(j:Int)<5:=by omega
   have zh4:(k:Int)<4:=by omega
   have c2:wr.cell? ⟨w.heap.size+1+1,k,none⟩=some (.int .i64 j):=by rw[<-hj];exact C3.cell k (gG mT _)
   have c3:wr.cell? ⟨w.heap.size+1,j,none⟩=some (.int .i64 (r j)):=hK.o.2.cell j (du OQ _);have f3:=hK.o.2.cz j;have RJ:=oM.o j OQ;obtain⟨x,hx⟩:=ex1 (r j);have HX:Hid (r j=x):=hx;rw[hx]at c3 RJ;have jK:wrap64 (x-1)=x-1:=by unfold wrap64;omega
   obtain⟨wn,OW⟩:=ex1 (wr.setCell ⟨w.heap.size+1,j,none⟩ (.int .i64 (x-1)))
   have Bn:Hid (aD wn (w.heap.size+1) 91 (tick (upd r j (x-1)))):=by
    have h:=hK.o.2.set j (.int .i64 (x-1));rwa [oB OQ,OW]at h
   have Kn:Hid (aa [w.heap.size+1] wr wn):=by rw[<-OW];exact aa.set _ (by simp<;>omega) _
   have d2:wn.cell? ⟨w.heap.size+1+1,k,none⟩=some (.int .i64 j):=by rw[<-hj];exact(Kn.o.box C3 (by simp<;>omega)).cell k (gG mT _)
   have d3:wn.cell? ⟨w.heap.size+1,j,none⟩=some (.int .i64 (x-1)):=by have h:=Bn.o.cell j (du OQ _);rwa [aV]at h
   have E4:=Kn.o.box C4 (by simp<;>omega);have HWn:Hid (Below w.heap.size w wn):=zZ.o.trans (Kn.o.below (by simp<;>omega) zZ.o.size)
   have HR1:Hid (x-1<0->ak s m N=none):=fun zbI=>by
    have h1:ak s m (k+1)=none:=by
     rw[ak,hr.o];simp only;rw[hj,Int.toNat_natCast,HX.o,if_pos zbI]
    have h2:∀d,ak s m (k+1+d)=none:=fun d=>by
     induction d with
     |zero=>exact h1
     |succ d ih=>rw[show k+1+(d+1)=(k+1+d)+1 by omega,ak,ih]
    have:=h2 (N-(k+1));rwa [show k+1+(N-(k+1))=N by omega]at this
   have xO:Hid (¬x-1<0->ak s m (k+1)=some (upd r j (x-1))):=fun hn=>by
    rw[ak,hr.o];simp only;rw[hj,Int.toNat_natCast,HX.o,if_neg hn]
   have e0:=E4.c1;have f10:=E4.cz 0;have g0:=E4.same (i:=0) (v:=.int .i64 0) rfl;obtain⟨-,e1⟩:=E4.c2;have f11:=E4.cz 1;have g1:=E4.same (i:=1) (v:=.int .i64 0) rfl;obtain⟨-,-,e2⟩:=E4.c3;have f12:=E4.cz 2;have g2:=E4.same (i:=2) (v:=.int .i64 0) rfl;obtain⟨-,-,-,e3⟩:=E4.c4;have f13:=E4.cz 3;have g3:=E4.same (i:=3) (v:=.int .i64 0) rfl;obtain⟨-,-,-,-,e4⟩:=E4.c5;have f14:=E4.cz 4;have g4:=E4.same (i:=4) (v:=.int .i64 0) rfl;clear C1 C3 C4 E4 hj hx RJ;by_cases RK:x-1<0
   .have HF:Hid (ak s m N=none):=HR1.o RK;go_wp2_with fail
    refine bodyPost_ret (v:=.tuple #[.agg (tick fun _=>0),.bool false]) ?_ rfl ⟨congrArg Ending.returned (HRn.o HF.o),HWn.o⟩;rw[jb rfl];simp only[tick];go_simp
   .have HF:Hid (ak s m (k+1)=some (upd r j (x-1))):=xO.o RK;go_wp2_with fail
    refine⟨⟨k+1,_,by omega,by go_num,HF.o,hK.o.1.trans' Kn.o,Bn.o⟩,by simp[intOf];omega⟩
  .have e:k=N:=by omega
   subst e;have HF:=hid hr;have Br:=hK.o.2;have c0:=Br.c1;have f0:=C4.cz 0;have e0:=C4.c1;obtain⟨-,c1⟩:=Br.c2;have f1:=C4.cz 1;obtain⟨-,e1⟩:=C4.c2;obtain⟨-,-,c2⟩:=Br.c3;have f2:=C4.cz 2;obtain⟨-,-,e2⟩:=C4.c3;obtain⟨-,-,-,c3⟩:=Br.c4;have f3:=C4.cz 3;obtain⟨-,-,-,e3⟩:=C4.c4;obtain⟨-,-,-,-,c4⟩:=Br.c5;have f4:=C4.cz 4;obtain⟨-,-,-,-,e4⟩:=C4.c5;obtain⟨wn,OW⟩:=ex1 ((((((wr.setCell ⟨w.heap.size+1+1+1,0,none⟩ (.int .i64 (r 0))).setCell ⟨w.heap.size+1+1+1,1,none⟩ (.int .i64 (r 1))).setCell ⟨w.heap.size+1+1+1,2,none⟩ (.int .i64 (r 2))).setCell ⟨w.heap.size+1+1+1,3,none⟩ (.int .i64 (r 3))).setCell ⟨w.heap.size+1+1+1,4,none⟩ (.int .i64 (r 4))))
   have Bn:aD wn (w.heap.size+1+1+1) 91 (tick r):=by
    have h:=((((C4.set 0 (.int .i64 (r 0))).set 1 (.int .i64 (r 1))).set 2 (.int .i64 (r 2))).set 3 (.int .i64 (r 3))).set 4 (.int .i64 (r 4));rw[OW]at h;exact h
   have HWn:Hid (Below w.heap.size w wn):=by
    rw[<-OW];refine zZ.o.trans (aa.below (O:=[w.heap.size+1+1+1]) ?_ (by simp<;>omega) zZ.o.size);exact((((aa.set _ (by simp<;>omega) _).trans' (aa.set _ (by simp<;>omega) _)).trans' (aa.set _ (by simp<;>omega) _)).trans' (aa.set _ (by simp<;>omega) _)).trans' (aa.set _ (by simp<;>omega) _)
   obtain⟨d0,d1,d2,d3,d4⟩:=Bn.c5;obtain⟨-,z1⟩:=C1.c2;clear C1 C3 C4 Br Bn;go_wp2_with fail
   refine bodyPost_ret (v:=.tuple #[.agg (tick r),.bool true]) ?_ rfl ⟨congrArg Ending.returned (HRs.o r HF.o),HWn.o⟩;rw[jb rfl];simp only[tick];go_simp
end Go.Proofs.Cz
namespace Go.Proofs.Cz
open Go.RowKit Go.Maps
variable {D:DataW Unit} {M N:Nat} {S:List (Nat->Int)} {kl:Lit} {s t:Nat->Int} {w w':World}
def lE (s t:Nat->Int):Prop:=∀i,i<5->s i=t i
theorem sM (h:tick s=tick t):lE s t:=fun i hi=>by
 have h1:=du hi s;rw[h,du hi t]at h1;exact(by simpa using h1:t i=s i).symm
theorem lE.total (h:lE s t):total s=total t:=by
 unfold Cz.total;rw[h 0 (by omega),h 1 (by omega),h 2 (by omega),h 3 (by omega),h 4 (by omega)]
theorem lE.Em {m:Nat->Int} (h:lE s t):∀{k:Nat},(∀i,i<k->0<=m i/\m i<5)->(ak s m k=none/\ak t m k=none)\/∃r q,ak s m k=some r/\ak t m k=some q/\lE r q
 |0,_=>.inr ⟨s,t,rfl,rfl,h⟩
 |k+1,hm=>by
  have gS:=hm k (by omega);have hj:(m k).toNat<5:=by omega
  rcases h.Em (k:=k) (fun i hi=>hm i (by omega))with⟨h1,h2⟩|⟨r,q,h1,h2,h3⟩
  .exact .inl ⟨by unfold ak;rw[h1],by unfold ak;rw[h2]⟩
  .unfold ak;rw[h1,h2];simp only;rw[<-h3 _ hj];split
   .exact .inl ⟨rfl,rfl⟩
   .refine .inr ⟨_,_,rfl,rfl,fun i hi=>?_⟩;by_cases e:i=(m k).toNat
    .subst e;rw[aV,aV]
    .rw[an _ _ e,an _ _ e,h3 i hi]
theorem qe (hS:∀m∈S,∀i,i<N->0<=m i/\m i<5):∀(f:Nat) {s t:Nat->Int},lE s t->lD N S f s=lD N S f t
 |0,_,_,_=>rfl
 |f+1,s,t,h=>by
  unfold lD;refine fold_congr fun n m hm=>?_;rcases h.Em (hS m hm)with⟨h1,h2⟩|⟨r,q,h1,h2,h3⟩
  .rw[h1,h2]
  .rw[h1,h2];simp only;rw[qe hS f h3]
theorem xq (hS:∀m∈S,∀i,i<N->0<=m i/\m i<5) (h:lE s t):bg N S s=bg N S t:=by
 unfold bg;rw[h.total,qe hS _ h]
def gZ (c:Nat):Nat->Int:=fun i=>((c/4^i%4:Nat):Int)
def fO (s:Nat->Int):Nat:=(s 0).toNat+4*(s 1).toNat+16*(s 2).toNat+64*(s 3).toNat+256*(s 4).toNat
theorem M7 (h:dn s):fO s<1024:=by
 have h0:=h 0 (by omega);have h1:=h 1 (by omega);have h2:=h 2 (by omega);have h3:=h 3 (by omega);have h4:=h 4 (by omega)
 unfold fO;omega
theorem vi (h:dn s):tick (gZ (fO s))=tick s:=by
 have h0:=h 0 (by omega);have h1:=h 1 (by omega);have h2:=h 2 (by omega);have h3:=h 3 (by omega);have h4:=h 4 (by omega)
 have e0:gZ (fO s) 0=s 0:=by unfold gZ fO;simp only[Nat.pow_zero,Nat.div_one];omega
 have e1:gZ (fO s) 1=s 1:=by unfold gZ fO;rw[show(4:Nat)^1=4 from rfl];omega
 have e2:gZ (fO s) 2=s 2:=by unfold gZ fO;rw[show(4:Nat)^2=16 from rfl];omega
 have e3:gZ (fO s) 3=s 3:=by unfold gZ fO;rw[show(4:Nat)^3=64 from rfl];omega
 have e4:gZ (fO s) 4=s 4:=by unfold gZ fO;rw[show(4:Nat)^4=256 from rfl];omega
 unfold tick;rw[e0,e1,e2,e3,e4]
def M8 (D:DataW Unit) (c:Nat):Prop:=∃kl,keyOf ZP 91 (.agg (tick (gZ c)))=some kl/\Maps.has D kl=true
open Classical in
noncomputable def cnt (D:DataW Unit):Nat:=((List.range 1024).filter fun c=>decide (M8 D c)).length
theorem RL (D:DataW Unit):cnt D<=1024:=by
 unfold cnt;refine Nat.le_trans (List.length_filter_le _ _) ?_;rw[List.length_range];exact Nat.le_refl _
theorem qf {α:Type} {p q:α->Bool} {a:α} (hp:p a=false) (hq:q a=true):∀{l:List α},(∀x∈l,p x=true->q x=true)->a∈l->(l.filter p).length+1<=(l.filter q).length
 | [],_,h=>by cases h
 |x::l,h,ha=>by
  have N4:∀{l:List α},(∀x∈l,p x=true->q x=true)->(l.filter p).length<=(l.filter q).length:=fun{l} h=>by
   induction l with
   |nil=>exact Nat.le_refl _
   |cons y l ih=>
    have h2:=ih fun z hz=>h z (List.mem_cons_of_mem _ hz);rw[List.filter_cons,List.filter_cons];by_cases hy:p y=true
    .rw[if_pos hy,if_pos (h y List.mem_cons_self hy)];simpa using h2
    .rw[if_neg hy];split
     .simp;omega
     .exact h2
  have ht:=fun z (hz:z∈l)=>h z (List.mem_cons_of_mem _ hz);rw[List.filter_cons,List.filter_cons];rcases List.mem_cons.1 ha with rfl|ha
  .rw[if_neg (by rw[hp];exact fun h=>by cases h),if_pos hq];simpa using N4 ht
  .have h2:=qf hp hq ht ha;by_cases hx:p x=true
   .rw[if_pos hx,if_pos (h x List.mem_cons_self hx)];simpa using h2
   .rw[if_neg hx];split
    .simp;omega
    .exact h2
open Classical in
theorem M9 {d:DataW Unit} (hD:IsMap D) (hs:dn s) (hk:keyOf ZP 91 (.agg (tick s))=some kl) (hn:Maps.has D kl=false):cnt D+1<=cnt (D.put kl d):=by
 unfold cnt;refine qf (a:=fO s) (decide_eq_false ?_) (decide_eq_true ?_) (fun c _ hc=>decide_eq_true ?_) (List.mem_range.2 (M7 hs))
 .rintro⟨S6,h1,h2⟩;rw[vi hs,hk]at h1;cases h1;rw[hn]at h2;cases h2
 .exact⟨kl,by rw[vi hs];exact hk,has_put_same hD (lB.key hk) d⟩
 .obtain⟨S6,h1,h2⟩:=of_decide_eq_true hc;refine⟨S6,h1,?_⟩;by_cases e:S6=kl
  .subst e;exact has_put_same hD (lB.key hk) d
  .rw[has_put_other e];exact h2
structure bj (w:World) (N:Nat) (S:List (Nat->Int)) (M:Nat) (D:DataW Unit):Prop where
 own:∃n,w.ownsMap ZP 91 (plainElem ZP 3) M n D/\n<=cnt D
 map:IsMap D
 RM:∀s,dn s->∀kl,keyOf ZP 91 (.agg (tick s))=some kl->Maps.has D kl=true->D.atKey kl (.lit (.int .i64 0))=.lit (.int .i64 (bg N S s:Nat))
theorem bj.made (w:World) (N:Nat) (S:List (Nat->Int)):bj (w.alloc (.map #[] 0)) N S w.heap.size (.map []):=
 ⟨⟨0,World.ownsMap_made _ _ _ _,Nat.zero_le _⟩,⟨[],rfl⟩,fun s _ kl _ h=>by cases h⟩
theorem bj.on (h:bj w N S M D) (hk:w'.heap[M]?=w.heap[M]?):bj w' N S M D:=by
 obtain⟨n,⟨es,clock,hb,F,hs,hD⟩,h2⟩:=h.own;exact⟨⟨n,⟨es,clock,hk.trans hb,F,hs,hD⟩,h2⟩,h.map,h.RM⟩
theorem bj.lt (h:bj w N S M D):M<w.heap.size:=by
 obtain⟨n,ho,_⟩:=h.own;exact ho.lt
theorem bj.put {n:Nat} (hS:∀m∈S,∀i,i<N->0<=m i/\m i<5) (h:bj w N S M D) (hn:n<=cnt D) (hs:dn s) (hk:keyOf ZP 91 (.agg (tick s))=some kl) (gT:Maps.has D kl=false)
 (ho:w'.ownsMap ZP 91 (plainElem ZP 3) M (n+1) (D.put kl (.lit (.int .i64 (bg N S s:Nat))))):bj w' N S M (D.put kl (.lit (.int .i64 (bg N S s:Nat)))):=by
 refine⟨⟨n+1,ho,Nat.le_trans (Nat.succ_le_succ hn) (M9 h.map hs hk gT)⟩,?_,fun t ht S6 mO hh=>?_⟩
 .obtain⟨es,rfl⟩:=h.map;exact⟨_,rfl⟩
 .by_cases e:S6=kl
  .subst e;rw[atKey_put_same h.map (lB.key hk)];have h1:=lB.inj mO hk;rw[xq hS (sM (by simpa using h1.symm))]
  .rw[atKey_put_other e];rw[has_put_other e]at hh;exact h.RM t ht S6 mO hh
end Go.Proofs.Cz
namespace Go.Proofs.Cz
open Go.RowKit
variable {A w:World} {B c n s:Nat} {L:List (Part×Value)} {e:TypeId} {l:List Part} {o:Obj} {v:Value} {xs:List Value}
section
variable {α β:Type}
theorem py {F:α->List β} (hs:∀x,(F x).length=s):∀L:List α,(L.flatMap F).length=L.length*s
 | []=>by simp
 |x::L=>by rw[List.flatMap_cons,List.length_append,hs,py hs L,List.length_cons,Nat.succ_mul];omega
theorem rb {F:α->List β} {s:Nat} (hs:∀x,(F x).length=s):∀(L:List α) (j r:Nat) (x:α),L[j]?=some x->r<s->(L.flatMap F)[j*s+r]?=(F x)[r]?
 |y::L,0,r,x,h,hr=>by
  simp at h;subst h;rw[List.flatMap_cons,Nat.zero_mul,Nat.zero_add,List.getElem?_append_left (by rw[hs];exact hr)]
 |y::L,j+1,r,x,h,hr=>by
  have e:(j+1)*s+r=s+(j*s+r):=by rw[Nat.succ_mul];omega
  have h2:L[j]?=some x:=by simpa using h
  rw[List.flatMap_cons,e,List.getElem?_append_right (by rw[hs];exact Nat.le_add_right _ _),hs,Nat.add_sub_cancel_left];exact rb hs L j r x h2 hr
theorem z6 {F:α->List β} {s:Nat} (hs:∀x,(F x).length=s):∀(L:List α) (j r:Nat) (x y:α) (u:β),L[j]?=some x->r<s->(F x).set r u=F y->(L.flatMap F).set (j*s+r) u=(L.set j y).flatMap F
 |z::L,0,r,x,y,u,h,hr,he=>by
  simp at h;subst h;rw[List.flatMap_cons,List.set_cons_zero,List.flatMap_cons,Nat.zero_mul,Nat.zero_add,List.set_append_left _ _ (by rw[hs];exact hr),he]
 |z::L,j+1,r,x,y,u,h,hr,he=>by
  have e:(j+1)*s+r=s+(j*s+r):=by rw[Nat.succ_mul];omega
  have h2:L[j]?=some x:=by simpa using h
  rw[List.flatMap_cons,List.set_cons_succ,List.flatMap_cons,e,List.set_append_right _ _ (by rw[hs];exact Nat.le_add_right _ _),hs,Nat.add_sub_cancel_left,z6 hs L j r x y u h2 hr he]
theorem z7 {F:α->List β} (hs:∀x,(F x).length=s) {L:List α} {j:Nat} {u:β} (h:(L.flatMap F)[j]?=some u):∃q r x,j=q*s+r/\r<s/\L[q]?=some x/\(F x)[r]?=some u:=by
 have hj:j<L.length*s:=by have:=(List.getElem?_eq_some_iff.1 h).1;rwa [py hs]at this
 have KU:0<s:=by
  rcases Nat.eq_zero_or_pos s with e|e
  .subst e;omega
  .exact e
 have hq:j/s<L.length:=(Nat.div_lt_iff_lt_mul KU).2 hj;have hr:=Nat.mod_lt j KU;have e:j=j/s*s+j%s:=by rw[Nat.mul_comm];exact(Nat.div_add_mod j s).symm
 have hx:L[j/s]?=some L[j/s]:=List.getElem?_eq_getElem hq;refine⟨_,_,_,e,hr,hx,?_⟩;rw[<-rb hs L _ _ _ hx hr,<-e];exact h
theorem vk:∀(l:List α) (Q:Nat->α->β->Prop),(∀j x,l[j]?=some x->∃f,Q j x f)->∃L:List (α×β),L.map Prod.fst=l/\∀j y,L[j]?=some y->Q j y.1 y.2
 | [],_,_=>⟨[],rfl,fun j y h=>by simp at h⟩
 |x::l,Q,h=>by
  obtain⟨f,hf⟩:=h 0 x rfl;obtain⟨L,h1,h2⟩:=vk l (fun j=>Q (j+1)) fun j y hy=>h (j+1) y (by simpa using hy);refine⟨(x,f)::L,by simp[h1],fun j y hy=>?_⟩;match j,hy with
  |0,hy=>simp at hy;subst hy;exact hf
  |j+1,hy=>exact h2 j y (by simpa using hy)
end
def Raw (w:World) (v:Value) (n s:Nat) (xs:List Value):Prop:=
 ∃a cap,bS w v n a cap/\xs.length=n*s/\(∀u∈xs,u.oneCell'=true)/\∀b,a=some b->∀j u,xs[j]?=some u->At w b j u
theorem Raw.mk {α:Type} {w:World} {v:Value} {a:Option Addr} {cap s:Nat} {L:List α} {F:α->List Value} (hs:∀x,(F x).length=s) (h:bS w v L.length a cap)
 (hc:∀q x,L[q]?=some x->∀r u,(F x)[r]?=some u->u.oneCell'=true/\∀b,a=some b->At w b (q*s+r) u):Raw w v L.length s (L.flatMap F):=
 ⟨a,cap,h,py hs L,fun u hu=>by
   obtain⟨j,hj⟩:=List.getElem?_of_mem hu;obtain⟨q,r,x,_,_,hx,hu⟩:=z7 hs hj;exact(hc q x hx r u hu).1,fun b e j u hu=>by
   obtain⟨q,r,x,rfl,_,hx,hu⟩:=z7 hs hu;exact(hc q x hx r u hu).2 b e⟩
theorem Na (h:w.ownsRow B e s v n xs):∃a cap,bS w v n a cap/\∀b,a=some b->∀j u,xs[j]?=some u->At w b j u:=by
 obtain⟨hl,⟨rfl,h0⟩|⟨g,cap,cur,rfl,_,hg,hle,jt,bQ,Rt⟩⟩:=h
 .exact⟨none,0,⟨by rw[h0],by omega,by unfold maxLen;omega,fun _=>rfl,(fun b hb=>by cases hb)⟩,fun b hb=>by cases hb⟩
 .refine⟨_,cap,⟨rfl,hle,jt,(fun h=>by cases h),fun b hb=>Or.inr ⟨cur,e,(0,0),by cases hb;exact hg⟩⟩,fun b hb j u hj=>?_⟩;cases hb;have Lg:=(List.getElem?_eq_some_iff.1 hj).1;refine⟨rfl,?_⟩;simp only[World.cell?,hg];rw[<-Rt,List.getElem?_take,if_pos (by omega)]at hj;simpa using hj
def eZ (x:Part×Value):List Value:=OP x.1 x.2
theorem kc (x:Part×Value):(eZ x).length=6:=rfl
theorem aC.one {l:List Int} (h:aC w v l):v.oneCell'=true:=by
 obtain⟨_,_,hs,_⟩:=h;rw[hs.eq];rfl
theorem bT.raw (h:bT w v l):∃L:List (Part×Value),L.map Prod.fst=l/\Raw w v L.length 6 (L.flatMap eZ)/\∀x∈L,aC w x.2 x.1.fits:=by
 obtain⟨a,cap,h1,h2⟩:=h
 obtain⟨L,hL,hq⟩:=vk l (fun j x f=>aC w f x.fits/\∀b,a=some b->At w b (j*6) (.string x.name)/\At w b (j*6+1) (.int .i64 x.cost)/\At w b (j*6+2) (.int .i64 x.bL)/\At w b (j*6+3) (.int .i64 x.lo)/\At w b (j*6+4) (.int .i64 x.hi)/\At w b (j*6+5) f) fun j x hx=>by
  obtain⟨b,x',rfl,uk,x0,x1,x2,x3,x4,vf,x5,x6⟩:=h1.elem h2 (List.getElem?_eq_some_iff.1 hx).1;rw[hx]at uk;cases uk;exact⟨vf,x6,fun b' e=>by cases e;exact⟨x0,x1,x2,x3,x4,x5⟩⟩
 have hn:L.length=l.length:=by rw[<-hL,List.length_map]
 refine⟨L,hL,Raw.mk kc (by rw[hn];exact h1) fun q x hx r u hu=>?_,fun x hx=>by obtain⟨j,hj⟩:=List.getElem?_of_mem hx;exact(hq j x hj).1⟩;have hc:=hq q x hx;match r,hu with
 |0,hu=>cases hu;exact⟨rfl,fun b e=>(hc.2 b e).1⟩
 |1,hu=>cases hu;exact⟨rfl,fun b e=>(hc.2 b e).2.1⟩
 |2,hu=>cases hu;exact⟨rfl,fun b e=>(hc.2 b e).2.2.1⟩
 |3,hu=>cases hu;exact⟨rfl,fun b e=>(hc.2 b e).2.2.2.1⟩
 |4,hu=>cases hu;exact⟨rfl,fun b e=>(hc.2 b e).2.2.2.2.1⟩
 |5,hu=>cases hu;exact⟨hc.1.one,fun b e=>(hc.2 b e).2.2.2.2.2⟩
 |r+6,hu=>simp[eZ,OP]at hu
theorem bT.RN (h:w.ownsRow B e 6 v L.length (L.flatMap eZ)) (hi:∀x∈L,aC w x.2 x.1.fits):bT w v (L.map Prod.fst):=by
 obtain⟨a,cap,h1,h2⟩:=Na h;refine⟨a,cap,by rw[List.length_map];exact h1,fun b eb j x hx=>?_⟩;rw[List.getElem?_map]at hx;obtain⟨y,hy,rfl⟩:=Option.map_eq_some_iff.1 hx;have hc:∀r u,r<6->(eZ y)[r]?=some u->At w b (j*6+r) u:=fun r u hr hu=>h2 b eb _ u (by rw[rb kc L j r y hy hr];exact hu);exact⟨hc 0 _ (by omega) rfl,hc 1 _ (by omega) rfl,hc 2 _ (by omega) rfl,hc 3 _ (by omega) rfl,hc 4 _ (by omega) rfl,_,hc 5 _ (by omega) rfl,hi y (List.mem_of_getElem? hy)⟩
theorem Raw.news {b:Addr} (h:Raw w (.slice (some b) n c) n s xs):xs.length=n*s/\(∀u∈xs,u.oneCell'=true)/\∀X,Below w.heap.size w X->∀j u,xs[j]?=some u->X.cell? (b.add j)=some u:=by
 obtain⟨a,cap,h1,h2,h3,h4⟩:=h;have e:=h1.eq;simp only[Value.slice.injEq,true_and]at e;obtain⟨rfl,rfl⟩:=e;refine⟨h2,h3,fun X hX j u hu=>?_⟩;obtain⟨e1,e2⟩:=(h4 _ rfl j u hu).later (Kp.of hX);obtain⟨blk,off,sp⟩:=b;simp only at e1 e2;subst e1;rw[show(⟨blk,off,none⟩:Addr).add j=⟨blk,off+j,none⟩ by unfold Addr.add;split<;>simp_all];exact e2
def sN (N:Nat) (m:Nat->Int):List Int:=(List.range N).map m
theorem Gc {w':World} {blk off:Nat} {t:Nat->Int} {k:Nat} (h:∀r,r<s->At w ⟨blk,off,none⟩ (k*s+r) (.int .i64 (t r))) (hk:Kp w w'):∀r,r<s->w'.cell? ⟨blk,off+k*s+r,none⟩=some (.int .i64 (t r)):=fun r hr=>by
 have:=((h r hr).later hk).2;rwa [<-Nat.add_assoc]at this
theorem oE (h:w.ownsRow B e s v n xs) (hn:0<n):∃g cap,v=.slice (some ⟨g,0,none⟩) n cap/\B<=g/\g<w.heap.size/\cap<=maxLen/\n<=cap:=by
 obtain⟨_,⟨_,h0⟩|⟨g,cap,cur,rfl,hb,hg,hle,jt,_⟩⟩:=h
 .omega
 .exact⟨g,cap,rfl,hb,(Array.getElem?_eq_some_iff.1 hg).1,jt,hle⟩
theorem au.rc {b:ai} {x y:Int} {v2 v3 v4:Value} (h:au w (.agg #[.int .i64 x,.int .i64 y,v2,v3,v4]) b):bT w v2 b.parts:=by
 obtain⟨_,_,_,e,h2,h3,_⟩:=h;simp only[Value.agg.injEq,Array.mk.injEq,List.cons.injEq,true_and,and_true]at e;obtain⟨_,_,rfl,_,_⟩:=e;exact h2
theorem bT.first {a:Option Addr} (h:bT w (.slice a n c) l) (hl:0<l.length):∃blk off,a=some ⟨blk,off,none⟩:=by
 obtain⟨a',c',h1,h2⟩:=h;have e:=h1.eq;simp only[Value.slice.injEq]at e;obtain⟨rfl,_,rfl⟩:=e;obtain⟨⟨blk,off,sp⟩,x,rfl,hx,x0,_⟩:=h1.elem h2 (k:=0) hl;obtain rfl:sp=none:=x0.1;exact⟨blk,off,rfl⟩
theorem fe {t:TypeId} {cs:Array Value} (h:w.alloc (.cells cs t)=A):aD A w.heap.size t cs:=by rw[<-h];exact aD.new _ _ _
theorem dd (h:w.alloc o=A):aa [] w A:=by rw[<-h];exact aa.alloc _ _ _
theorem lW (h:w.alloc o=A):A.heap.size=w.heap.size+1:=by rw[<-h];simp
theorem JQ {g cap i:Nat} {x:Part×Value} (h:w.ownsRow B e 6 (.slice (some ⟨g,0,none⟩) n cap) n (L.flatMap eZ)) (hx:L[i]?=some x) (hn:L.length=n) (r:Nat) (hr:r<6) {u:Value} (hu:(eZ x)[r]?=some u):
 w.cell? ⟨g,i*6+r,none⟩=some u:=by
 have V8:=(List.getElem?_eq_some_iff.1 hx).1;exact(h.cellAt (i*6+r) (by omega)).trans ((rb kc L i r x hx hr).trans hu)
end Go.Proofs.Cz
