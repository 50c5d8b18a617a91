/- A part. Conditions: none. -/
import Derived.Test.YthmokljbbkcjdaaGreatDoorT33
import Derived.Laws.ResultCell
set_option linter.all false
set_option maxHeartbeats 8000000
set_option maxRecDepth 100000
namespace Go.Proofs.Cz
open Go.RowKit
variable {L S l:List (Nat->Int)} {N g k:Nat} {b:av} {m t t0:Nat->Int} {p:Int} {v:Value} {w:World}
theorem zO (w:World) (a b c d e:Value):Calls ZP 56 #[.agg #[a,b,c,d,e]] w (dd w (.int .i64 0)):=by
 go_enter ZF56,Tryz.ntmps56
 go_wp2
 go_ret;exact⟨rfl,(aa.alloc [] w _).below (by simp) (Nat.le_refl _)⟩
abbrev Cc (b:av) (v2 v3 v4 v5:Value):Value:=.agg #[.int .i64 b.an,.int .i64 b.places,v2,v3,v4,v5]
abbrev uT:Value:=.agg #[.int .i64 0,.int .i64 0,.slice none 0 0,.slice none 0 0,.slice none 0 0,.slice none 0 0]
theorem Qc {W:World} {t:Nat} {c0 c1 c2 c3 c4 c5:Value} (v0 v1 v2 v3 v4 v5:Value) (h:aF W g t #[c0,c1,c2,c3,c4,c5]):
 aF ((((((W.setCell ⟨g,0,none⟩ v0).setCell ⟨g,1,none⟩ v1).setCell ⟨g,2,none⟩ v2).setCell ⟨g,3,none⟩ v3).setCell ⟨g,4,none⟩ v4).setCell ⟨g,5,none⟩ v5) g t #[v0,v1,v2,v3,v4,v5]/\
 aa [g] W ((((((W.setCell ⟨g,0,none⟩ v0).setCell ⟨g,1,none⟩ v1).setCell ⟨g,2,none⟩ v2).setCell ⟨g,3,none⟩ v3).setCell ⟨g,4,none⟩ v4).setCell ⟨g,5,none⟩ v5):=
 ⟨(((((h.set 0 v0).set 1 v1).set 2 v2).set 3 v3).set 4 v4).set 5 v5,
  (((((aa.set W (by simp) v0).trans' (aa.set _ (by simp) v1)).trans' (aa.set _ (by simp) v2)).trans' (aa.set _ (by simp) v3)).trans' (aa.set _ (by simp) v4)).trans' (aa.set _ (by simp) v5)⟩
def DA (w:World) (b:av) (v2 v3 v4:Value) (L:List (Nat->Int)) (e:Ending) (w':World):Prop:=
 ((L=[]/\e=.returned (.tuple #[uT,.int .i64 9]))\/
  (L≠ []/\∃a c,e=.returned (.tuple #[Cc b v2 v3 v4 (.slice a L.length c),.int .i64 0])/\bC 5 w' (.slice a L.length c) L/\jV w (.slice a L.length c)))/\
 Below w.heap.size w w'
theorem openF_any (f:Nat) (hf:∀(args:Array Value) (w:World),Sem.run ZP (Go.callFunc f args) w=.ok (.enter f args) w) (w:World) (b:av) (v:Value) (a2:Option Addr) (c2:Nat) (v3 v4:Value) (ag:(Nat->Int)->Bool) (Fh:v=.agg #[.int .i64 b.an,.int .i64 b.places,.slice a2 b.parts.length c2,v3,v4]) (hb:aD w v b) (hv:Valid b) (hc:kD w)
 (cs:Array Value) (iK:∀X t,Below w.heap.size w X->Calls ZP 114 #[v,.agg (tick t)] X (dd X (.bool (ag t))))
 (cH:∀X,Below w.heap.size w X->Calls ZP f (#[v]++cs) X (dd X (.int .i64 0))):
 Calls ZP 55 #[v,.func (.func f) #[] cs] w (DA w b (.slice a2 b.parts.length c2) v3 v4 (aC b ag)):=by
 subst Fh;have HB:Hid (aD w (.agg #[.int .i64 b.an,.int .i64 b.places,.slice a2 b.parts.length c2,v3,v4]) b):=hb;have HV:Hid (Valid b):=hv;obtain⟨_,_,_,FV,_,⟨a3,c3,⟨e3,_,_,_,_⟩,_⟩,⟨a4,c4,⟨e4,_,_,_,_⟩,_⟩⟩:=hb;simp only[Value.agg.injEq,Array.mk.injEq,List.cons.injEq,true_and,and_true]at FV;obtain⟨rfl,rfl,rfl⟩:=FV;subst e3 e4;obtain⟨A1,bB⟩:∃A,w.alloc (.cells #[.int .i64 b.an,.int .i64 b.places,.slice a2 b.parts.length c2,.slice a3 b.apart.length c3,.slice a4 b.ac.length c4] 26)=A:=⟨_,rfl⟩
 obtain⟨A2,cu⟩:∃A,A1.alloc (.cells #[.int .i64 0,.int .i64 0,.slice none 0 0,.slice none 0 0,.slice none 0 0,.slice none 0 0] 86)=A:=⟨_,rfl⟩
 have eS:A1.heap.size=w.heap.size+1:=by rw[<-bB];simp
 have kM:A2.heap.size=w.heap.size+2:=by rw[<-cu];simp[eS]
 have jC:Hid (aF A2 w.heap.size 26 #[.int .i64 b.an,.int .i64 b.places,.slice a2 b.parts.length c2,.slice a3 b.apart.length c3,.slice a4 b.ac.length c4]):=by
  rw[<-cu];refine(aa.alloc [] _ _).box ?_ (by simp);rw[<-bB];exact aF.new _ _ _
 have XK:Hid (aF A2 (w.heap.size+1) 86 #[.int .i64 0,.int .i64 0,.slice none 0 0,.slice none 0 0,.slice none 0 0,.slice none 0 0]):=by rw[<-cu,<-eS];exact aF.new _ _ _
 have tR:Hid (Below w.heap.size w A2):=by rw[<-cu,<-bB];exact((aa.alloc [] _ _).lS _).below (by simp) (Nat.le_refl _)
 have HC:Hid (kD w):=hc;have uU:Hid (∀X t,Below w.heap.size w X->Calls ZP 114 #[.agg #[.int .i64 b.an,.int .i64 b.places,.slice a2 b.parts.length c2,.slice a3 b.apart.length c3,.slice a4 b.ac.length c4],.agg (tick t)] X (dd X (.bool (ag t)))):=iK;have z0:A2.cell? ⟨w.heap.size,0,none⟩=some (.int .i64 b.an):=jC.out.cell 0 rfl;have z1:A2.cell? ⟨w.heap.size,1,none⟩=some (.int .i64 b.places):=jC.out.cell 1 rfl;have z2:A2.cell? ⟨w.heap.size,2,none⟩=some (.slice a2 b.parts.length c2):=jC.out.cell 2 rfl;have z3:A2.cell? ⟨w.heap.size,3,none⟩=some (.slice a3 b.apart.length c3):=jC.out.cell 3 rfl;have z4:A2.cell? ⟨w.heap.size,4,none⟩=some (.slice a4 b.ac.length c4):=jC.out.cell 4 rfl;have zbf:Hid (∀X,Below w.heap.size w X->Calls ZP f (#[.agg #[.int .i64 b.an,.int .i64 b.places,.slice a2 b.parts.length c2,.slice a3 b.apart.length c3,.slice a4 b.ac.length c4]]++cs) X (dd X (.int .i64 0))):=cH;clear hv hc iK cH;go_enter ZF55,Tryz.ntmps55
 go_wp2_with fail
 refine(sx A2 _ b (HB.out.later (Kp.of tR.out)) HV.out (HC.out.later tR.out)).mono ?_;rintro e w1 ⟨⟨r,rfl,rfl⟩,bN⟩;have dF:Hid (Below A2.heap.size A2 w1):=bN;clear z0 z1 z2 z3 z4 bN bB cu;have z0:w1.cell? ⟨w.heap.size,0,none⟩=some (.int .i64 b.an):=(jC.out.below dF.out jC.out.lt).cell 0 rfl;have z1:w1.cell? ⟨w.heap.size,1,none⟩=some (.int .i64 b.places):=(jC.out.below dF.out jC.out.lt).cell 1 rfl;have z2:w1.cell? ⟨w.heap.size,2,none⟩=some (.slice a2 b.parts.length c2):=(jC.out.below dF.out jC.out.lt).cell 2 rfl;have z3:w1.cell? ⟨w.heap.size,3,none⟩=some (.slice a3 b.apart.length c3):=(jC.out.below dF.out jC.out.lt).cell 3 rfl;have z4:w1.cell? ⟨w.heap.size,4,none⟩=some (.slice a4 b.ac.length c4):=(jC.out.below dF.out jC.out.lt).cell 4 rfl;go_wp2_with fail
 obtain⟨A4,zE⟩:∃A,w1.alloc (.cells #[.int .i64 b.an,.int .i64 b.places,.slice a2 b.parts.length c2,.slice a3 b.apart.length c3,.slice a4 b.ac.length c4] 79)=A:=⟨_,rfl⟩
 rw[zE];have hs4:A4.heap.size=w1.heap.size+1:=by rw[<-zE];simp
 have DB:Hid (aF A4 w1.heap.size 79 #[.int .i64 b.an,.int .i64 b.places,.slice a2 b.parts.length c2,.slice a3 b.apart.length c3,.slice a4 b.ac.length c4]):=by rw[<-zE];exact aF.new _ _ _
 have HK4:Hid (Below A2.heap.size A2 A4):=by rw[<-zE];exact dF.out.alloc dF.out.size _
 refine(zbf.out A4 (tR.out.trans (HK4.out.mono tR.out.size))).mono ?_;rintro e w2 ⟨rfl,iA⟩;have jT:Hid (Below A4.heap.size A4 w2):=iA;clear z0 z1 z2 z3 z4 iA zE;have z0:w2.cell? ⟨w1.heap.size,0,none⟩=some (.int .i64 b.an):=(DB.out.below jT.out DB.out.lt).cell 0 rfl;have z1:w2.cell? ⟨w1.heap.size,1,none⟩=some (.int .i64 b.places):=(DB.out.below jT.out DB.out.lt).cell 1 rfl;have z2:w2.cell? ⟨w1.heap.size,2,none⟩=some (.slice a2 b.parts.length c2):=(DB.out.below jT.out DB.out.lt).cell 2 rfl;have z3:w2.cell? ⟨w1.heap.size,3,none⟩=some (.slice a3 b.apart.length c3):=(DB.out.below jT.out DB.out.lt).cell 3 rfl;have z4:w2.cell? ⟨w1.heap.size,4,none⟩=some (.slice a4 b.ac.length c4):=(DB.out.below jT.out DB.out.lt).cell 4 rfl;have uV:Hid (Below A2.heap.size A2 w2):=HK4.out.trans (jT.out.mono HK4.out.size);have XL:Hid (Below w.heap.size w w2):=tR.out.trans (uV.out.mono tR.out.size);go_wp2_with fail
 refine(LT w2 b a2 c2 _ _ ag (HB.out.later (Kp.of XL.out)) HV.out (fun X t hX=>uU.out X t (XL.out.trans (hX.mono XL.out.size)))).mono ?_;rintro e w3 ⟨⟨v5,rfl,UU⟩,pg⟩
 have HV5:Hid (∀W',aa [w.heap.size+1] w3 W'->bC 5 W' v5 (aC b ag)):=fun W' hk=>bC.ew IN LU (bA UU fun k e=>by
  have h1:=aE UU k e;have h2:=uV.out.size;refine hk.block k h1.2 ?_;simp;omega)
 have LV:Hid (jV w v5):=jV.of UU XL.out.size;have jm:Hid (Below w2.heap.size w2 w3):=pg;have Cd:Hid (Below A2.heap.size A2 w3):=uV.out.trans (jm.out.mono uV.out.size);have tn:Hid (aF w3 (w.heap.size+1) 86 #[.int .i64 0,.int .i64 0,.slice none 0 0,.slice none 0 0,.slice none 0 0,.slice none 0 0]):=XK.out.below Cd.out XK.out.lt;have UV:Hid (aF w3 w1.heap.size 79 #[.int .i64 b.an,.int .i64 b.places,.slice a2 b.parts.length c2,.slice a3 b.apart.length c3,.slice a4 b.ac.length c4]):=DB.out.below (jT.out.trans (jm.out.mono jT.out.size)) DB.out.lt;have LW:Hid (Below w.heap.size w w3):=tR.out.trans (Cd.out.mono tR.out.size);obtain⟨a5,c5,rfl⟩:=mQ UU;clear z0 z1 z2 z3 z4 pg UU;have z0:w3.cell? ⟨w1.heap.size,0,none⟩=some (.int .i64 b.an):=UV.out.cell 0 rfl;have z1:w3.cell? ⟨w1.heap.size,1,none⟩=some (.int .i64 b.places):=UV.out.cell 1 rfl;have z2:w3.cell? ⟨w1.heap.size,2,none⟩=some (.slice a2 b.parts.length c2):=UV.out.cell 2 rfl;have z3:w3.cell? ⟨w1.heap.size,3,none⟩=some (.slice a3 b.apart.length c3):=UV.out.cell 3 rfl;have z4:w3.cell? ⟨w1.heap.size,4,none⟩=some (.slice a4 b.ac.length c4):=UV.out.cell 4 rfl;have f0:w3.frozen? ⟨w.heap.size+1,0,none⟩=false:=tn.out.aN 0;have f1:w3.frozen? ⟨w.heap.size+1,1,none⟩=false:=tn.out.aN 1;have f2:w3.frozen? ⟨w.heap.size+1,2,none⟩=false:=tn.out.aN 2;have f3:w3.frozen? ⟨w.heap.size+1,3,none⟩=false:=tn.out.aN 3;have f4:w3.frozen? ⟨w.heap.size+1,4,none⟩=false:=tn.out.aN 4;have f5:w3.frozen? ⟨w.heap.size+1,5,none⟩=false:=tn.out.aN 5;have t0:w3.cell? ⟨w.heap.size+1,0,none⟩=some (.int .i64 0):=tn.out.cell 0 rfl;have t1:w3.cell? ⟨w.heap.size+1,1,none⟩=some (.int .i64 0):=tn.out.cell 1 rfl;have t2:w3.cell? ⟨w.heap.size+1,2,none⟩=some (.slice none 0 0):=tn.out.cell 2 rfl;have t3:w3.cell? ⟨w.heap.size+1,3,none⟩=some (.slice none 0 0):=tn.out.cell 3 rfl;have t4:w3.cell? ⟨w.heap.size+1,4,none⟩=some (.slice none 0 0):=tn.out.cell 4 rfl;have t5:w3.cell? ⟨w.heap.size+1,5,none⟩=some (.slice none 0 0):=tn.out.cell 5 rfl;have hlen:=zM HV.out ag;by_cases h0:(ei ag b.parts b.parts.length 0 (fun _=>0))=[]
 .have DC:Hid (aC b ag=[]):=h0;rw[h0]at*;simp only[List.length_nil];go_wp2_with fail
  obtain⟨WF,jW⟩:∃W,((((((w3.setCell ⟨w.heap.size+1,0,none⟩ (.int .i64 0)).setCell ⟨w.heap.size+1,1,none⟩ (.int .i64 0)).setCell ⟨w.heap.size+1,2,none⟩ (.slice none 0 0)).setCell
   ⟨w.heap.size+1,3,none⟩ (.slice none 0 0)).setCell ⟨w.heap.size+1,4,none⟩ (.slice none 0 0)).setCell ⟨w.heap.size+1,5,none⟩ (.slice none 0 0))=W:=⟨_,rfl⟩
  obtain⟨jX,nA⟩:=Qc (.int .i64 0) (.int .i64 0) (.slice none 0 0) (.slice none 0 0) (.slice none 0 0) (.slice none 0 0) tn.out;rw[jW]at jX nA⊢;have pT:Below w.heap.size w WF:=LW.out.trans (nA.below (by simp) LW.out.size);have q0:=jX.cell 0 rfl;have q1:=jX.cell 1 rfl;have q2:=jX.cell 2 rfl;have q3:=jX.cell 3 rfl;have q4:=jX.cell 4 rfl;have q5:=jX.cell 5 rfl;refine bodyPost_ret (v:=.tuple #[uT,.int .i64 9]) ?_ rfl ⟨.inl ⟨DC.out,rfl⟩,pT⟩;rw[results_cell_tmp rfl];go_simp
 .have fR:0<(ei ag b.parts b.parts.length 0 (fun _=>0)).length:=List.length_pos_iff.2 h0;have DC:Hid (aC b ag≠ []):=h0;generalize UW:(ei ag b.parts b.parts.length 0 (fun _=>0)).length=ln at*;have RG:¬((ln:Int)=0):=by omega
  have zhC:((ln:Int)==0)=false:=by simp;omega
  go_wp2_with fail
  obtain⟨WF,jW⟩:∃W,((((((w3.setCell ⟨w.heap.size+1,0,none⟩ (.int .i64 b.an)).setCell ⟨w.heap.size+1,1,none⟩ (.int .i64 b.places)).setCell ⟨w.heap.size+1,2,none⟩ (.slice a2 b.parts.length c2)).setCell
   ⟨w.heap.size+1,3,none⟩ (.slice a3 b.apart.length c3)).setCell ⟨w.heap.size+1,4,none⟩ (.slice a4 b.ac.length c4)).setCell ⟨w.heap.size+1,5,none⟩ (.slice a5 ln c5))=W:=⟨_,rfl⟩
  obtain⟨jX,nA⟩:=Qc (.int .i64 b.an) (.int .i64 b.places) (.slice a2 b.parts.length c2) (.slice a3 b.apart.length c3) (.slice a4 b.ac.length c4) (.slice a5 ln c5) tn.out;rw[jW]at jX nA⊢;have pT:Below w.heap.size w WF:=LW.out.trans (nA.below (by simp) LW.out.size);have q0:=jX.cell 0 rfl;have q1:=jX.cell 1 rfl;have q2:=jX.cell 2 rfl;have q3:=jX.cell 3 rfl;have q4:=jX.cell 4 rfl;have q5:=jX.cell 5 rfl;refine bodyPost_ret (v:=.tuple #[Cc b (.slice a2 b.parts.length c2) (.slice a3 b.apart.length c3) (.slice a4 b.ac.length c4) (.slice a5 ln c5),.int .i64 0]) ?_ rfl ⟨.inr ⟨DC.out,a5,c5,by rw[UW],by rw[UW];exact HV5.out WF nA,by rw[UW];exact LV.out⟩,pT⟩;rw[results_cell_tmp rfl];go_simp
theorem IQ (w:World) (b:av) (v:Value) (a2:Option Addr) (c2:Nat) (v3 v4:Value) (ag:(Nat->Int)->Bool) (Fh:v=.agg #[.int .i64 b.an,.int .i64 b.places,.slice a2 b.parts.length c2,v3,v4]) (hb:aD w v b) (hv:Valid b) (hc:kD w)
 (iK:∀X t,Below w.heap.size w X->Calls ZP 114 #[v,.agg (tick t)] X (dd X (.bool (ag t)))):
 Calls ZP 55 #[v,.func (.func 56) #[] #[]] w (DA w b (.slice a2 b.parts.length c2) v3 v4 (aC b ag)):=
 openF_any 56 ZC56 w b v a2 c2 v3 v4 ag Fh hb hv hc #[] iK fun X _=>by subst Fh;exact zO X _ _ _ _ _
def ej (m:Nat->Int) (N:Nat) (t0:Nat->Int) (L:List (Nat->Int)):Int:=L.foldl (fun a t=>min a (bW m t N)) (bW m t0 N)
def ep (m:Nat->Int) (N:Nat) (t0:Nat->Int) (L:List (Nat->Int)):Int:=L.foldl (fun a t=>max a (bW m t N)) (bW m t0 N)
def gV (N:Nat) (L:List (Nat->Int)) (m:Nat->Int):Int:=ep m N (L.headD fun _=>0) L.tail
def jY (N:Nat) (L:List (Nat->Int)) (m:Nat->Int):Int:=ej m N (L.headD fun _=>0) L.tail
theorem zP (m:Nat->Int) (N:Nat) (t0 t:Nat->Int) (L:List (Nat->Int)):ep m N t0 (L++[t])=max (ep m N t0 L) (bW m t N):=by simp[ep]
theorem zQ (m:Nat->Int) (N:Nat) (t0 t:Nat->Int) (L:List (Nat->Int)):ej m N t0 (L++[t])=min (ej m N t0 L) (bW m t N):=by simp[ej]
noncomputable def au (b:av) (L:List (Nat->Int)):List (Nat->Int):=(aG b).filter fun m=>decide (gV b.places.toNat L m<=b.an)
def bare (l:List Part) (i:Nat):List Part:=match l[i]? with|some x=>l.set i {x with fits:=[]}|none=>l
theorem zR (h:l[k]?=some t):ep m N t0 (l.take (k+1))=max (ep m N t0 (l.take k)) (bW m t N):=by
 rw[List.take_add_one,h];exact zP ..
theorem zS (h:l[k]?=some t):ej m N t0 (l.take (k+1))=min (ej m N t0 (l.take k)) (bW m t N):=by
 rw[List.take_add_one,h];exact zQ ..
theorem jZ (w:World) (v2 v3 v4 v5:Value) (b:av) (N:Nat) (hN:b.places=N) (lT:N<=4) (L:List (Nat->Int)) (hL:bC 5 w v5 L) (br:L≠ []) (m:Nat->Int) (hm:∀i,0<=m i/\m i<5) (ht:∀t∈L,∀i,0<=t i/\t i<=20):
 Calls ZP 65 #[Cc b v2 v3 v4 v5,.agg (bD m)] w (dd w (.agg #[.int .i64 (jY N L m),.int .i64 (gV N L m)])):=by
 obtain⟨t0,l,rfl⟩:∃t0 l,L=t0::l:=by cases L with
  |nil=>exact absurd rfl br
  |cons a l=>exact⟨a,l,rfl⟩
 have HL:=hid hL;have HT:=hid ht;have HM:=hid hm;have HN:=hid hN;obtain⟨a,cap,hs,he⟩:=hL;obtain⟨⟨blk,off,sp⟩,t1,rfl,hx,pa⟩:=hs.elem he (k:=0) (by simp);simp at hx;subst hx;obtain rfl:sp=none:=(pa 0 (by omega)).1;have HE:Hid (cn w v5 (t0::l).length (some ⟨blk,off,none⟩) cap/\_):=⟨hs,he⟩
 obtain⟨rfl,hle,jF,_,_⟩:=hs;unfold maxLen at jF;clear ht hm br;obtain⟨A1,bB⟩:=ex1 (w.alloc (.cells #[.int .i64 b.an,.int .i64 b.places,v2,v3,v4,.slice (some ⟨blk,off,none⟩) (t0::l).length cap] 86));obtain⟨A2,cu⟩:=ex1 (A1.alloc (.cells (bD m) 91));obtain⟨A3,gM⟩:=ex1 (A2.alloc (.cells #[.int .i64 0,.int .i64 0] 31));have eS:=snew bB;have kM:=snew2 cu eS;have Ki:=snew2 gM kM
 have B1:Hid (aF A3 w.heap.size 86 #[.int .i64 b.an,.int .i64 b.places,v2,v3,v4,.slice (some ⟨blk,off,none⟩) (t0::l).length cap]):=by
  rw[<-gM];refine(aa.alloc [] _ _).box ?_ (by simp);rw[<-cu];refine(aa.alloc [] _ _).box ?_ (by simp);rw[<-bB];exact aF.new _ _ _
 have B2:Hid (aF A3 (w.heap.size+1) 91 (bD m)):=by
  rw[<-gM];refine(aa.alloc [] _ _).box ?_ (by simp);rw[<-cu,<-eS];exact aF.new _ _ _
 have B3:=bnew2 gM kM;have HW:=wnew3 bB cu gM;obtain⟨z0,z1,z2,z3,z4,z5⟩:=B1.o.a6;obtain⟨y0,y1,y2,y3⟩:=B2.o.a4;have r0:∀X:am A3,X.1.cell? ⟨blk,off,none⟩=some (.int .i64 (t0 0)):=fun X=>X.cell (by simpa using((pa 0 (by omega)).later (Kp.of HW.o)).2);have r1:∀X:am A3,X.1.cell? ⟨blk,off+1,none⟩=some (.int .i64 (t0 1)):=fun X=>X.cell (by simpa using((pa 1 (by omega)).later (Kp.of HW.o)).2);have r2:∀X:am A3,X.1.cell? ⟨blk,off+2,none⟩=some (.int .i64 (t0 2)):=fun X=>X.cell (by simpa using((pa 2 (by omega)).later (Kp.of HW.o)).2);have r3:∀X:am A3,X.1.cell? ⟨blk,off+3,none⟩=some (.int .i64 (t0 3)):=fun X=>X.cell (by simpa using((pa 3 (by omega)).later (Kp.of HW.o)).2);have r4:∀X:am A3,X.1.cell? ⟨blk,off+4,none⟩=some (.int .i64 (t0 4)):=fun X=>X.cell (by simpa using((pa 4 (by omega)).later (Kp.of HW.o)).2)
 have kC:∀X:am A3,Calls ZP 102 #[.agg #[.int .i64 b.an,.int .i64 b.places,v2,v3,v4],.agg (bD m),.agg (tick t0)] X.1 (fun e iU=>e=.returned (.int .i64 (bW m t0 N))/\∃Y:am A3,iU=Y.1):=fun X=>
  (zJ X.1 v2 v3 v4 b N HN.o lT m t0 (fun i _=>HM.o i) (HT.o t0 (by simp))).mono fun e w' h=>⟨h.1,X.on h.2⟩
 simp only[bD,tick]at cu kC⊢;simp only[List.length_cons]at bB z5 hle⊢;have Na:((l.length+1:Nat):Int)=(l.length:Int)+1:=by omega
 clear pa he hN;go_enter ZF65,Tryz.ntmps65
 go_wp2_with fail
 refine aq (by kernel_rfl) (by kernel_rfl) ?_;repeat(go_big_quiet_step (first|(go_at_call 102;exact kC _)))
 refine wpQuiet_nil ?_;rintro _ ⟨X,rfl⟩;have ND:=HW.t X.2;obtain⟨W,hW⟩:=ex1 (X.1);rw[hW];have HK:Hid (Below A3.heap.size A3 W):=by rw[<-hW];exact X.2
 obtain⟨W1,Fc⟩:=ex1 (W.alloc (.cells #[.int .i64 (bW m t0 N),.int .i64 (bW m t0 N)] 31));have x5:W.cell? ⟨w.heap.size,5,none⟩=some (.slice (some ⟨blk,off,none⟩) (l.length+1) cap):=by rw[<-hW];exact z5 X
 have x5':W1.cell? ⟨w.heap.size,5,none⟩=some (.slice (some ⟨blk,off,none⟩) (l.length+1) cap):=by
  rw[<-Fc];exact(eL (by have:=HK.o.size;show w.heap.size<_;omega) _).trans x5
 rw[hW]at ND;clear kC z0 z1 z2 z3 z4 z5 y0 y1 y2 y3 r0 r1 r2 r3 r4 hW X x5;by_cases ZD:cap=1
 .have NE:l=[]:=List.eq_nil_of_length_eq_zero (by omega);subst NE;have q0:W1.cell? ⟨W.heap.size,0,none⟩=some (.int .i64 (bW m t0 N)):=by rw[<-Fc];exact(aF.new W 31 _).cell 0 rfl
  have q1:W1.cell? ⟨W.heap.size,1,none⟩=some (.int .i64 (bW m t0 N)):=by rw[<-Fc];exact(aF.new W 31 _).cell 1 rfl
  go_wp2_with fail
  go_loopw [24] (fun i wr=>i=.int .i64 0/\Hid (aF wr W.heap.size 31 #[.int .i64 (ej m N t0 []),.int .i64 (ep m N t0 [])])/\Hid (aa [W.heap.size] W wr)) (fun _ _=>0)
  case atStart=>exact⟨rfl,by rw[<-Fc];exact aF.new W 31 _,by rw[<-Fc];exact aa.alloc _ _ _⟩
  case round=>
   obtain⟨rfl,An,uW⟩:=hrel;have pf:aF wr (w.heap.size+1+1) 31 #[.int .i64 0,.int .i64 0]:=uW.o.box ((aa.of (O:=[]) HK.o).box B3.o (by simp)) (by have:=HK.o.size;simp;omega);have p0:=pf.cell 0 rfl;have p1:=pf.cell 1 rfl;have p2:=pf.aN 0;have p3:=pf.aN 1;have q0:=An.o.cell 0 rfl;have q1:=An.o.cell 1 rfl;go_wp2
   obtain⟨WF,jW⟩:=ex1 ((wr.setCell ⟨w.heap.size+1+1,0,none⟩ (.int .i64 (ej m N t0 []))).setCell ⟨w.heap.size+1+1,1,none⟩ (.int .i64 (ep m N t0 [])));have jX:aF WF (w.heap.size+1+1) 31 #[.int .i64 (ej m N t0 []),.int .i64 (ep m N t0 [])]:=by rw[<-jW];exact(pf.set 0 _).set 1 _
   have nA:aa [w.heap.size+1+1] wr WF:=by rw[<-jW];exact(aa.set wr (by simp) _).trans' (aa.set _ (by simp) _)
   have pT:Below w.heap.size w WF:=ND.o.trans ((uW.o.below (by have:=HK.o.size;simp;omega) ND.o.size).trans (nA.below (by simp;omega) (by have:=uW.o.size;have:=ND.o.size;omega)));have u0:=jX.cell 0 rfl;have u1:=jX.cell 1 rfl;rw[jW];refine bodyPost_ret (v:=.agg #[.int .i64 (jY N (t0:: []) m),.int .i64 (gV N (t0:: []) m)]) ?_ rfl ⟨rfl,pT⟩;rw[fK rfl];go_simp;exact⟨rfl,rfl⟩
 .go_wp2_with fail
  go_loopw [24] (fun i wr=>∃k:Nat,k<=l.length/\i=.int .i64 k/\Hid (aF wr W.heap.size 31 #[.int .i64 (ej m N t0 (l.take k)),.int .i64 (ep m N t0 (l.take k))])/\Hid (aa [W.heap.size] W wr)) (fun i _=>l.length-(intOf i).toNat)
  case atStart=>exact⟨0,Nat.zero_le _,rfl,by rw[<-Fc];exact aF.new W 31 _,by rw[<-Fc];exact aa.alloc _ _ _⟩
  case round=>
   obtain⟨k,hk,rfl,An,uW⟩:=hrel;by_cases aA:k<l.length
   .have hx:l[k]?=some l[k]:=List.getElem?_eq_getElem aA;obtain⟨t,htt⟩:=ex1 (l[k]);rw[htt]at hx
    have be:∀r,r<5->wr.cell? ⟨blk,off+5+k*5+r,none⟩=some (.int .i64 (t r)):=fun r hr=>by
     have h1:=(HE.o.2 _ rfl (k+1) t (by simpa using hx) r hr)
     have h2:=h1.later (Kp.of ND.o);have h3:=h2.lt;have h4:=h2.2;rw[show off+5+k*5+r=off+((k+1)*5+r) by omega];exact(World.cell?_of_block (w:=W) (a:=⟨blk,off+((k+1)*5+r),none⟩) (uW.o.block blk h3 (by simp at h3⊢;omega))).trans h4
    have r0:=be 0 (by omega);have r1:=be 1 (by omega);have r2:=be 2 (by omega);have r3:=be 3 (by omega);have r4:=be 4 (by omega);simp only[Nat.add_zero]at r0;have HX:=hid hx
    have hWg:∀(g tt:Nat) (cs:Array Value),g<A3.heap.size->aF A3 g tt cs->aF wr g tt cs:=fun g tt cs hg h=>
     uW.o.box ((aa.of (O:=[]) HK.o).box h (by simp)) (by have:=HK.o.size;simp;omega)
    have BW1:=hWg _ _ _ (by omega) B1.o;have BW2:=hWg _ _ _ (by omega) B2.o;obtain⟨wt,Ao⟩:=ex1 (wr.alloc (.cells (tick t) 111));have LX:=knew Ao;have HBt:Hid (aF wt W.heap.size 31 #[.int .i64 (ej m N t0 (l.take k)),.int .i64 (ep m N t0 (l.take k))]):=LX.box An.o (by simp);have RH:Hid (aa [W.heap.size] W wt):=uW.o.trans (O':=[]) LX (by simp);have BT1:=LX.box BW1 (by simp);have BT2:=LX.box BW2 (by simp);obtain⟨s0,s1,s2,s3,s4⟩:=BT1.c5;obtain⟨y0,y1,y2,y3⟩:=BT2.c4;have BX:=aF.new wr 111 (tick t);rw[Ao]at BX;obtain⟨e0,e1,e2,e3,e4⟩:=BX.c5;have hC:=zJ wt v2 v3 v4 b N HN.o lT m t (fun i _=>HM.o i) (HT.o t (by have:=List.mem_of_getElem? HX.o;simp[this]));simp only[bD,tick]at hC Ao;have ka:(k:Int)<(l.length:Int):=by omega
    have Cb:=hid aA;clear be hx htt hWg BW1 BW2 LX BT1 BT2 BX hk aA;go_wp2_with fail
    refine hC.mono ?_;rintro e w2 ⟨rfl,iA⟩;have jT:Hid (aa [W.heap.size] W w2):=RH.o.trans (O':=[]) (aa.of iA) (by simp);have mP:Hid (aF w2 W.heap.size 31 #[.int .i64 (ej m N t0 (l.take k)),.int .i64 (ep m N t0 (l.take k))]):=(aa.of (O:=[]) iA).box HBt.o (by simp);have q0:=mP.o.cell 0 rfl;have q1:=mP.o.cell 1 rfl;have g0:=mP.o.aN 0;have g1:=mP.o.aN 1;have HLo:=zS (m:=m) (N:=N) (t0:=t0) HX.o;have HHi:=zR (m:=m) (N:=N) (t0:=t0) HX.o;have UX:Hid (ej m N t0 (l.take (k+1))=min (ej m N t0 (l.take k)) (bW m t N)/\ep m N t0 (l.take (k+1))=max (ep m N t0 (l.take k)) (bW m t N)):=⟨HLo,HHi⟩
    clear hC iA HLo HHi s0 s1 s2 s3 s4 y0 y1 y2 y3 e0 e1 e2 e3 e4 r0 r1 r2 r3 r4 Ao;generalize ej m N t0 (l.take k)=lo at*;generalize ep m N t0 (l.take k)=hi at*;generalize bW m t N=tk at*;go_wp2
    have e1:(if tk<lo then tk else lo)=min lo tk:=by split<;>omega
    have e2:(if hi<tk then tk else hi)=max hi tk:=by split<;>omega
    have ua:=Cb.o;rw[e1,e2];refine⟨⟨k+1,by omega,by go_num,?_,?_⟩,by simp[intOf];omega⟩
    .rw[UX.o.1,UX.o.2];exact(mP.o.set 0 _).set 1 _
    .exact jT.o.trans' ((aa.set _ (by simp) _).trans' (aa.set _ (by simp) _))
   .have e:k=l.length:=by omega
    subst e;rw[List.take_length]at An;have pf:aF wr (w.heap.size+1+1) 31 #[.int .i64 0,.int .i64 0]:=uW.o.box ((aa.of (O:=[]) HK.o).box B3.o (by simp)) (by have:=HK.o.size;simp;omega);have p0:=pf.cell 0 rfl;have p1:=pf.cell 1 rfl;have p2:=pf.aN 0;have p3:=pf.aN 1;have q0:=An.o.cell 0 rfl;have q1:=An.o.cell 1 rfl;go_wp2
    obtain⟨WF,jW⟩:=ex1 ((wr.setCell ⟨w.heap.size+1+1,0,none⟩ (.int .i64 (ej m N t0 l))).setCell ⟨w.heap.size+1+1,1,none⟩ (.int .i64 (ep m N t0 l)));have jX:aF WF (w.heap.size+1+1) 31 #[.int .i64 (ej m N t0 l),.int .i64 (ep m N t0 l)]:=by rw[<-jW];exact(pf.set 0 _).set 1 _
    have nA:aa [w.heap.size+1+1] wr WF:=by rw[<-jW];exact(aa.set wr (by simp) _).trans' (aa.set _ (by simp) _)
    have pT:Below w.heap.size w WF:=ND.o.trans ((uW.o.below (by have:=HK.o.size;simp;omega) ND.o.size).trans (nA.below (by simp;omega) (by have:=uW.o.size;have:=ND.o.size;omega)));have u0:=jX.cell 0 rfl;have u1:=jX.cell 1 rfl;rw[jW];refine bodyPost_ret (v:=.agg #[.int .i64 (jY N (t0::l) m),.int .i64 (gV N (t0::l) m)]) ?_ rfl ⟨rfl,pT⟩;rw[fK rfl];go_simp;exact⟨rfl,rfl⟩
theorem pU (w:World) (a b:Int):(Instr.field 31 (.agg #[.int .i64 a,.int .i64 b]) 1).run ZP w=.ok (.int .i64 b) w:=by
 have u:ZP.underlying 31=_:=(Tz.under 31).trans Tryz.underlying31;have a3:=Tryz.isAgg3;have z3:=Tryz.sizeOf3;simp[Instr.field,run_underlying u,asAgg,part,go_sem,a3,z3]
theorem Fi (w:World) (a b:Int):(Instr.field 31 (.agg #[.int .i64 a,.int .i64 b]) 0).run ZP w=.ok (.int .i64 a) w:=by
 have u:ZP.underlying 31=_:=(Tz.under 31).trans Tryz.underlying31;have a3:=Tryz.isAgg3;have z3:=Tryz.sizeOf3;simp[Instr.field,run_underlying u,asAgg,part,go_sem,a3,z3]
def UY (s:Nat) (w:World) (L:List (Nat->Int)) (e:Ending) (w':World):Prop:=(∃v,e=.returned v/\bC s w' v L/\jV w v)/\Below w.heap.size w w'
noncomputable def et (b:av) (L:List (Nat->Int)) (k:Nat):List (Nat->Int):=((aG b).take k).filter fun m=>decide (gV b.places.toNat L m<=b.an)
theorem Ce (hx:(aG b)[k]?=some m) (h:gV b.places.toNat L m<=b.an):et b L (k+1)=et b L k++[m]:=by
 unfold et;rw[List.take_add_one,hx,List.filter_append];simp[h]
theorem Fj (hx:(aG b)[k]?=some m) (h:¬gV b.places.toNat L m<=b.an):et b L (k+1)=et b L k:=by
 unfold et;rw[List.take_add_one,hx,List.filter_append];simp[h]
theorem Cf (b:av) (L:List (Nat->Int)) (k:Nat):(et b L k).length<=k:=by
 unfold et;exact Nat.le_trans (List.length_filter_le _ _) (by simp;omega)
theorem zT (w:World) (b:av) (v2 v3 v4 v5:Value) (L:List (Nat->Int)) (hb:aD w (.agg #[.int .i64 b.an,.int .i64 b.places,v2,v3,v4]) b) (hv:Valid b) (hL:bC 5 w v5 L) (br:L≠ []) (ht:∀t∈L,∀i,0<=t i/\t i<=20):
 Calls ZP 57 #[Cc b v2 v3 v4 v5] w (UY 4 w (au b L)):=by
 have HB:=hid hb;have HV:Hid (Valid b):=hv;have HL:=hid hL;have HT:Hid (L≠ []/\∀t∈L,∀i,0<=t i/\t i<=20):=⟨br,ht⟩
 obtain⟨i0,hi,qW,mL,pG⟩:=info_parts IG;obtain⟨A1,bB⟩:=ex1 (w.alloc (.cells #[.int .i64 b.an,.int .i64 b.places,v2,v3,v4,v5] 86));have eS:=snew bB;have B1:=bnew bB;have HW:=wnew bB;have z0:=B1.o.cell 0 rfl;have z1:=B1.o.cell 1 rfl;have z2:=B1.o.cell 2 rfl;have z3:=B1.o.cell 3 rfl;have z4:=B1.o.cell 4 rfl;clear hb hv hL br ht;go_enter ZF57,Tryz.ntmps57
 go_wp2_with fail
 refine(xj A1 _ b (HB.o.later (Kp.of HW.o)) HV.o).mono ?_;rintro e w1 ⟨⟨v8,rfl,hv8⟩,bN⟩;have HM:Hid (bC 4 w1 v8 (aG b)):=bC.ew Dy IP hv8;have dF:=hid bN;have F8:=HW.t bN;clear hv8 bN z0 z1 z2 z3 z4;obtain⟨a8,c8,hs8,he8⟩:=HM.o;have HE:Hid (cn w1 v8 (aG b).length a8 c8/\_):=⟨hs8,he8⟩
 obtain⟨rfl,hle,jF,_,_⟩:=hs8;unfold maxLen at jF;have JT:=eN HV.o;obtain⟨nn,Xb⟩:=ex1 ((aG b).length);have sG:=hid Xb;rw[Xb]at JT hle⊢;clear he8 Xb jF;go_wp2_with fail
 go_loopw [10,3] (fun i v wr=>∃k:Nat,k<=nn/\i=.int .i64 k/\Hid (wr.ownsRow w1.heap.size 91 4 v (et b L k).length ((et b L k).flatMap fun m=>(bD m).toList))/\Hid (Below w1.heap.size w1 wr)) (fun i _ _=>nn-(intOf i).toNat)
 case atStart=>exact⟨0,Nat.zero_le _,rfl,World.ownsRow_nil _ _ _ _,Below.refl _ _⟩
 case round=>
  obtain⟨k,hk,rfl,hO,hB⟩:=hrel;by_cases aA:k<nn
  .obtain⟨⟨blk,off,sp⟩,m,rfl,hx,pa⟩:=HE.o.1.elem HE.o.2 (k:=k) (by rw[sG.o];exact aA);obtain rfl:sp=none:=(pa 0 (by omega)).1;have be:∀r,r<4->wr.cell? ⟨blk,off+(k*4+r),none⟩=some (.int .i64 (m r)):=fun r hr=>((pa r hr).later (Kp.of hB.o)).2;have r0:=be 0 (by omega);have r1:=be 1 (by omega);have r2:=be 2 (by omega);have r3:=be 3 (by omega);simp only[Nat.add_zero,<-Nat.add_assoc]at r0 r1 r2 r3;have HX:=hid hx;have ka:(k:Int)<(nn:Int):=by omega
   have Cb:Hid (k<nn):=aA;have IJ:=F8.t hB.o;obtain⟨wt,Ao⟩:=ex1 (wr.alloc (.cells (bD m) 91));have cq:=snew Ao;have RI:Hid (Below wr.heap.size wr wt):=by rw[<-Ao];exact(Below.refl _ _).alloc (Nat.le_refl _) _
   have BS:Hid (aF wt w.heap.size 86 #[.int .i64 b.an,.int .i64 b.places,v2,v3,v4,v5]):=
    ((B1.o.below dF.o B1.o.lt).below (hB.o.trans (RI.o.mono hB.o.size)) ((B1.o.below dF.o B1.o.lt).lt))
   have BM:=bnew Ao;obtain⟨s0,s1,s2,s3,s4,s5⟩:=BS.o.a6;obtain⟨m0,m1,m2,m3⟩:=BM.o.a4
   have kC:∀X:am wt,Calls ZP 65 #[Cc b v2 v3 v4 v5,.agg (bD m)] X.1 (fun e iU=>e=.returned (.agg #[.int .i64 (jY b.places.toNat L m),.int .i64 (gV b.places.toNat L m)])/\∃Y:am wt,iU=Y.1):=fun X=>
    (jZ X.1 v2 v3 v4 v5 b b.places.toNat (by have:=HV.o.places;omega) (by have:=HV.o.places;omega) L (((HL.o.later (Kp.of IJ.o)).later (Kp.of RI.o)).later X.kp) HT.o.1 m (qA HV.o m (List.mem_of_getElem? HX.o)) HT.o.2).mono fun e w' h=>⟨h.1,X.on h.2⟩
   obtain⟨lo,nL⟩:=ex1 (jY b.places.toNat L m);obtain⟨m9,xQ⟩:∃x,gV b.places.toNat L m=x:=⟨_,rfl⟩
   have UZ:=hid xQ;rw[nL,xQ]at kC;simp only[bD]at kC Ao;have RG:=Cf b L k;clear be pa hx nL xQ aA;by_cases hsf:m9<=b.an
   .go_wp2_with fail
    refine aq (by kernel_rfl) (by kernel_rfl) ?_;go_big_quiet_step (fail)
    go_big_quiet_step (fail)
    go_big_quiet_step (first|(go_at_call 65;exact kC _))
    have Qd:=fun w=>pU w lo m9;repeat(go_big_quiet_step (first|(go_at_call 65;exact kC _)))
    refine wpQuiet_nil ?_;rintro _ ⟨X,rfl⟩;obtain⟨W,hW⟩:=ex1 (X.1);have HXt:Hid (Below wt.heap.size wt W):=by rw[<-hW];exact X.2
    have NF:=RI.t HXt.o;have JX:Hid (W.ownsRow w1.heap.size 91 4 u3 (et b L k).length ((et b L k).flatMap fun m=>(bD m).toList)):=bA hO.o fun j hj=>NF.o.block j (aE hO.o j hj).2;have n0:=m0 X;have n1:=m1 X;have n2:=m2 X;have n3:=m3 X;have cM:=NF.o.size;have zhE:=hB.o.size;rw[hW]at n0 n1 n2 n3⊢;clear s0 s1 s2 s3 s4 s5 m0 m1 m2 m3 kC Qd hW X Ao;have zhF:∀x:Nat->Int,(bD x).toList.length=4:=fun _=>rfl
    go_wp2_with(at_builtin
                refine wpList_append_own _ rfl (.tmp 23) (.tmp 25) 82 rfl w1.heap.size 91 i0 (.agg #[.int .i64 0,.int .i64 0,.int .i64 0,.int .i64 0]) 4 32 Du hi qW mL pG rfl (by decide) _ _ _ rfl (JX.o.alloc _) ⟨W.heap.size,0,none⟩ 1 1 (bD m).toList rfl rfl (Dv (aF.new W 91 (bD m))) (Dw m) (by unfold maxLen;omega) (by omega) (by simp;omega) ?_;intro v' w2 eu fy _)
    have uM:Hid (w2.ownsRow w1.heap.size 91 4 v' (et b L (k+1)).length ((et b L (k+1)).flatMap fun m=>(bD m).toList)):=(by
     rw[Ce HX.o (by rw[UZ.o];exact hsf),List.length_append,List.flatMap_append];have h2:=eu;simp only[List.flatMap_cons,List.flatMap_nil,List.append_nil,List.length_cons,List.length_nil];exact h2)
    have jT:Hid (Below w1.heap.size w1 w2):=Below.grown (Below.alloc (hB.o.trans (NF.o.mono hB.o.size)) (by omega) _) fy (by simp;omega) (oJ JX.o);clear eu fy;have ua:=Cb.o;go_round
    case rel=>exact⟨k+1,by omega,by go_num,uM,jT⟩
    case measure=>simp[intOf];omega
   .go_wp2_with fail
    refine aq (by kernel_rfl) (by kernel_rfl) ?_;have Qd:=fun w=>pU w lo m9;repeat(go_big_quiet_step (first|(go_at_call 65;exact kC _)))
    refine wpQuiet_nil ?_;rintro _ ⟨X,rfl⟩;obtain⟨W,hW⟩:=ex1 (X.1);have HXt:Hid (Below wt.heap.size wt W):=by rw[<-hW];exact X.2
    have NF:=RI.t HXt.o
    have JX:Hid (W.ownsRow w1.heap.size 91 4 u3 (et b L (k+1)).length ((et b L (k+1)).flatMap fun m=>(bD m).toList)):=by
     rw[Fj HX.o (by rw[UZ.o];omega)];exact bA hO.o fun j hj=>NF.o.block j (aE hO.o j hj).2
    have jT:=hB.t NF.o;rw[hW];clear s0 s1 s2 s3 s4 s5 m0 m1 m2 m3 kC Qd hW X Ao;have ua:=Cb.o;go_wp2
    go_round
    case rel=>exact⟨k+1,by omega,by go_num,JX,jT⟩
    case measure=>simp[intOf];omega
  .have e:k=nn:=by omega
   have uM:Hid (bC 4 wr u3 (au b L)):=by
    have:et b L k=au b L:=by unfold et au;rw[e,<-sG.o,List.take_length]
    rw[this]at hO;exact bC.ew Dy IP hO.o
   have LV:Hid (jV w u3):=jV.of hO.o F8.o.size;have IJ:=F8.t hB.o;go_wp2
   go_ret;exact⟨⟨_,rfl,uM.o,LV.o⟩,IJ.o⟩
abbrev kF (w:World) (v:Value) (ag:(Nat->Int)->Bool):Prop:=∀X t,Below w.heap.size w X->Calls ZP 114 #[v,.agg (tick t)] X (dd X (.bool (ag t)))
theorem aD.gm (h:aD w v b):∃a2 c2 a3 c3 a4 c4,v=.agg #[.int .i64 b.an,.int .i64 b.places,.slice a2 b.parts.length c2,.slice a3 b.apart.length c3,.slice a4 b.ac.length c4]:=by
 obtain⟨v2,v3,v4,rfl,⟨a2,c2,⟨rfl,_,_,_,_⟩,_⟩,⟨a3,c3,⟨rfl,_,_,_,_⟩,_⟩,⟨a4,c4,⟨rfl,_,_,_,_⟩,_⟩⟩:=h;exact⟨a2,c2,a3,c3,a4,c4,rfl⟩
theorem fL {fn:Func} {p u u':Tmp} {ty:TypeId} (h:fn.results=#[.cell p ty,.tmp u,.tmp u']) (tmps:Array Value) (P:Program) (w:World):
 (results fn tmps).run P w=
   ((asAddr (tmps.getD p undef)).run P w).andThen fun a w₁=>((loadVar ty a).run P w₁).andThen fun v w₂=>.ok (.tuple #[v,tmps.getD u undef,tmps.getD u' undef]) w₂:=by
 simp only[results,h];simp[Sem.run_bind,Result.andThen]
theorem aF.same {t:TypeId} {cs:Array Value} {i:Nat} (h:aF w g t cs) (hv:cs[i]?=some v):w.setCell ⟨g,i,none⟩ v=w:=by
 have e:(w.setCell ⟨g,i,none⟩ v).heap=w.heap:=by
  refine Array.ext_getElem? fun k=>?_;by_cases hk:k=g
  .subst hk;have h1:_=_:=h.set i v
   have h2:cs.setIfInBounds i v=cs:=by
    refine Array.ext_getElem? fun j=>?_;by_cases hj:i=j
    .subst hj;obtain⟨aA,hx⟩:=Array.getElem?_eq_some_iff.1 hv;rw[Array.getElem?_setIfInBounds_self_of_lt aA,hv]
    .rw[Array.getElem?_setIfInBounds_ne hj]
   rw[h2]at h1;exact h1.trans h.symm
  .exact Below.heap_setCell _ _ _ _ hk
 show({w with heap:=(w.setCell ⟨g,i,none⟩ v).heap}:World)=w;rw[e]
def U0 (w:World) (b:av) (v2 v3 v4:Value) (L:List (Nat->Int)) (e:Ending) (w':World):Prop:=
 ((L=[]/\e=.returned (.tuple #[uT,.slice none 0 0,.int .i64 9]))\/(L≠ []/\au b L=[]/\e=.returned (.tuple #[uT,.slice none 0 0,.int .i64 8]))\/
  (L≠ []/\au b L≠ []/\∃a c vs,e=.returned (.tuple #[Cc b v2 v3 v4 (.slice a L.length c),vs,.int .i64 0])/\bC 5 w' (.slice a L.length c) L/\bC 4 w' vs (au b L)/\jV w (.slice a L.length c)/\jV w vs))/\Below w.heap.size w w'
theorem jn (w:World) (v:Value) (b:av) (ag:(Nat->Int)->Bool) (a2:Option Addr) (c2:Nat) (v3 v4:Value) (Fh:v=.agg #[.int .i64 b.an,.int .i64 b.places,.slice a2 b.parts.length c2,v3,v4]) (hb:aD w v b) (hv:Valid b) (hc:kD w) (iK:kF w v ag):
 Calls ZP 51 #[v] w (U0 w b (.slice a2 b.parts.length c2) v3 v4 (aC b ag)):=by
 subst Fh;have HB:=hid hb;have HV:Hid (Valid b):=hv;have HC:Hid (kD w):=hc;obtain⟨a2',c2',a3,c3,a4,c4,FV⟩:=hb.gm;simp only[Value.agg.injEq,Array.mk.injEq,List.cons.injEq,true_and,and_true]at FV;obtain⟨_,rfl,rfl⟩:=FV;have uU:=hid iK;obtain⟨A1,bB⟩:=ex1 (w.alloc (.cells #[.int .i64 b.an,.int .i64 b.places,.slice a2 b.parts.length c2,.slice a3 b.apart.length c3,.slice a4 b.ac.length c4] 26));obtain⟨A2,cu⟩:=ex1 (A1.alloc (.cells #[.int .i64 0,.int .i64 0,.slice none 0 0,.slice none 0 0,.slice none 0 0,.slice none 0 0] 86));have eS:=snew bB;have kM:=snew2 cu eS;have B1:=bnewk bB cu;have XK:=bnew2 cu eS;have HW:=wnew2 bB cu;have z0:=B1.o.cell 0 rfl;have z1:=B1.o.cell 1 rfl;have z2:=B1.o.cell 2 rfl;have z3:=B1.o.cell 3 rfl;have z4:=B1.o.cell 4 rfl;clear hb hv hc iK;go_enter ZF51,Tryz.ntmps51
 go_wp2_with fail
 refine(IQ A2 b _ a2 c2 _ _ ag rfl (HB.o.later (Kp.of HW.o)) HV.o (HC.o.later HW.o) (fun X t hX=>uU.o X t (HW.o.trans (hX.mono HW.o.size)))).mono ?_;rintro e w1 ⟨xK,bN⟩;have dF:=HW.t bN;have HR1:=hidb XK bN;have JT:=eN HV.o;have zhG:w.heap.size+1<w1.heap.size:=HR1.o.lt;clear bN z0 z1 z2 z3 z4 bB cu;rcases xK with⟨hL,rfl⟩|⟨hL,a,c,rfl,sH,fT⟩
 .have HL:=hid hL;clear hL;obtain⟨W,hW⟩:=ex1 (w1.alloc (.cells #[.int .i64 0,.int .i64 0,.slice none 0 0,.slice none 0 0,.slice none 0 0,.slice none 0 0] 86));have xR:=knew hW;have dS:=(bnew hW).o;have j0:=xR.box HR1.o (by simp);have t0:=j0.cell 0 rfl;have t1:=j0.cell 1 rfl;have t2:=j0.cell 2 rfl;have t3:=j0.cell 3 rfl;have t4:=j0.cell 4 rfl;have t5:=j0.cell 5 rfl;have f0:=j0.aN 0;have f1:=j0.aN 1;have f2:=j0.aN 2;have f3:=j0.aN 3;have f4:=j0.aN 4;have f5:=j0.aN 5;have s0:=dS.cell 0 rfl;have s1:=dS.cell 1 rfl;have s2:=dS.cell 2 rfl;have s3:=dS.cell 3 rfl;have s4:=dS.cell 4 rfl;have s5:=dS.cell 5 rfl;have g0:=dS.aN 0;have g1:=dS.aN 1;have g2:=dS.aN 2;have g3:=dS.aN 3;have g4:=dS.aN 4;have g5:=dS.aN 5;have e0:=dS.same (i:=0) (v:=.int .i64 0) rfl;have e1:=dS.same (i:=1) (v:=.int .i64 0) rfl;have e2:=dS.same (i:=2) (v:=.slice none 0 0) rfl;have e3:=dS.same (i:=3) (v:=.slice none 0 0) rfl;have e4:=dS.same (i:=4) (v:=.slice none 0 0) rfl;have e5:=dS.same (i:=5) (v:=.slice none 0 0) rfl;have d0:=j0.same (i:=0) (v:=.int .i64 0) rfl;have d1:=j0.same (i:=1) (v:=.int .i64 0) rfl;have d2:=j0.same (i:=2) (v:=.slice none 0 0) rfl;have d3:=j0.same (i:=3) (v:=.slice none 0 0) rfl;have d4:=j0.same (i:=4) (v:=.slice none 0 0) rfl;have d5:=j0.same (i:=5) (v:=.slice none 0 0) rfl;go_wp2
  refine bodyPost_ret (v:=.tuple #[uT,.slice none 0 0,.int .i64 9]) ?_ rfl ⟨.inl ⟨HL.o,rfl⟩,dF.o.trans (xR.below (by simp) dF.o.size)⟩;rw[fL rfl];go_simp
 .obtain⟨W,hW⟩:=ex1 (w1.alloc (.cells #[.int .i64 b.an,.int .i64 b.places,.slice a2 b.parts.length c2,.slice a3 b.apart.length c3,.slice a4 b.ac.length c4,.slice a (aC b ag).length c] 86));have B2:=bnew hW;have xR:=knew hW;have tR:Hid (Below w1.heap.size w1 W):=xR.below (by simp) (Nat.le_refl _);have jT:=dF.t tR.o;have j0:=xR.box HR1.o (by simp);have hC:=zT W b _ _ _ _ (aC b ag) (HB.o.later (Kp.of jT.o)) HV.o (sH.later (Kp.of tR.o)) hL (mz HV.o ag);have RJ:Hid (bC 5 W (.slice a (aC b ag).length c) (aC b ag)):=sH.later (Kp.of tR.o);have z0:=B2.o.cell 0 rfl;have z1:=B2.o.cell 1 rfl;have z2:=B2.o.cell 2 rfl;have z3:=B2.o.cell 3 rfl;have z4:=B2.o.cell 4 rfl;have z5:=B2.o.cell 5 rfl;have HL:=hid hL;have LV:=hid fT;clear hL sH fT;go_wp2_with fail
  refine hC.mono ?_;rintro e w2 ⟨⟨vs,rfl,oZ,Lt⟩,iA⟩;obtain⟨sa,sc,rfl,_,_⟩:=oZ.slice;have pr:(au b (aC b ag)).length<=(aG b).length:=List.length_filter_le _ _;have jm:=jT.t iA;have LY:=hid oZ;have zbl:Hid (bC 5 w2 (.slice a (aC b ag).length c) (aC b ag)):=RJ.o.later (Kp.of iA);have mP:aF w2 (w.heap.size+1) 86 #[.int .i64 0,.int .i64 0,.slice none 0 0,.slice none 0 0,.slice none 0 0,.slice none 0 0]:=j0.below iA j0.lt;have zU:=hidb B2 iA;have zbm:=hid Lt;have HsW:Hid (A2.heap.size<=W.heap.size):=(Nat.le_trans (by rw[kM];omega) xR.size:A2.heap.size<=W.heap.size)
  clear iA oZ hC z0 z1 z2 z3 z4 z5 hW j0 Lt;by_cases h0:au b (aC b ag)=[]
  .have HS:=hid h0;rw[h0];simp only[List.length_nil];have j0:=mP;have t0:=j0.cell 0 rfl;have t1:=j0.cell 1 rfl;have t2:=j0.cell 2 rfl;have t3:=j0.cell 3 rfl;have t4:=j0.cell 4 rfl;have t5:=j0.cell 5 rfl;have f0:=j0.aN 0;have f1:=j0.aN 1;have f2:=j0.aN 2;have f3:=j0.aN 3;have f4:=j0.aN 4;have f5:=j0.aN 5;have d0:=j0.same (i:=0) (v:=.int .i64 0) rfl;have d1:=j0.same (i:=1) (v:=.int .i64 0) rfl;have d2:=j0.same (i:=2) (v:=.slice none 0 0) rfl;have d3:=j0.same (i:=3) (v:=.slice none 0 0) rfl;have d4:=j0.same (i:=4) (v:=.slice none 0 0) rfl;have d5:=j0.same (i:=5) (v:=.slice none 0 0) rfl;go_wp2
   refine bodyPost_ret (v:=.tuple #[uT,.slice none 0 0,.int .i64 8]) ?_ rfl ⟨.inr (.inl ⟨HL.o,HS.o,rfl⟩),jm.o⟩;rw[fL rfl];go_simp
  .have HS:=hid h0;have fR:0<(au b (aC b ag)).length:=List.length_pos_iff.2 h0;obtain⟨ln,RG⟩:=ex1 ((au b (aC b ag)).length);have kZ:=hid RG;rw[RG]at fR pr⊢;have uk:¬((ln:Int)=0):=by omega
   have yr:((ln:Int)==0)=false:=by simp;omega
   have zbn:Hid (aF w2 (w.heap.size+1) 86 #[.int .i64 0,.int .i64 0,.slice none 0 0,.slice none 0 0,.slice none 0 0,.slice none 0 0]):=mP;have zhI:w1.heap.size<w2.heap.size:=zU.o.lt;have t0:=mP.cell 0 rfl;have t1:=mP.cell 1 rfl;have t2:=mP.cell 2 rfl;have t3:=mP.cell 3 rfl;have t4:=mP.cell 4 rfl;have t5:=mP.cell 5 rfl;have f0:=mP.aN 0;have f1:=mP.aN 1;have f2:=mP.aN 2;have f3:=mP.aN 3;have f4:=mP.aN 4;have f5:=mP.aN 5;have s0:=zU.o.cell 0 rfl;have s1:=zU.o.cell 1 rfl;have s2:=zU.o.cell 2 rfl;have s3:=zU.o.cell 3 rfl;have s4:=zU.o.cell 4 rfl;have s5:=zU.o.cell 5 rfl;clear mP h0 RG;go_wp2
   obtain⟨WF,jW⟩:∃W,((((((w2.setCell ⟨w.heap.size+1,0,none⟩ (.int .i64 b.an)).setCell ⟨w.heap.size+1,1,none⟩ (.int .i64 b.places)).setCell ⟨w.heap.size+1,2,none⟩ (.slice a2 b.parts.length c2)).setCell
    ⟨w.heap.size+1,3,none⟩ (.slice a3 b.apart.length c3)).setCell ⟨w.heap.size+1,4,none⟩ (.slice a4 b.ac.length c4)).setCell ⟨w.heap.size+1,5,none⟩ (.slice a (aC b ag).length c))=W:=⟨_,rfl⟩
   obtain⟨jX,nA⟩:=Qc (.int .i64 b.an) (.int .i64 b.places) (.slice a2 b.parts.length c2) (.slice a3 b.apart.length c3) (.slice a4 b.ac.length c4) (.slice a (aC b ag).length c) zbn.out;rw[jW]at jX nA⊢;have pT:Below w.heap.size w WF:=jm.o.trans (nA.below (by simp) jm.o.size);have q0:=jX.cell 0 rfl;have q1:=jX.cell 1 rfl;have q2:=jX.cell 2 rfl;have q3:=jX.cell 3 rfl;have q4:=jX.cell 4 rfl;have q5:=jX.cell 5 rfl;have hsW:=HsW.o;have pR:=LV.o;have hfb:=zbm.o;have Fk:=zbl.o;have hvb:=LY.o;rw[kZ.o]at hfb hvb
   refine bodyPost_ret (v:=.tuple #[Cc b (.slice a2 b.parts.length c2) (.slice a3 b.apart.length c3) (.slice a4 b.ac.length c4) (.slice a (aC b ag).length c),.slice sa ln sc,.int .i64 0]) ?_ rfl
    ⟨.inr (.inr ⟨HL.o,HS.o,a,c,_,rfl,?_,?_,pR.le (by omega),hfb.le (by omega)⟩),pT⟩
   .rw[fL rfl];go_simp
   .exact Fk.on fun k hk aA=>by
     have h1:=pR k hk;exact nA.block k aA (by simp;omega)
   .exact hvb.on fun k hk aA=>by
     have h1:=hfb k hk;exact nA.block k aA (by simp;omega)
def missing (N:Nat) (k:Int) (m:Nat->Int):Prop:=∀j,j<N->m j≠k
def aR (N:Nat) (m:Nat->Int):List Int:=(List.range N).map m
theorem nB {k:Int}:k∈aR N m↔¬missing N k m:=by
 unfold aR missing;constructor
 .intro h hm;obtain⟨j,hj,e⟩:=List.mem_map.1 h;exact hm j (List.mem_range.1 hj) e
 .intro h;refine Classical.byContradiction fun h2=>h fun j hj e=>h2 (List.mem_map.2 ⟨j,List.mem_range.2 hj,e⟩)
theorem lU (hN:N<=4) (h:aF w g 91 (bD m)):az w (.slice (some ⟨g,0,none⟩) N 4) (aR N m):=by
 have hl:(aR N m).length=N:=by simp[aR]
 refine⟨_,4,⟨by rw[hl],by rw[hl];exact hN,by unfold maxLen;omega,(fun h=>by cases h),fun b e=>.inr ⟨bD m,91,(0,0),by cases e;exact h⟩⟩,fun b e j x hj=>?_⟩;cases e;have nj:j<N:=by have:=(List.getElem?_eq_some_iff.1 hj).1;rwa [hl]at this
 have hx:x=m j:=by
  unfold aR at hj;rw[List.getElem?_map,List.getElem?_range nj]at hj;simpa using hj.symm
 subst hx;refine⟨rfl,?_⟩;show w.cell? ⟨g,0+j,none⟩=_;rw[Nat.zero_add];exact h.cell j (gA (by omega) m)
theorem Fl (w:World) (gx gk:Nat) (b:av) (v2 v3 v4 v5:Value) (N:Nat) (hN:b.places=N) (lT:N<=4) (k:Int) (m:Nat->Int) (hx:aF w gx 86 #[.int .i64 b.an,.int .i64 b.places,v2,v3,v4,v5]) (hk:aF w gk 3 #[.int .i64 k]):
 Calls ZP 53 #[.agg (bD m),ptr gx,ptr gk] w (cW w fun r=>Tr r (missing N k m)):=by
 obtain⟨A1,bB⟩:=ex1 (w.alloc (.cells (bD m) 91));have j8:=knew bB;have B1:=(bnew bB).o;have BX:=j8.box hx (by simp);have BK:=j8.box hk (by simp);have HW:Hid (Below w.heap.size w A1):=j8.below (by simp) (Nat.le_refl _);have z1:∀X:am A1,X.1.cell? ⟨gx,1,none⟩=some (.int .i64 N):=fun X=>X.cell (by rw[<-hN];exact BX.cell 1 rfl);have zk:=BK.a1;by_cases hm:k∈aR N m
 .have kC:∀X:am A1,Calls ZP 54 #[.slice (some ⟨w.heap.size,0,none⟩) N 4,.int .i64 k] X.1 (fun e iU=>e=.returned (.bool true)/\∃Y:am A1,iU=Y.1):=fun X=>
   (ii X.1 _ _ k (lU lT (B1.below X.2 B1.lt))).mono fun e w' ⟨r,h1,h2,h3⟩=>⟨by cases r with
     |true=>exact h1
     |false=>exact absurd hm h2.f,X.same h3⟩
  have HM:Hid (¬missing N k m):=nB.1 hm;have zbp:(N:Int)<=4:=by omega
  simp only[bD]at bB⊢;clear hx hk hm B1 BX BK j8;go_enter ZF53,Tryz.ntmps53
  go_wp2_with fail
  refine aq (by kernel_rfl) (by kernel_rfl) ?_;repeat(go_big_quiet_step (first|(go_at_call 54;exact kC _)))
  refine wpQuiet_nil ?_;rintro _ ⟨X,rfl⟩;have HX:=HW.t X.2;clear z1 zk kC;go_wp2
  go_ret;exact cW.mk (.no HM.o) HX.o
 .have kC:∀X:am A1,Calls ZP 54 #[.slice (some ⟨w.heap.size,0,none⟩) N 4,.int .i64 k] X.1 (fun e iU=>e=.returned (.bool false)/\∃Y:am A1,iU=Y.1):=fun X=>
   (ii X.1 _ _ k (lU lT (B1.below X.2 B1.lt))).mono fun e w' ⟨r,h1,h2,h3⟩=>⟨by cases r with
     |true=>exact absurd h2.t hm
     |false=>exact h1,X.same h3⟩
  have HM:Hid (missing N k m):=Classical.byContradiction fun h=>hm (nB.2 h);have zbp:(N:Int)<=4:=by omega
  simp only[bD]at bB⊢;clear hx hk hm B1 BX BK j8;go_enter ZF53,Tryz.ntmps53
  go_wp2_with fail
  refine aq (by kernel_rfl) (by kernel_rfl) ?_;repeat(go_big_quiet_step (first|(go_at_call 54;exact kC _)))
  refine wpQuiet_nil ?_;rintro _ ⟨X,rfl⟩;have HX:=HW.t X.2;clear z1 zk kC;go_wp2
  go_ret;exact cW.mk (.yes HM.o) HX.o
theorem uX {w':World} {blk off s:Nat} (h:∀r,r<s->At w ⟨blk,off,none⟩ (k*s+r) (.int .i64 (t r))) (hk:Kp w w'):∀r,r<s->w'.cell? ⟨blk,off+k*s+r,none⟩=some (.int .i64 (t r)):=fun r hr=>by
 have:=((h r hr).later hk).2;rwa [<-Nat.add_assoc]at this
def jx (N:Nat) (p:Int) (S:List (Nat->Int)) (k:Nat):Prop:=∀j m,j<k->S[j]?=some m->¬missing N p m
theorem jx.zero (N:Nat) (p:Int) (S:List (Nat->Int)):jx N p S 0:=fun j m h=>by omega
theorem jx.succ (h:jx N p S k) (hm:S[k]?=some m) (hn:¬missing N p m):jx N p S (k+1):=fun j y hj hy=>by
 by_cases e:j=k
 .subst e;rw[hm]at hy;cases hy;exact hn
 .exact h j y (by omega) hy
theorem jx.all (h:jx N p S S.length):¬∃m∈S,missing N p m:=fun⟨m,hm,h2⟩=>by
 obtain⟨j,hj,rfl⟩:=List.getElem_of_mem hm;exact h j _ hj (List.getElem?_eq_getElem hj) h2
theorem zV (w:World) (v:Value) (S:List (Nat->Int)) (h:bC 4 w v S) (gx gk:Nat) (b:av) (v2 v3 v4 v5:Value) (N:Nat) (hN:b.places=N) (lT:N<=4) (p:Int) (hx:aF w gx 86 #[.int .i64 b.an,.int .i64 b.places,v2,v3,v4,v5]) (hk:aF w gk 3 #[.int .i64 p]):
 Calls ZP 94 #[v,.func (.func 53) #[] #[ptr gx,ptr gk]] w (ci w fun r=>0<=r↔∃m∈S,missing N p m):=by
 obtain⟨a,c,h1,h2⟩:=h;have H:Hid (cn w v S.length a c/\_):=⟨h1,h2⟩
 have HX:=hid hx;have HK:=hid hk;obtain⟨rfl,l1,m1,n1,r1⟩:=h1;unfold maxLen at m1;clear h2 n1 r1 hx hk;go_enter ZF94,Tryz.ntmps94
 go_wp2
 go_loopw [8,5] (fun i j w1=>∃k:Nat,k<=S.length/\i=.int .i64 k/\Hid (jx N p S k)/\Hid (Below w.heap.size w w1)) (fun i _ _=>S.length-(intOf i).toNat)
 case atStart=>exact⟨0,Nat.zero_le _,rfl,jx.zero _ _ _,Below.refl _ _⟩
 case round=>
  obtain⟨k,hk,rfl,U1,hB⟩:=hrel;by_cases aA:k<S.length
  .obtain⟨⟨blk,off,sp⟩,m,rfl,hm,x0⟩:=H.o.1.elem H.o.2 aA;obtain rfl:sp=none:=(x0 0 (by omega)).1;have be:=uX x0 (Kp.of hB.o);have y0:=be 0 (by omega);have y1:=be 1 (by omega);have y2:=be 2 (by omega);have y3:=be 3 (by omega);simp only[Nat.add_zero]at y0;have HM:=hid hm;have ka:(k:Int)<(S.length:Int):=by omega
   have hC:=Fl wr gx gk b v2 v3 v4 v5 N hN lT p m (HX.o.below hB.o HX.o.lt) (HK.o.below hB.o HK.o.lt);simp only[bD]at hC;clear be x0 hm
   go_wp2_with
    (go_at_call 53
     refine hC.mono ?_;rintro e w1 ⟨⟨r,rfl,hr⟩,bN⟩;have dF:=hB.t bN;clear bN hC;cases r)
   .have HN:Hid (jx N p S (k+1)):=U1.o.succ HM.o hr.f;clear hr;go_round
    case rel=>exact⟨k+1,by omega,by go_num,HN,dF⟩
    case measure=>simp[intOf];omega
   .have uJ:Hid (missing N p m):=hr.t;clear hr;go_ret;exact ci.mk (r:=k) ⟨fun _=>⟨m,List.mem_of_getElem? HM.o,uJ.o⟩,fun _=>by omega⟩ dF.o
  .have e:k=S.length:=by omega
   subst e;go_wp2
   go_ret;exact ci.mk (r:=-1) ⟨fun h=>absurd h (by decide),fun h=>absurd h U1.o.all⟩ hB.o
theorem zW (w:World) (v:Value) (S:List (Nat->Int)) (h:bC 4 w v S) (gx gk:Nat) (b:av) (v2 v3 v4 v5:Value) (N:Nat) (hN:b.places=N) (lT:N<=4) (p:Int) (hx:aF w gx 86 #[.int .i64 b.an,.int .i64 b.places,v2,v3,v4,v5]) (hk:aF w gk 3 #[.int .i64 p]):
 Calls ZP 52 #[v,.func (.func 53) #[] #[ptr gx,ptr gk]] w (cW w fun r=>Tr r (∃m∈S,missing N p m)):=by
 have hC:=zV w v S h gx gk b v2 v3 v4 v5 N hN lT p hx hk;go_enter ZF52,Tryz.ntmps52
 go_wp2_with
  (go_at_call 94
   refine hC.mono ?_;rintro e w1 ⟨⟨r,rfl,hr⟩,bN⟩)
 have HE:=hid hr;have HB:=hid bN;clear hr bN hC;go_wp2
 go_ret;exact cW.mk (show decide (0<=r)=true↔_ from decide_eq_true_iff.trans HE.o) HB.o
open Classical in
noncomputable def cU (N:Nat) (S:List (Nat->Int)):Nat->List Int
 |0=>[]
 |k+1=>cU N S k++(if∃m∈S,missing N k m then []else [(k:Int)])
theorem pV (h:∃m∈S,missing N k m):cU N S (k+1)=cU N S k:=by rw[cU,if_pos h,List.append_nil]
theorem nC (h:¬∃m∈S,missing N k m):cU N S (k+1)=cU N S k++[(k:Int)]:=by rw[cU,if_neg h]
theorem nD (N:Nat) (S:List (Nat->Int)):∀k,(cU N S k).length<=k
 |0=>Nat.le_refl _
 |k+1=>by
  have:=nD N S k;unfold cU;split<;>simp<;>omega
theorem nE {p:Nat}:∀{k:Nat},(p:Int)∈cU N S k↔p<k/\¬∃m∈S,missing N p m
 |0=>by simp[cU]
 |k+1=>by
  by_cases h:∃m∈S,missing N k m
  .rw[pV h,nE];refine⟨fun h1=>⟨by omega,h1.2⟩,fun h1=>⟨?_,h1.2⟩⟩;by_cases e:p=k
   .subst e;exact absurd h h1.2
   .omega
  .rw[nC h,List.mem_append,nE];refine⟨fun h1=>?_,fun h1=>?_⟩
   .rcases h1 with h1|h1
    .exact⟨by omega,h1.2⟩
    .have:p=k:=by simp at h1;omega
     subst this;exact⟨by omega,h⟩
   .by_cases e:p=k
    .subst e;right;simp
    .left;exact⟨by omega,h1.2⟩
def U2 (w:World) (b:av) (L:List (Nat->Int)) (e:Ending) (w':World):Prop:=
 ((L=[]/\e=.returned (.tuple #[.slice none 0 0,.int .i64 9]))\/(L≠ []/\au b L=[]/\e=.returned (.tuple #[.slice none 0 0,.int .i64 8]))\/
  (L≠ []/\au b L≠ []/\∃v,e=.returned (.tuple #[v,.int .i64 0])/\az w' v (cU b.places.toNat (au b L) b.parts.length)))/\Below w.heap.size w w'
theorem Fm (w:World) (v:Value) (b:av) (ag:(Nat->Int)->Bool) (hb:aD w v b) (hv:Valid b) (hc:kD w) (iK:kF w v ag):Calls ZP 17 #[v] w (U2 w b (aC b ag)):=by
 have HB:=hid hb;have HV:Hid (Valid b):=hv;have HC:Hid (kD w):=hc;obtain⟨a2,c2,a3,c3,a4,c4,rfl⟩:=hb.gm;have uU:=hid iK;obtain⟨A1,bB⟩:=ex1 (w.alloc (.cells #[.int .i64 b.an,.int .i64 b.places,.slice a2 b.parts.length c2,.slice a3 b.apart.length c3,.slice a4 b.ac.length c4] 26));have B1:=bnew bB;have HW:=wnew bB;have z0:=B1.o.cell 0 rfl;have z1:=B1.o.cell 1 rfl;have z2:=B1.o.cell 2 rfl;have z3:=B1.o.cell 3 rfl;have z4:=B1.o.cell 4 rfl;obtain⟨i0,hi,qW,mL,pG⟩:=info_parts mM;clear hb hv hc iK;go_enter ZF17,Tryz.ntmps17
 go_wp2_with fail
 refine(jn A1 _ b ag a2 c2 _ _ rfl (HB.o.later (Kp.of HW.o)) HV.o (HC.o.later HW.o) (fun X t hX=>uU.o X t (HW.o.trans (hX.mono HW.o.size)))).mono ?_;rintro e w1 ⟨xK,bN⟩;have dF:=HW.t bN;clear bN z0 z1 z2 z3 z4 bB;rcases xK with⟨hL,rfl⟩|⟨hL,hS,rfl⟩|⟨hL,hS,a,c,vs,rfl,Fk,oZ,pR,JY⟩
 .have HL:=hid hL;clear hL;go_wp2
  go_ret2;exact⟨.inl ⟨HL.o,rfl⟩,dF.o.alloc dF.o.size _⟩
 .have HL:Hid (aC b ag≠ []/\au b (aC b ag)=[]):=⟨hL,hS⟩
  clear hL hS;go_wp2
  go_ret2;exact⟨.inr (.inl ⟨HL.o.1,HL.o.2,rfl⟩),dF.o.alloc dF.o.size _⟩
 .have HL:Hid (aC b ag≠ []/\au b (aC b ag)≠ []):=⟨hL,hS⟩
  obtain⟨A2,cu⟩:=ex1 (w1.alloc (.cells #[.int .i64 b.an,.int .i64 b.places,.slice a2 b.parts.length c2,.slice a3 b.apart.length c3,.slice a4 b.ac.length c4,.slice a (aC b ag).length c] 86));have B2:=bnew cu;have tR:=wnew cu;have jT:=dF.t tR.o;have LY:Hid (bC 4 A2 vs (au b (aC b ag))):=oZ.later (Kp.of tR.o);have z0:=B2.o.cell 0 rfl;have z1:=B2.o.cell 1 rfl;have z2:=B2.o.cell 2 rfl;obtain⟨sa,sc,rfl,_,_⟩:=oZ.slice;have RB:=HV.o.parts.many;clear hL hS Fk oZ pR JY;go_wp2_with fail
  go_loopw [23,7] (fun i v wr=>∃k:Nat,k<=b.parts.length/\i=.int .i64 k/\Hid (wr.ownsRow A2.heap.size 3 1 v (cU b.places.toNat (au b (aC b ag)) k).length ((cU b.places.toNat (au b (aC b ag)) k).map (Value.int .i64)))/\Hid (Below A2.heap.size A2 wr)) (fun i _ _=>b.parts.length-(intOf i).toNat)
  case atStart=>exact⟨0,Nat.zero_le _,rfl,World.ownsRow_nil _ _ _ _,Below.refl _ _⟩
  case round=>
   obtain⟨k,hk,rfl,hO,hB⟩:=hrel;by_cases aA:k<b.parts.length
   .have ka:(k:Int)<(b.parts.length:Int):=by omega
    obtain⟨A3,gM⟩:=ex1 (wr.alloc (.cells #[.int .i64 k] 3));have kc:=knew gM;have B3:=bnew gM;have HA3:Hid (Below wr.heap.size wr A3):=kc.below (by simp) (Nat.le_refl _);have Cd:=hB.t HA3.o;have XB:=HV.o.places;have hC:=zW A3 _ (au b (aC b ag)) (LY.o.later (Kp.of Cd.o)) w1.heap.size wr.heap.size b _ _ _ _ b.places.toNat (by omega) (by omega) k (B2.o.below Cd.o B2.o.lt) B3.o;have RG:=nD b.places.toNat (au b (aC b ag)) k;have cM:=hB.o.size;clear kc
    go_wp2_with(first
     |(go_at_call 52
       refine hC.mono ?_;rintro e w2 ⟨⟨r,rfl,hr⟩,iA⟩;have XM:=HA3.t iA;have x0:=(hidb B3 iA).o.c1;have JX:Hid (w2.ownsRow A2.heap.size 3 1 u7 (cU b.places.toNat (au b (aC b ag)) k).length ((cU b.places.toNat (au b (aC b ag)) k).map (Value.int .i64))):=bA hO.o fun j hj=>XM.o.block j (aE hO.o j hj).2;have HR:=hid hr;have TU:=XM.o.size;clear iA hr hC gM;cases r)
     |(at_builtin;refine wpList_append_own _ rfl (.tmp 30) (.tmp 32) 32 rfl A2.heap.size 3 i0 (.int .i64 0) 1 8 fJ hi qW mL pG rfl (by decide) _ _ _ rfl (JX.o.alloc _) ⟨_,0,none⟩ 1 1 [.int .i64 k] rfl rfl (wW _ _ _) (oI _) (by unfold maxLen;omega) (by omega) (by simp;omega) ?_;intro v' w3 eu fy _))
    .have uM:Hid (w3.ownsRow A2.heap.size 3 1 v' (cU b.places.toNat (au b (aC b ag)) (k+1)).length ((cU b.places.toNat (au b (aC b ag)) (k+1)).map (Value.int .i64))):=(by
      rw[nC HR.o.f,List.length_append,List.map_append];exact eu)
     have jT:Hid (Below A2.heap.size A2 w3):=Below.grown (Below.alloc (hB.o.trans (XM.o.mono hB.o.size)) (by omega) _) fy (by simp;omega) (oJ JX.o);clear eu fy JX HR;go_round
     case rel=>exact⟨k+1,by omega,by go_num,uM,jT⟩
     case measure=>simp[intOf];omega
    .have uM:Hid (w2.ownsRow A2.heap.size 3 1 u7 (cU b.places.toNat (au b (aC b ag)) (k+1)).length ((cU b.places.toNat (au b (aC b ag)) (k+1)).map (Value.int .i64))):=(by
      rw[pV HR.o.t];exact JX.o)
     have jT:=hB.t XM.o;clear JX HR;go_round
     case rel=>exact⟨k+1,by omega,by go_num,uM,jT⟩
     case measure=>simp[intOf];omega
   .have e:k=b.parts.length:=by omega
    subst e;have IJ:=jT.t hB.o;go_wp2
    go_ret2;exact⟨.inr (.inr ⟨HL.o.1,HL.o.2,_,rfl,az.ew hO.o⟩),IJ.o⟩
end Go.Proofs.Cz
