/- A part. Conditions: none. -/
import Derived.Test.YtehbindidbgacaaGreatDoorT31
import Derived.Laws.ResultCell
set_option linter.all false
set_option maxHeartbeats 8000000
set_option maxRecDepth 100000
namespace Go.Proofs.Cz
open Go.RowKit
variable {L l:List (Nat->Int)} {N g k n s:Nat} {b:ap} {m t t0:Nat->Int} {v:Value} {w:World}
theorem AN (w:World) (a b c d e:Value):Calls ZP 54 #[.agg #[a,b,c,d,e]] w (di w (.int .i64 0)):=by
 go_enter ZF54,Tryz.ntmps54
 go_wp2
 go_ret;exact⟨rfl,(ab.alloc [] w _).below (by simp) (zAC _)⟩
abbrev DC (b:ap) (v2 v3 v4 v5:Value):Value:=.agg #[.int .i64 b.ac,.int .i64 b.places,v2,v3,v4,v5]
abbrev qK:Value:=.agg #[.int .i64 0,.int .i64 0,.slice none 0 0,.slice none 0 0,.slice none 0 0,.slice none 0 0]
theorem ym {W:World} {t:Nat} {c0 c1 c2 c3 c4 c5:Value} (v0 v1 v2 v3 v4 v5:Value) (h:aA W g t #[c0,c1,c2,c3,c4,c5]):
 aA ((((((W.setCell ⟨g,0,none⟩ v0).setCell ⟨g,1,none⟩ v1).setCell ⟨g,2,none⟩ v2).setCell ⟨g,3,none⟩ v3).setCell ⟨g,4,none⟩ v4).setCell ⟨g,5,none⟩ v5) g t #[v0,v1,v2,v3,v4,v5]/\
 ab [g] W ((((((W.setCell ⟨g,0,none⟩ v0).setCell ⟨g,1,none⟩ v1).setCell ⟨g,2,none⟩ v2).setCell ⟨g,3,none⟩ v3).setCell ⟨g,4,none⟩ v4).setCell ⟨g,5,none⟩ v5):=
 ⟨(((((h.set 0 v0).set 1 v1).set 2 v2).set 3 v3).set 4 v4).set 5 v5,
  (((((ab.set W (by simp) v0).trans' (ab.set _ (by simp) v1)).trans' (ab.set _ (by simp) v2)).trans' (ab.set _ (by simp) v3)).trans' (ab.set _ (by simp) v4)).trans' (ab.set _ (by simp) v5)⟩
def tz (w:World) (b:ap) (v2 v3 v4:Value) (L:List (Nat->Int)) (e:Ending) (w':World):Prop:=
 ((L=[]/\e=.returned (.tuple #[qK,.int .i64 9]))\/
  (L≠ []/\∃a c,e=.returned (.tuple #[DC b v2 v3 v4 (.slice a L.length c),.int .i64 0])/\bB 5 w' (.slice a L.length c) L/\jv w (.slice a L.length c)))/\
 Below w.heap.size w w'
theorem mD (f:Nat) (hf:∀(args:Array Value) (w:World),Sem.run ZP (Go.callFunc f args) w=.ok (.enter f args) w) (w:World) (b:ap) (v:Value) (a2:Option Addr) (c2:Nat) (v3 v4:Value) (ag:(Nat->Int)->Bool) (In:v=.agg #[.int .i64 b.ac,.int .i64 b.places,.slice a2 b.parts.length c2,v3,v4]) (hb:ar w v b) (hv:Valid b) (hc:iv w)
 (cs:Array Value) (iQ:∀X t,Below w.heap.size w X->Calls ZP 108 #[v,.agg (tick t)] X (di X (.bool (ag t))))
 (bN:∀X,Below w.heap.size w X->Calls ZP f (#[v]++cs) X (di X (.int .i64 0))):
 Calls ZP 50 #[v,.func (.func f) #[] cs] w (tz w b (.slice a2 b.parts.length c2) v3 v4 (aq b ag)):=by
 subst In;have HB:Hid (ar w (.agg #[.int .i64 b.ac,.int .i64 b.places,.slice a2 b.parts.length c2,v3,v4]) b):=hb;have HV:Hid (Valid b):=hv;obtain⟨_,_,_,Id,_,⟨a3,c3,⟨e3,_,_,_,_⟩,_⟩,⟨a4,c4,⟨e4,_,_,_,_⟩,_⟩⟩:=hb;simp only[Value.agg.injEq,zBU,zBR,zCB,zDB]at Id;obtain⟨rfl,rfl,rfl⟩:=Id;subst e3 e4;obtain⟨A1,aV⟩:∃A,w.alloc (.cells #[.int .i64 b.ac,.int .i64 b.places,.slice a2 b.parts.length c2,.slice a3 b.apart.length c3,.slice a4 b.aa.length c4] 26)=A:=⟨_,rfl⟩
 obtain⟨A2,bc⟩:∃A,A1.alloc (.cells #[.int .i64 0,.int .i64 0,.slice none 0 0,.slice none 0 0,.slice none 0 0,.slice none 0 0] 93)=A:=⟨_,rfl⟩
 have cS:A1.heap.size=w.heap.size+1:=by rw[<-aV];simp
 have gV:A2.heap.size=w.heap.size+2:=by rw[<-bc];simp[cS]
 have DD:Hid (aA A2 w.heap.size 26 #[.int .i64 b.ac,.int .i64 b.places,.slice a2 b.parts.length c2,.slice a3 b.apart.length c3,.slice a4 b.aa.length c4]):=by
  rw[<-bc];refine(ab.alloc [] _ _).box ?_ (by simp);rw[<-aV];exact aA.new _ _ _
 have HR0:Hid (aA A2 (w.heap.size+1) 93 #[.int .i64 0,.int .i64 0,.slice none 0 0,.slice none 0 0,.slice none 0 0,.slice none 0 0]):=by rw[<-bc,<-cS];exact aA.new _ _ _
 have DE:Hid (Below w.heap.size w A2):=by rw[<-bc,<-aV];exact((ab.alloc [] _ _).lV _).below (by simp) (zAC _)
 have HC:Hid (iv w):=hc;have AO:Hid (∀X t,Below w.heap.size w X->Calls ZP 108 #[.agg #[.int .i64 b.ac,.int .i64 b.places,.slice a2 b.parts.length c2,.slice a3 b.apart.length c3,.slice a4 b.aa.length c4],.agg (tick t)] X (di X (.bool (ag t)))):=iQ;have z0:A2.cell? ⟨w.heap.size,0,none⟩=some (.int .i64 b.ac):=DD.out.cell 0 rfl;have z1:A2.cell? ⟨w.heap.size,1,none⟩=some (.int .i64 b.places):=DD.out.cell 1 rfl;have z2:A2.cell? ⟨w.heap.size,2,none⟩=some (.slice a2 b.parts.length c2):=DD.out.cell 2 rfl;have z3:A2.cell? ⟨w.heap.size,3,none⟩=some (.slice a3 b.apart.length c3):=DD.out.cell 3 rfl;have z4:A2.cell? ⟨w.heap.size,4,none⟩=some (.slice a4 b.aa.length c4):=DD.out.cell 4 rfl;have zdx:Hid (∀X,Below w.heap.size w X->Calls ZP f (#[.agg #[.int .i64 b.ac,.int .i64 b.places,.slice a2 b.parts.length c2,.slice a3 b.apart.length c3,.slice a4 b.aa.length c4]]++cs) X (di X (.int .i64 0))):=bN;clear hv hc iQ bN;go_enter ZF50,Tryz.ntmps50
 go_wp2_with fail
 refine(iV A2 _ b (HB.out.later (Kp.of DE.out)) HV.out (HC.out.later DE.out)).mono ?_;rintro e w1 ⟨⟨r,rfl,rfl⟩,bi⟩;have dh:Hid (Below A2.heap.size A2 w1):=bi;clear z0 z1 z2 z3 z4 bi aV bc;have z0:w1.cell? ⟨w.heap.size,0,none⟩=some (.int .i64 b.ac):=(DD.out.below dh.out DD.out.lt).cell 0 rfl;have z1:w1.cell? ⟨w.heap.size,1,none⟩=some (.int .i64 b.places):=(DD.out.below dh.out DD.out.lt).cell 1 rfl;have z2:w1.cell? ⟨w.heap.size,2,none⟩=some (.slice a2 b.parts.length c2):=(DD.out.below dh.out DD.out.lt).cell 2 rfl;have z3:w1.cell? ⟨w.heap.size,3,none⟩=some (.slice a3 b.apart.length c3):=(DD.out.below dh.out DD.out.lt).cell 3 rfl;have z4:w1.cell? ⟨w.heap.size,4,none⟩=some (.slice a4 b.aa.length c4):=(DD.out.below dh.out DD.out.lt).cell 4 rfl;go_wp2_with fail
 obtain⟨A4,uM⟩:∃A,w1.alloc (.cells #[.int .i64 b.ac,.int .i64 b.places,.slice a2 b.parts.length c2,.slice a3 b.apart.length c3,.slice a4 b.aa.length c4] 84)=A:=⟨_,rfl⟩
 rw[uM];have hs4:A4.heap.size=w1.heap.size+1:=by rw[<-uM];simp
 have Ff:Hid (aA A4 w1.heap.size 84 #[.int .i64 b.ac,.int .i64 b.places,.slice a2 b.parts.length c2,.slice a3 b.apart.length c3,.slice a4 b.aa.length c4]):=by rw[<-uM];exact aA.new _ _ _
 have HK4:Hid (Below A2.heap.size A2 A4):=by rw[<-uM];exact dh.out.alloc dh.out.size _
 refine(zdx.out A4 (DE.out.trans (HK4.out.mono DE.out.size))).mono ?_;rintro e w2 ⟨rfl,fJ⟩;have gm:Hid (Below A4.heap.size A4 w2):=fJ;clear z0 z1 z2 z3 z4 fJ uM;have z0:w2.cell? ⟨w1.heap.size,0,none⟩=some (.int .i64 b.ac):=(Ff.out.below gm.out Ff.out.lt).cell 0 rfl;have z1:w2.cell? ⟨w1.heap.size,1,none⟩=some (.int .i64 b.places):=(Ff.out.below gm.out Ff.out.lt).cell 1 rfl;have z2:w2.cell? ⟨w1.heap.size,2,none⟩=some (.slice a2 b.parts.length c2):=(Ff.out.below gm.out Ff.out.lt).cell 2 rfl;have z3:w2.cell? ⟨w1.heap.size,3,none⟩=some (.slice a3 b.apart.length c3):=(Ff.out.below gm.out Ff.out.lt).cell 3 rfl;have z4:w2.cell? ⟨w1.heap.size,4,none⟩=some (.slice a4 b.aa.length c4):=(Ff.out.below gm.out Ff.out.lt).cell 4 rfl;have GR:Hid (Below A2.heap.size A2 w2):=HK4.out.trans (gm.out.mono HK4.out.size);have HKw:Hid (Below w.heap.size w w2):=DE.out.trans (GR.out.mono DE.out.size);go_wp2_with fail
 refine(Fc w2 b a2 c2 _ _ ag (HB.out.later (Kp.of HKw.out)) HV.out (λX t hX=>AO.out X t (HKw.out.trans (hX.mono HKw.out.size)))).mono ?_;rintro e w3 ⟨⟨v5,rfl,XQ⟩,DF⟩
 have HV5:Hid (∀W',ab [w.heap.size+1] w3 W'->bB 5 W' v5 (aq b ag)):=λW' hk=>bB.eD KL Oo (aR XQ λk e=>by
  have h1:=au XQ k e;have h2:=GR.out.size;refine hk.block k h1.2 ?_;simp;omega)
 have Tm:Hid (jv w v5):=jv.of XQ HKw.out.size;have fL:Hid (Below w2.heap.size w2 w3):=DF;have Oq:Hid (Below A2.heap.size A2 w3):=GR.out.trans (fL.out.mono GR.out.size);have yj:Hid (aA w3 (w.heap.size+1) 93 #[.int .i64 0,.int .i64 0,.slice none 0 0,.slice none 0 0,.slice none 0 0,.slice none 0 0]):=HR0.out.below Oq.out HR0.out.lt;have XR:Hid (aA w3 w1.heap.size 84 #[.int .i64 b.ac,.int .i64 b.places,.slice a2 b.parts.length c2,.slice a3 b.apart.length c3,.slice a4 b.aa.length c4]):=Ff.out.below (gm.out.trans (fL.out.mono gm.out.size)) Ff.out.lt;have Ot:Hid (Below w.heap.size w w3):=DE.out.trans (Oq.out.mono DE.out.size);obtain⟨a5,c5,rfl⟩:=cN XQ;clear z0 z1 z2 z3 z4 DF XQ;have z0:w3.cell? ⟨w1.heap.size,0,none⟩=some (.int .i64 b.ac):=XR.out.cell 0 rfl;have z1:w3.cell? ⟨w1.heap.size,1,none⟩=some (.int .i64 b.places):=XR.out.cell 1 rfl;have z2:w3.cell? ⟨w1.heap.size,2,none⟩=some (.slice a2 b.parts.length c2):=XR.out.cell 2 rfl;have z3:w3.cell? ⟨w1.heap.size,3,none⟩=some (.slice a3 b.apart.length c3):=XR.out.cell 3 rfl;have z4:w3.cell? ⟨w1.heap.size,4,none⟩=some (.slice a4 b.aa.length c4):=XR.out.cell 4 rfl;have f0:w3.frozen? ⟨w.heap.size+1,0,none⟩=false:=yj.out.aL 0;have f1:w3.frozen? ⟨w.heap.size+1,1,none⟩=false:=yj.out.aL 1;have f2:w3.frozen? ⟨w.heap.size+1,2,none⟩=false:=yj.out.aL 2;have f3:w3.frozen? ⟨w.heap.size+1,3,none⟩=false:=yj.out.aL 3;have f4:w3.frozen? ⟨w.heap.size+1,4,none⟩=false:=yj.out.aL 4;have f5:w3.frozen? ⟨w.heap.size+1,5,none⟩=false:=yj.out.aL 5;have t0:w3.cell? ⟨w.heap.size+1,0,none⟩=some (.int .i64 0):=yj.out.cell 0 rfl;have t1:w3.cell? ⟨w.heap.size+1,1,none⟩=some (.int .i64 0):=yj.out.cell 1 rfl;have t2:w3.cell? ⟨w.heap.size+1,2,none⟩=some (.slice none 0 0):=yj.out.cell 2 rfl;have t3:w3.cell? ⟨w.heap.size+1,3,none⟩=some (.slice none 0 0):=yj.out.cell 3 rfl;have t4:w3.cell? ⟨w.heap.size+1,4,none⟩=some (.slice none 0 0):=yj.out.cell 4 rfl;have t5:w3.cell? ⟨w.heap.size+1,5,none⟩=some (.slice none 0 0):=yj.out.cell 5 rfl;have hlen:=lW HV.out ag;by_cases h0:(bQ ag b.parts b.parts.length 0 (λ_=>0))=[]
 .have XS:Hid (aq b ag=[]):=h0;rw[h0]at*;simp only[zCO];go_wp2_with fail
  obtain⟨WF,jK⟩:∃W,((((((w3.setCell ⟨w.heap.size+1,0,none⟩ (.int .i64 0)).setCell ⟨w.heap.size+1,1,none⟩ (.int .i64 0)).setCell ⟨w.heap.size+1,2,none⟩ (.slice none 0 0)).setCell
   ⟨w.heap.size+1,3,none⟩ (.slice none 0 0)).setCell ⟨w.heap.size+1,4,none⟩ (.slice none 0 0)).setCell ⟨w.heap.size+1,5,none⟩ (.slice none 0 0))=W:=⟨_,rfl⟩
  obtain⟨iw,rQ⟩:=ym (.int .i64 0) (.int .i64 0) (.slice none 0 0) (.slice none 0 0) (.slice none 0 0) (.slice none 0 0) yj.out;rw[jK]at iw rQ⊢;have tA:Below w.heap.size w WF:=Ot.out.trans (rQ.below (by simp) Ot.out.size);have q0:=iw.cell 0 rfl;have q1:=iw.cell 1 rfl;have q2:=iw.cell 2 rfl;have q3:=iw.cell 3 rfl;have q4:=iw.cell 4 rfl;have q5:=iw.cell 5 rfl;refine bodyPost_ret (v:=.tuple #[qK,.int .i64 9]) ?_ rfl ⟨.inl ⟨XS.out,rfl⟩,tA⟩;rw[results_cell_tmp rfl];go_simp
 .have gi:0<(bQ ag b.parts b.parts.length 0 (λ_=>0)).length:=zCW.2 h0;have XS:Hid (aq b ag≠ []):=h0;generalize Io:(bQ ag b.parts b.parts.length 0 (λ_=>0)).length=ln at*;have XT:¬((ln:Int)=0):=by omega
  have zjZ:((ln:Int)==0)=false:=by simp;omega
  go_wp2_with fail
  obtain⟨WF,jK⟩:∃W,((((((w3.setCell ⟨w.heap.size+1,0,none⟩ (.int .i64 b.ac)).setCell ⟨w.heap.size+1,1,none⟩ (.int .i64 b.places)).setCell ⟨w.heap.size+1,2,none⟩ (.slice a2 b.parts.length c2)).setCell
   ⟨w.heap.size+1,3,none⟩ (.slice a3 b.apart.length c3)).setCell ⟨w.heap.size+1,4,none⟩ (.slice a4 b.aa.length c4)).setCell ⟨w.heap.size+1,5,none⟩ (.slice a5 ln c5))=W:=⟨_,rfl⟩
  obtain⟨iw,rQ⟩:=ym (.int .i64 b.ac) (.int .i64 b.places) (.slice a2 b.parts.length c2) (.slice a3 b.apart.length c3) (.slice a4 b.aa.length c4) (.slice a5 ln c5) yj.out;rw[jK]at iw rQ⊢;have tA:Below w.heap.size w WF:=Ot.out.trans (rQ.below (by simp) Ot.out.size);have q0:=iw.cell 0 rfl;have q1:=iw.cell 1 rfl;have q2:=iw.cell 2 rfl;have q3:=iw.cell 3 rfl;have q4:=iw.cell 4 rfl;have q5:=iw.cell 5 rfl;refine bodyPost_ret (v:=.tuple #[DC b (.slice a2 b.parts.length c2) (.slice a3 b.apart.length c3) (.slice a4 b.aa.length c4) (.slice a5 ln c5),.int .i64 0]) ?_ rfl ⟨.inr ⟨XS.out,a5,c5,by rw[Io],by rw[Io];exact HV5.out WF rQ,by rw[Io];exact Tm.out⟩,tA⟩;rw[results_cell_tmp rfl];go_simp
theorem tB (w:World) (b:ap) (v:Value) (a2:Option Addr) (c2:Nat) (v3 v4:Value) (ag:(Nat->Int)->Bool) (In:v=.agg #[.int .i64 b.ac,.int .i64 b.places,.slice a2 b.parts.length c2,v3,v4]) (hb:ar w v b) (hv:Valid b) (hc:iv w)
 (iQ:∀X t,Below w.heap.size w X->Calls ZP 108 #[v,.agg (tick t)] X (di X (.bool (ag t)))):
 Calls ZP 50 #[v,.func (.func 54) #[] #[]] w (tz w b (.slice a2 b.parts.length c2) v3 v4 (aq b ag)):=
 mD 54 ZC54 w b v a2 c2 v3 v4 ag In hb hv hc #[] iQ λX _=>by subst In;exact AN X _ _ _ _ _
def dI (m:Nat->Int) (N:Nat) (t0:Nat->Int) (L:List (Nat->Int)):Int:=L.foldl (λa t=>min a (aI m t N)) (aI m t0 N)
def dJ (m:Nat->Int) (N:Nat) (t0:Nat->Int) (L:List (Nat->Int)):Int:=L.foldl (λa t=>max a (aI m t N)) (aI m t0 N)
def fp (N:Nat) (L:List (Nat->Int)) (m:Nat->Int):Int:=dJ m N (L.headD λ_=>0) L.tail
def ia (N:Nat) (L:List (Nat->Int)) (m:Nat->Int):Int:=dI m N (L.headD λ_=>0) L.tail
theorem AP (m:Nat->Int) (N:Nat) (t0 t:Nat->Int) (L:List (Nat->Int)):dJ m N t0 (L++[t])=max (dJ m N t0 L) (aI m t N):=by simp[dJ]
theorem AQ (m:Nat->Int) (N:Nat) (t0 t:Nat->Int) (L:List (Nat->Int)):dI m N t0 (L++[t])=min (dI m N t0 L) (aI m t N):=by simp[dI]
noncomputable def aS (b:ap) (L:List (Nat->Int)):List (Nat->Int):=(aB b).filter λm=>decide (fp b.places.toNat L m<=b.ac)
def bare (l:List Part) (i:Nat):List Part:=match l[i]? with|some x=>l.set i {x with fits:=[]}|none=>l
theorem AS (h:l[k]?=some t):dJ m N t0 (l.take (k+1))=max (dJ m N t0 (l.take k)) (aI m t N):=by
 rw[zCA,h];exact AP ..
theorem AT (h:l[k]?=some t):dI m N t0 (l.take (k+1))=min (dI m N t0 (l.take k)) (aI m t N):=by
 rw[zCA,h];exact AQ ..
theorem pV (w:World) (v2 v3 v4 v5:Value) (b:ap) (N:Nat) (hN:b.places=N) (vV:N<=4) (L:List (Nat->Int)) (hL:bB 5 w v5 L) (bE:L≠ []) (m:Nat->Int) (hm:∀i,0<=m i/\m i<5) (ht:∀t∈L,∀i,0<=t i/\t i<=20):
 Calls ZP 62 #[DC b v2 v3 v4 v5,.agg (bP m)] w (di w (.agg #[.int .i64 (ia N L m),.int .i64 (fp N L m)])):=by
 obtain⟨t0,l,rfl⟩:∃t0 l,L=t0::l:=by cases L with
  |nil=>exact absurd rfl bE
  |cons a l=>exact⟨a,l,rfl⟩
 have HL:=hid hL;have HT:=hid ht;have HM:=hid hm;have HN:=hid hN;obtain⟨a,cap,hs,he⟩:=hL;obtain⟨⟨blk,off,sp⟩,t1,rfl,hx,rG⟩:=hs.elem he (k:=0) (by simp);simp at hx;subst hx;obtain rfl:sp=none:=(rG 0 (by omega)).1;have HE:Hid (bA w v5 (t0::l).length (some ⟨blk,off,none⟩) cap/\_):=⟨hs,he⟩
 obtain⟨rfl,hle,i9,_,_⟩:=hs;unfold maxLen at i9;clear ht hm bE;obtain⟨A1,aV⟩:=ex1 (w.alloc (.cells #[.int .i64 b.ac,.int .i64 b.places,v2,v3,v4,.slice (some ⟨blk,off,none⟩) (t0::l).length cap] 93));obtain⟨A2,bc⟩:=ex1 (A1.alloc (.cells (bP m) 107));obtain⟨A3,eE⟩:=ex1 (A2.alloc (.cells #[.int .i64 0,.int .i64 0] 43));have cS:=snew aV;have gV:=snew2 bc cS;have FP:=snew2 eE gV
 have B1:Hid (aA A3 w.heap.size 93 #[.int .i64 b.ac,.int .i64 b.places,v2,v3,v4,.slice (some ⟨blk,off,none⟩) (t0::l).length cap]):=by
  rw[<-eE];refine(ab.alloc [] _ _).box ?_ (by simp);rw[<-bc];refine(ab.alloc [] _ _).box ?_ (by simp);rw[<-aV];exact aA.new _ _ _
 have B2:Hid (aA A3 (w.heap.size+1) 107 (bP m)):=by
  rw[<-eE];refine(ab.alloc [] _ _).box ?_ (by simp);rw[<-bc,<-cS];exact aA.new _ _ _
 have B3:=bnew2 eE gV;have HW:=wnew3 aV bc eE;obtain⟨z0,z1,z2,z3,z4,z5⟩:=B1.o.a6;obtain⟨y0,y1,y2,y3⟩:=B2.o.a4;have r0:∀X:aj A3,X.1.cell? ⟨blk,off,none⟩=some (.int .i64 (t0 0)):=λX=>X.cell (by simpa using((rG 0 (by omega)).later (Kp.of HW.o)).2);have r1:∀X:aj A3,X.1.cell? ⟨blk,off+1,none⟩=some (.int .i64 (t0 1)):=λX=>X.cell (by simpa using((rG 1 (by omega)).later (Kp.of HW.o)).2);have r2:∀X:aj A3,X.1.cell? ⟨blk,off+2,none⟩=some (.int .i64 (t0 2)):=λX=>X.cell (by simpa using((rG 2 (by omega)).later (Kp.of HW.o)).2);have r3:∀X:aj A3,X.1.cell? ⟨blk,off+3,none⟩=some (.int .i64 (t0 3)):=λX=>X.cell (by simpa using((rG 3 (by omega)).later (Kp.of HW.o)).2);have r4:∀X:aj A3,X.1.cell? ⟨blk,off+4,none⟩=some (.int .i64 (t0 4)):=λX=>X.cell (by simpa using((rG 4 (by omega)).later (Kp.of HW.o)).2)
 have nF:∀X:aj A3,Calls ZP 96 #[.agg #[.int .i64 b.ac,.int .i64 b.places,v2,v3,v4],.agg (bP m),.agg (tick t0)] X.1 (λe iu=>e=.returned (.int .i64 (aI m t0 N))/\∃Y:aj A3,iu=Y.1):=λX=>
  (AI X.1 v2 v3 v4 b N HN.o vV m t0 (λi _=>HM.o i) (HT.o t0 (by simp))).mono λe w' h=>⟨h.1,X.on h.2⟩
 simp only[bP,tick]at bc nF⊢;simp only[zBS]at aV z5 hle⊢;have L1:((l.length+1:Nat):Int)=(l.length:Int)+1:=by omega
 clear rG he hN;go_enter ZF62,Tryz.ntmps62
 go_wp2_with fail
 refine ao (by kernel_rfl) (by kernel_rfl) ?_;repeat(go_big_quiet_step (first|(go_at_call 96;exact nF _)))
 refine wpQuiet_nil ?_;rintro _ ⟨X,rfl⟩;have Qh:=HW.t X.2;obtain⟨W,hW⟩:=ex1 (X.1);rw[hW];have HK:Hid (Below A3.heap.size A3 W):=by rw[<-hW];exact X.2
 obtain⟨W1,GM⟩:=ex1 (W.alloc (.cells #[.int .i64 (aI m t0 N),.int .i64 (aI m t0 N)] 43));have x5:W.cell? ⟨w.heap.size,5,none⟩=some (.slice (some ⟨blk,off,none⟩) (l.length+1) cap):=by rw[<-hW];exact z5 X
 have x5':W1.cell? ⟨w.heap.size,5,none⟩=some (.slice (some ⟨blk,off,none⟩) (l.length+1) cap):=by
  rw[<-GM];exact(dW (by have:=HK.o.size;show w.heap.size<_;omega) _).trans x5
 rw[hW]at Qh;clear nF z0 z1 z2 z3 z4 z5 y0 y1 y2 y3 r0 r1 r2 r3 r4 hW X x5;by_cases hc1:cap=1
 .have yY:l=[]:=zBL (by omega);subst yY;have q0:W1.cell? ⟨W.heap.size,0,none⟩=some (.int .i64 (aI m t0 N)):=by rw[<-GM];exact(aA.new W 43 _).cell 0 rfl
  have q1:W1.cell? ⟨W.heap.size,1,none⟩=some (.int .i64 (aI m t0 N)):=by rw[<-GM];exact(aA.new W 43 _).cell 1 rfl
  go_wp2_with fail
  go_loopw [24] (λi wr=>i=.int .i64 0/\Hid (aA wr W.heap.size 43 #[.int .i64 (dI m N t0 []),.int .i64 (dJ m N t0 [])])/\Hid (ab [W.heap.size] W wr)) (λ_ _=>0)
  case atStart=>exact⟨rfl,by rw[<-GM];exact aA.new W 43 _,by rw[<-GM];exact ab.alloc _ _ _⟩
  case round=>
   obtain⟨rfl,uf,v6⟩:=hrel;have mz:aA wr (w.heap.size+1+1) 43 #[.int .i64 0,.int .i64 0]:=v6.o.box ((ab.of (O:=[]) HK.o).box B3.o (by simp)) (by have:=HK.o.size;simp;omega);have p0:=mz.cell 0 rfl;have p1:=mz.cell 1 rfl;have p2:=mz.aL 0;have p3:=mz.aL 1;have q0:=uf.o.cell 0 rfl;have q1:=uf.o.cell 1 rfl;go_wp2
   obtain⟨WF,jK⟩:=ex1 ((wr.setCell ⟨w.heap.size+1+1,0,none⟩ (.int .i64 (dI m N t0 []))).setCell ⟨w.heap.size+1+1,1,none⟩ (.int .i64 (dJ m N t0 [])));have iw:aA WF (w.heap.size+1+1) 43 #[.int .i64 (dI m N t0 []),.int .i64 (dJ m N t0 [])]:=by rw[<-jK];exact(mz.set 0 _).set 1 _
   have rQ:ab [w.heap.size+1+1] wr WF:=by rw[<-jK];exact(ab.set wr (by simp) _).trans' (ab.set _ (by simp) _)
   have tA:Below w.heap.size w WF:=Qh.o.trans ((v6.o.below (by have:=HK.o.size;simp;omega) Qh.o.size).trans (rQ.below (by simp;omega) (by have:=v6.o.size;have:=Qh.o.size;omega)));have u0:=iw.cell 0 rfl;have u1:=iw.cell 1 rfl;rw[jK];refine bodyPost_ret (v:=.agg #[.int .i64 (ia N (t0:: []) m),.int .i64 (fp N (t0:: []) m)]) ?_ rfl ⟨rfl,tA⟩;rw[eX rfl];go_simp;exact⟨rfl,rfl⟩
 .go_wp2_with fail
  go_loopw [24] (λi wr=>∃k:Nat,k<=l.length/\i=.int .i64 k/\Hid (aA wr W.heap.size 43 #[.int .i64 (dI m N t0 (l.take k)),.int .i64 (dJ m N t0 (l.take k))])/\Hid (ab [W.heap.size] W wr)) (λi _=>l.length-(intOf i).toNat)
  case atStart=>exact⟨0,zAR _,rfl,by rw[<-GM];exact aA.new W 43 _,by rw[<-GM];exact ab.alloc _ _ _⟩
  case round=>
   obtain⟨k,hk,rfl,uf,v6⟩:=hrel;by_cases az:k<l.length
   .have hx:l[k]?=some l[k]:=zAJ az;obtain⟨t,htt⟩:=ex1 (l[k]);rw[htt]at hx
    have bd:∀r,r<5->wr.cell? ⟨blk,off+5+k*5+r,none⟩=some (.int .i64 (t r)):=λr hr=>by
     have h1:=(HE.o.2 _ rfl (k+1) t (by simpa using hx) r hr)
     have h2:=h1.later (Kp.of Qh.o);have h3:=h2.lt;have h4:=h2.2;rw[show off+5+k*5+r=off+((k+1)*5+r) by omega];exact(World.cell?_of_block (w:=W) (a:=⟨blk,off+((k+1)*5+r),none⟩) (v6.o.block blk h3 (by simp at h3⊢;omega))).trans h4
    have r0:=bd 0 (by omega);have r1:=bd 1 (by omega);have r2:=bd 2 (by omega);have r3:=bd 3 (by omega);have r4:=bd 4 (by omega);simp only[zDH]at r0;have HX:=hid hx
    have hWg:∀(g tt:Nat) (cs:Array Value),g<A3.heap.size->aA A3 g tt cs->aA wr g tt cs:=λg tt cs hg h=>
     v6.o.box ((ab.of (O:=[]) HK.o).box h (by simp)) (by have:=HK.o.size;simp;omega)
    have BW1:=hWg _ _ _ (by omega) B1.o;have BW2:=hWg _ _ _ (by omega) B2.o;obtain⟨wt,BJ⟩:=ex1 (wr.alloc (.cells (tick t) 99));have Ou:=knew BJ;have HBt:Hid (aA wt W.heap.size 43 #[.int .i64 (dI m N t0 (l.take k)),.int .i64 (dJ m N t0 (l.take k))]):=Ou.box uf.o (by simp);have UO:Hid (ab [W.heap.size] W wt):=v6.o.trans (O':=[]) Ou (by simp);have BT1:=Ou.box BW1 (by simp);have BT2:=Ou.box BW2 (by simp);obtain⟨s0,s1,s2,s3,s4⟩:=BT1.c5;obtain⟨y0,y1,y2,y3⟩:=BT2.c4;have BX:=aA.new wr 99 (tick t);rw[BJ]at BX;obtain⟨e0,e1,e2,e3,e4⟩:=BX.c5;have hC:=AI wt v2 v3 v4 b N HN.o vV m t (λi _=>HM.o i) (HT.o t (by have:=zAX HX.o;simp[this]));simp only[bP,tick]at hC BJ;have j0:(k:Int)<(l.length:Int):=by omega
    have DB:=hid az;clear bd hx htt hWg BW1 BW2 Ou BT1 BT2 BX hk az;go_wp2_with fail
    refine hC.mono ?_;rintro e w2 ⟨rfl,fJ⟩;have gm:Hid (ab [W.heap.size] W w2):=UO.o.trans (O':=[]) (ab.of fJ) (by simp);have m7:Hid (aA w2 W.heap.size 43 #[.int .i64 (dI m N t0 (l.take k)),.int .i64 (dJ m N t0 (l.take k))]):=(ab.of (O:=[]) fJ).box HBt.o (by simp);have q0:=m7.o.cell 0 rfl;have q1:=m7.o.cell 1 rfl;have g0:=m7.o.aL 0;have g1:=m7.o.aL 1;have HLo:=AT (m:=m) (N:=N) (t0:=t0) HX.o;have HHi:=AS (m:=m) (N:=N) (t0:=t0) HX.o;have HLH:Hid (dI m N t0 (l.take (k+1))=min (dI m N t0 (l.take k)) (aI m t N)/\dJ m N t0 (l.take (k+1))=max (dJ m N t0 (l.take k)) (aI m t N)):=⟨HLo,HHi⟩
    clear hC fJ HLo HHi s0 s1 s2 s3 s4 y0 y1 y2 y3 e0 e1 e2 e3 e4 r0 r1 r2 r3 r4 BJ;generalize dI m N t0 (l.take k)=lo at*;generalize dJ m N t0 (l.take k)=hi at*;generalize aI m t N=tk at*;go_wp2
    have e1:(if tk<lo then tk else lo)=min lo tk:=by split<;>omega
    have e2:(if hi<tk then tk else hi)=max hi tk:=by split<;>omega
    have vb:=DB.o;rw[e1,e2];refine⟨⟨k+1,by omega,by go_num,?_,?_⟩,by simp[intOf];omega⟩
    .rw[HLH.o.1,HLH.o.2];exact(m7.o.set 0 _).set 1 _
    .exact gm.o.trans' ((ab.set _ (by simp) _).trans' (ab.set _ (by simp) _))
   .have e:k=l.length:=by omega
    subst e;rw[zDK]at uf;have mz:aA wr (w.heap.size+1+1) 43 #[.int .i64 0,.int .i64 0]:=v6.o.box ((ab.of (O:=[]) HK.o).box B3.o (by simp)) (by have:=HK.o.size;simp;omega);have p0:=mz.cell 0 rfl;have p1:=mz.cell 1 rfl;have p2:=mz.aL 0;have p3:=mz.aL 1;have q0:=uf.o.cell 0 rfl;have q1:=uf.o.cell 1 rfl;go_wp2
    obtain⟨WF,jK⟩:=ex1 ((wr.setCell ⟨w.heap.size+1+1,0,none⟩ (.int .i64 (dI m N t0 l))).setCell ⟨w.heap.size+1+1,1,none⟩ (.int .i64 (dJ m N t0 l)));have iw:aA WF (w.heap.size+1+1) 43 #[.int .i64 (dI m N t0 l),.int .i64 (dJ m N t0 l)]:=by rw[<-jK];exact(mz.set 0 _).set 1 _
    have rQ:ab [w.heap.size+1+1] wr WF:=by rw[<-jK];exact(ab.set wr (by simp) _).trans' (ab.set _ (by simp) _)
    have tA:Below w.heap.size w WF:=Qh.o.trans ((v6.o.below (by have:=HK.o.size;simp;omega) Qh.o.size).trans (rQ.below (by simp;omega) (by have:=v6.o.size;have:=Qh.o.size;omega)));have u0:=iw.cell 0 rfl;have u1:=iw.cell 1 rfl;rw[jK];refine bodyPost_ret (v:=.agg #[.int .i64 (ia N (t0::l) m),.int .i64 (fp N (t0::l) m)]) ?_ rfl ⟨rfl,tA⟩;rw[eX rfl];go_simp;exact⟨rfl,rfl⟩
theorem wd (w:World) (a b:Int):(Instr.field 43 (.agg #[.int .i64 a,.int .i64 b]) 1).run ZP w=.ok (.int .i64 b) w:=by
 have u:ZP.underlying 43=_:=(Tz.under 43).trans Tryz.underlying43;have a3:=Tryz.isAgg3;have z3:=Tryz.sizeOf3;simp[Instr.field,run_underlying u,asAgg,part,go_sem,a3,z3]
theorem GS (w:World) (a b:Int):(Instr.field 43 (.agg #[.int .i64 a,.int .i64 b]) 0).run ZP w=.ok (.int .i64 a) w:=by
 have u:ZP.underlying 43=_:=(Tz.under 43).trans Tryz.underlying43;have a3:=Tryz.isAgg3;have z3:=Tryz.sizeOf3;simp[Instr.field,run_underlying u,asAgg,part,go_sem,a3,z3]
def XU (s:Nat) (w:World) (L:List (Nat->Int)) (e:Ending) (w':World):Prop:=(∃v,e=.returned v/\bB s w' v L/\jv w v)/\Below w.heap.size w w'
noncomputable def ey (b:ap) (L:List (Nat->Int)) (k:Nat):List (Nat->Int):=((aB b).take k).filter λm=>decide (fp b.places.toNat L m<=b.ac)
theorem DG (hx:(aB b)[k]?=some m) (h:fp b.places.toNat L m<=b.ac):ey b L (k+1)=ey b L k++[m]:=by
 unfold ey;rw[zCA,hx,zFN];simp[h]
theorem GT (hx:(aB b)[k]?=some m) (h:¬fp b.places.toNat L m<=b.ac):ey b L (k+1)=ey b L k:=by
 unfold ey;rw[zCA,hx,zFN];simp[h]
theorem DH (b:ap) (L:List (Nat->Int)) (k:Nat):(ey b L k).length<=k:=by
 unfold ey;exact zAP (zDP _ _) (by simp;omega)
theorem tC (w:World) (b:ap) (v2 v3 v4 v5:Value) (L:List (Nat->Int)) (hb:ar w (.agg #[.int .i64 b.ac,.int .i64 b.places,v2,v3,v4]) b) (hv:Valid b) (hL:bB 5 w v5 L) (bE:L≠ []) (ht:∀t∈L,∀i,0<=t i/\t i<=20):
 Calls ZP 55 #[DC b v2 v3 v4 v5] w (XU 4 w (aS b L)):=by
 have HB:=hid hb;have HV:Hid (Valid b):=hv;have HL:=hid hL;have HT:Hid (L≠ []/\∀t∈L,∀i,0<=t i/\t i<=20):=⟨bE,ht⟩
 obtain⟨i0,hi,lP,jr,kr⟩:=info_parts KF;obtain⟨A1,aV⟩:=ex1 (w.alloc (.cells #[.int .i64 b.ac,.int .i64 b.places,v2,v3,v4,v5] 93));have cS:=snew aV;have B1:=bnew aV;have HW:=wnew aV;have z0:=B1.o.cell 0 rfl;have z1:=B1.o.cell 1 rfl;have z2:=B1.o.cell 2 rfl;have z3:=B1.o.cell 3 rfl;have z4:=B1.o.cell 4 rfl;clear hb hv hL bE ht;go_enter ZF55,Tryz.ntmps55
 go_wp2_with fail
 refine(yf A1 _ b (HB.o.later (Kp.of HW.o)) HV.o).mono ?_;rintro e w1 ⟨⟨v8,rfl,hv8⟩,bi⟩;have HM:Hid (bB 4 w1 v8 (aB b)):=bB.eD Fd KM hv8;have dh:=hid bi;have tu:=HW.t bi;clear hv8 bi z0 z1 z2 z3 z4;obtain⟨a8,c8,hs8,he8⟩:=HM.o;have HE:Hid (bA w1 v8 (aB b).length a8 c8/\_):=⟨hs8,he8⟩
 obtain⟨rfl,hle,i9,_,_⟩:=hs8;unfold maxLen at i9;have BH:=dX HV.o;obtain⟨nn,Zy⟩:=ex1 ((aB b).length);have qH:=hid Zy;rw[Zy]at BH hle⊢;clear he8 Zy i9;go_wp2_with fail
 go_loopw [10,3] (λi v wr=>∃k:Nat,k<=nn/\i=.int .i64 k/\Hid (wr.ownsRow w1.heap.size 107 4 v (ey b L k).length ((ey b L k).flatMap λm=>(bP m).toList))/\Hid (Below w1.heap.size w1 wr)) (λi _ _=>nn-(intOf i).toNat)
 case atStart=>exact⟨0,zAR _,rfl,World.ownsRow_nil _ _ _ _,Below.refl _ _⟩
 case round=>
  obtain⟨k,hk,rfl,hO,hB⟩:=hrel;by_cases az:k<nn
  .obtain⟨⟨blk,off,sp⟩,m,rfl,hx,rG⟩:=HE.o.1.elem HE.o.2 (k:=k) (by rw[qH.o];exact az);obtain rfl:sp=none:=(rG 0 (by omega)).1;have bd:∀r,r<4->wr.cell? ⟨blk,off+(k*4+r),none⟩=some (.int .i64 (m r)):=λr hr=>((rG r hr).later (Kp.of hB.o)).2;have r0:=bd 0 (by omega);have r1:=bd 1 (by omega);have r2:=bd 2 (by omega);have r3:=bd 3 (by omega);simp only[zDH,<-zBE]at r0 r1 r2 r3;have HX:=hid hx;have j0:(k:Int)<(nn:Int):=by omega
   have DB:Hid (k<nn):=az;have Im:=tu.t hB.o;obtain⟨wt,BJ⟩:=ex1 (wr.alloc (.cells (bP m) 107));have bK:=snew BJ;have UP:Hid (Below wr.heap.size wr wt):=by rw[<-BJ];exact(Below.refl _ _).alloc (zAC _) _
   have BS:Hid (aA wt w.heap.size 93 #[.int .i64 b.ac,.int .i64 b.places,v2,v3,v4,v5]):=
    ((B1.o.below dh.o B1.o.lt).below (hB.o.trans (UP.o.mono hB.o.size)) ((B1.o.below dh.o B1.o.lt).lt))
   have BM:=bnew BJ;obtain⟨s0,s1,s2,s3,s4,s5⟩:=BS.o.a6;obtain⟨m0,m1,m2,m3⟩:=BM.o.a4
   have nF:∀X:aj wt,Calls ZP 62 #[DC b v2 v3 v4 v5,.agg (bP m)] X.1 (λe iu=>e=.returned (.agg #[.int .i64 (ia b.places.toNat L m),.int .i64 (fp b.places.toNat L m)])/\∃Y:aj wt,iu=Y.1):=λX=>
    (pV X.1 v2 v3 v4 v5 b b.places.toNat (by have:=HV.o.places;omega) (by have:=HV.o.places;omega) L (((HL.o.later (Kp.of Im.o)).later (Kp.of UP.o)).later X.kp) HT.o.1 m (AM HV.o m (zAX HX.o)) HT.o.2).mono λe w' h=>⟨h.1,X.on h.2⟩
   obtain⟨lo,DA⟩:=ex1 (ia b.places.toNat L m);obtain⟨qj,Qi⟩:∃x,fp b.places.toNat L m=x:=⟨_,rfl⟩
   have HHI:=hid Qi;rw[DA,Qi]at nF;simp only[bP]at nF BJ;have XT:=DH b L k;clear bd rG hx DA Qi az;by_cases XV:qj<=b.ac
   .go_wp2_with fail
    refine ao (by kernel_rfl) (by kernel_rfl) ?_;go_big_quiet_step (fail)
    go_big_quiet_step (fail)
    go_big_quiet_step (first|(go_at_call 62;exact nF _))
    have Tn:=λw=>wd w lo qj;repeat(go_big_quiet_step (first|(go_at_call 62;exact nF _)))
    refine wpQuiet_nil ?_;rintro _ ⟨X,rfl⟩;obtain⟨W,hW⟩:=ex1 (X.1);have HXt:Hid (Below wt.heap.size wt W):=by rw[<-hW];exact X.2
    have Qj:=UP.t HXt.o;have HOw:Hid (W.ownsRow w1.heap.size 107 4 u3 (ey b L k).length ((ey b L k).flatMap λm=>(bP m).toList)):=aR hO.o λj hj=>Qj.o.block j (au hO.o j hj).2;have n0:=m0 X;have n1:=m1 X;have n2:=m2 X;have n3:=m3 X;have bW:=Qj.o.size;have zj0:=hB.o.size;rw[hW]at n0 n1 n2 n3⊢;clear s0 s1 s2 s3 s4 s5 m0 m1 m2 m3 nF Tn hW X BJ;have zj1:∀x:Nat->Int,(bP x).toList.length=4:=λ_=>rfl
    go_wp2_with(at_builtin
                refine wpList_append_own _ rfl (.tmp 23) (.tmp 25) 102 rfl w1.heap.size 107 i0 (.agg #[.int .i64 0,.int .i64 0,.int .i64 0,.int .i64 0]) 4 32 E9 hi lP jr kr rfl (by decide) _ _ _ rfl (HOw.o.alloc _) ⟨W.heap.size,0,none⟩ 1 1 (bP m).toList rfl rfl (Fa (aA.new W 107 (bP m))) (Fb m) (by unfold maxLen;omega) (by omega) (by simp;omega) ?_;intro v' w2 cF dq _)
    have Dt:Hid (w2.ownsRow w1.heap.size 107 4 v' (ey b L (k+1)).length ((ey b L (k+1)).flatMap λm=>(bP m).toList)):=(by
     rw[DG HX.o (by rw[HHI.o];exact XV),zBA,zCJ];have h2:=cF;simp only[zBP,zFC,zCY,zBS,zCO];exact h2)
    have gm:Hid (Below w1.heap.size w1 w2):=Below.grown (Below.alloc (hB.o.trans (Qj.o.mono hB.o.size)) (by omega) _) dq (by simp;omega) (oQ HOw.o);clear cF dq;have vb:=DB.o;go_round
    case rel=>exact⟨k+1,by omega,by go_num,Dt,gm⟩
    case measure=>simp[intOf];omega
   .go_wp2_with fail
    refine ao (by kernel_rfl) (by kernel_rfl) ?_;have Tn:=λw=>wd w lo qj;repeat(go_big_quiet_step (first|(go_at_call 62;exact nF _)))
    refine wpQuiet_nil ?_;rintro _ ⟨X,rfl⟩;obtain⟨W,hW⟩:=ex1 (X.1);have HXt:Hid (Below wt.heap.size wt W):=by rw[<-hW];exact X.2
    have Qj:=UP.t HXt.o
    have HOw:Hid (W.ownsRow w1.heap.size 107 4 u3 (ey b L (k+1)).length ((ey b L (k+1)).flatMap λm=>(bP m).toList)):=by
     rw[GT HX.o (by rw[HHI.o];omega)];exact aR hO.o λj hj=>Qj.o.block j (au hO.o j hj).2
    have gm:=hB.t Qj.o;rw[hW];clear s0 s1 s2 s3 s4 s5 m0 m1 m2 m3 nF Tn hW X BJ;have vb:=DB.o;go_wp2
    go_round
    case rel=>exact⟨k+1,by omega,by go_num,HOw,gm⟩
    case measure=>simp[intOf];omega
  .have e:k=nn:=by omega
   have Dt:Hid (bB 4 wr u3 (aS b L)):=by
    have:ey b L k=aS b L:=by unfold ey aS;rw[e,<-qH.o,zDK]
    rw[this]at hO;exact bB.eD Fd KM hO.o
   have Tm:Hid (jv w u3):=jv.of hO.o tu.o.size;have Im:=tu.t hB.o;go_wp2
   go_ret;exact⟨⟨_,rfl,Dt.o,Tm.o⟩,Im.o⟩
def KN (w:World) (b:ap) (L:List (Nat->Int)) (e:Ending) (w':World):Prop:=
 ((L=[]/\e=.returned (.tuple #[.int .i64 0,.int .i64 9]))\/(L≠ []/\e=.returned (.tuple #[.int .i64 (aS b L).length,.int .i64 0])))/\Below w.heap.size w w'
abbrev kE (w:World) (v:Value) (ag:(Nat->Int)->Bool):Prop:=∀X t,Below w.heap.size w X->Calls ZP 108 #[v,.agg (tick t)] X (di X (.bool (ag t)))
theorem ar.dA (h:ar w v b):∃a2 c2 a3 c3 a4 c4,v=.agg #[.int .i64 b.ac,.int .i64 b.places,.slice a2 b.parts.length c2,.slice a3 b.apart.length c3,.slice a4 b.aa.length c4]:=by
 obtain⟨v2,v3,v4,rfl,⟨a2,c2,⟨rfl,_,_,_,_⟩,_⟩,⟨a3,c3,⟨rfl,_,_,_,_⟩,_⟩,⟨a4,c4,⟨rfl,_,_,_,_⟩,_⟩⟩:=h;exact⟨a2,c2,a3,c3,a4,c4,rfl⟩
theorem we (w:World) (v:Value) (b:ap) (ag:(Nat->Int)->Bool) (hb:ar w v b) (hv:Valid b) (hc:iv w) (iQ:kE w v ag):Calls ZP 13 #[v] w (KN w b (aq b ag)):=by
 have HB:=hid hb;have HV:Hid (Valid b):=hv;have HC:Hid (iv w):=hc;obtain⟨a2,c2,a3,c3,a4,c4,rfl⟩:=hb.dA;have AO:=hid iQ;obtain⟨A1,aV⟩:=ex1 (w.alloc (.cells #[.int .i64 b.ac,.int .i64 b.places,.slice a2 b.parts.length c2,.slice a3 b.apart.length c3,.slice a4 b.aa.length c4] 26));have B1:=bnew aV;have HW:=wnew aV;have z0:=B1.o.cell 0 rfl;have z1:=B1.o.cell 1 rfl;have z2:=B1.o.cell 2 rfl;have z3:=B1.o.cell 3 rfl;have z4:=B1.o.cell 4 rfl;clear hb hv hc iQ;go_enter ZF13,Tryz.ntmps13
 go_wp2_with fail
 refine(tB A1 b _ a2 c2 _ _ ag rfl (HB.o.later (Kp.of HW.o)) HV.o (HC.o.later HW.o) (λX t hX=>AO.o X t (HW.o.trans (hX.mono HW.o.size)))).mono ?_;rintro e w1 ⟨pl,bi⟩;have dh:=HW.t bi;have BH:=dX HV.o;clear bi z0 z1 z2 z3 z4 aV;rcases pl with⟨hL,rfl⟩|⟨hL,a,c,rfl,oR,_⟩
 .have HL:=hid hL;clear hL;go_wp2
  go_ret2;exact⟨.inl ⟨HL.o,rfl⟩,dh.o.alloc dh.o.size _⟩
 .obtain⟨A2,bc⟩:=ex1 (w1.alloc (.cells #[.int .i64 b.ac,.int .i64 b.places,.slice a2 b.parts.length c2,.slice a3 b.apart.length c3,.slice a4 b.aa.length c4,.slice a (aq b ag).length c] 93));have B2:=bnew bc;have DE:=wnew bc;have gm:=dh.t DE.o;have hC:=tC A2 b _ _ _ _ (aq b ag) (HB.o.later (Kp.of gm.o)) HV.o (oR.later (Kp.of DE.o)) hL (mC HV.o ag);have z0:=B2.o.cell 0 rfl;have z1:=B2.o.cell 1 rfl;have z2:=B2.o.cell 2 rfl;have z3:=B2.o.cell 3 rfl;have z4:=B2.o.cell 4 rfl;have z5:=B2.o.cell 5 rfl;have HL:=hid hL;clear hL oR;go_wp2_with fail
  refine hC.mono ?_;rintro e w2 ⟨⟨vs,rfl,zy,_⟩,fJ⟩;obtain⟨sa,sc,rfl,_,_⟩:=zy.slice;have fL:=gm.t fJ;clear fJ zy hC z0 z1 z2 z3 z4 z5 bc;go_wp2
  go_ret2;exact⟨.inr ⟨HL.o,rfl⟩,fL.o⟩
theorem fW {fn:Func} {p u u':Tmp} {ty:TypeId} (h:fn.results=#[.cell p ty,.tmp u,.tmp u']) (tmps:Array Value) (P:Program) (w:World):
 (results fn tmps).run P w=
   ((asAddr (tmps.getD p undef)).run P w).andThen λa w₁=>((loadVar ty a).run P w₁).andThen λv w₂=>.ok (.tuple #[v,tmps.getD u undef,tmps.getD u' undef]) w₂:=by
 simp only[results,h];simp[Sem.run_bind,Result.andThen]
theorem aA.same {t:TypeId} {cs:Array Value} {i:Nat} (h:aA w g t cs) (hv:cs[i]?=some v):w.setCell ⟨g,i,none⟩ v=w:=by
 have e:(w.setCell ⟨g,i,none⟩ v).heap=w.heap:=by
  refine zFK λk=>?_;by_cases hk:k=g
  .subst hk;have h1:_=_:=h.set i v
   have h2:cs.setIfInBounds i v=cs:=by
    refine zFK λj=>?_;by_cases hj:i=j
    .subst hj;obtain⟨az,hx⟩:=zAD.1 hv;rw[Array.getElem?_setIfInBounds_self_of_lt az,hv]
    .rw[zEK hj]
   rw[h2]at h1;exact h1.trans h.symm
  .exact Below.heap_setCell _ _ _ _ hk
 show({w with heap:=(w.setCell ⟨g,i,none⟩ v).heap}:World)=w;rw[e]
def XW (w:World) (b:ap) (v2 v3 v4:Value) (L:List (Nat->Int)) (e:Ending) (w':World):Prop:=
 ((L=[]/\e=.returned (.tuple #[qK,.slice none 0 0,.int .i64 9]))\/(L≠ []/\aS b L=[]/\e=.returned (.tuple #[qK,.slice none 0 0,.int .i64 8]))\/
  (L≠ []/\aS b L≠ []/\∃a c vs,e=.returned (.tuple #[DC b v2 v3 v4 (.slice a L.length c),vs,.int .i64 0])/\bB 5 w' (.slice a L.length c) L/\bB 4 w' vs (aS b L)/\jv w (.slice a L.length c)/\jv w vs))/\Below w.heap.size w w'
theorem AU (w:World) (v:Value) (b:ap) (ag:(Nat->Int)->Bool) (a2:Option Addr) (c2:Nat) (v3 v4:Value) (In:v=.agg #[.int .i64 b.ac,.int .i64 b.places,.slice a2 b.parts.length c2,v3,v4]) (hb:ar w v b) (hv:Valid b) (hc:iv w) (iQ:kE w v ag):
 Calls ZP 56 #[v] w (XW w b (.slice a2 b.parts.length c2) v3 v4 (aq b ag)):=by
 subst In;have HB:=hid hb;have HV:Hid (Valid b):=hv;have HC:Hid (iv w):=hc;obtain⟨Uq,Oj,a3,c3,a4,c4,Id⟩:=hb.dA;simp only[Value.agg.injEq,zBU,zBR,zCB,zDB]at Id;obtain⟨_,rfl,rfl⟩:=Id;have AO:=hid iQ;obtain⟨A1,aV⟩:=ex1 (w.alloc (.cells #[.int .i64 b.ac,.int .i64 b.places,.slice a2 b.parts.length c2,.slice a3 b.apart.length c3,.slice a4 b.aa.length c4] 26));obtain⟨A2,bc⟩:=ex1 (A1.alloc (.cells #[.int .i64 0,.int .i64 0,.slice none 0 0,.slice none 0 0,.slice none 0 0,.slice none 0 0] 93));have cS:=snew aV;have gV:=snew2 bc cS;have B1:=bnewk aV bc;have HR0:=bnew2 bc cS;have HW:=wnew2 aV bc;have z0:=B1.o.cell 0 rfl;have z1:=B1.o.cell 1 rfl;have z2:=B1.o.cell 2 rfl;have z3:=B1.o.cell 3 rfl;have z4:=B1.o.cell 4 rfl;clear hb hv hc iQ;go_enter ZF56,Tryz.ntmps56
 go_wp2_with fail
 refine(tB A2 b _ a2 c2 _ _ ag rfl (HB.o.later (Kp.of HW.o)) HV.o (HC.o.later HW.o) (λX t hX=>AO.o X t (HW.o.trans (hX.mono HW.o.size)))).mono ?_;rintro e w1 ⟨pl,bi⟩;have dh:=HW.t bi;have HR1:=hidb HR0 bi;have BH:=dX HV.o;have zj2:w.heap.size+1<w1.heap.size:=HR1.o.lt;clear bi z0 z1 z2 z3 z4 aV bc;rcases pl with⟨hL,rfl⟩|⟨hL,a,c,rfl,oR,gp⟩
 .have HL:=hid hL;clear hL;obtain⟨W,hW⟩:=ex1 (w1.alloc (.cells #[.int .i64 0,.int .i64 0,.slice none 0 0,.slice none 0 0,.slice none 0 0,.slice none 0 0] 93));have tD:=knew hW;have gu:=(bnew hW).o;have jE:=tD.box HR1.o (by simp);have t0:=jE.cell 0 rfl;have t1:=jE.cell 1 rfl;have t2:=jE.cell 2 rfl;have t3:=jE.cell 3 rfl;have t4:=jE.cell 4 rfl;have t5:=jE.cell 5 rfl;have f0:=jE.aL 0;have f1:=jE.aL 1;have f2:=jE.aL 2;have f3:=jE.aL 3;have f4:=jE.aL 4;have f5:=jE.aL 5;have s0:=gu.cell 0 rfl;have s1:=gu.cell 1 rfl;have s2:=gu.cell 2 rfl;have s3:=gu.cell 3 rfl;have s4:=gu.cell 4 rfl;have s5:=gu.cell 5 rfl;have g0:=gu.aL 0;have g1:=gu.aL 1;have g2:=gu.aL 2;have g3:=gu.aL 3;have g4:=gu.aL 4;have g5:=gu.aL 5;have e0:=gu.same (i:=0) (v:=.int .i64 0) rfl;have e1:=gu.same (i:=1) (v:=.int .i64 0) rfl;have e2:=gu.same (i:=2) (v:=.slice none 0 0) rfl;have e3:=gu.same (i:=3) (v:=.slice none 0 0) rfl;have e4:=gu.same (i:=4) (v:=.slice none 0 0) rfl;have e5:=gu.same (i:=5) (v:=.slice none 0 0) rfl;have d0:=jE.same (i:=0) (v:=.int .i64 0) rfl;have d1:=jE.same (i:=1) (v:=.int .i64 0) rfl;have d2:=jE.same (i:=2) (v:=.slice none 0 0) rfl;have d3:=jE.same (i:=3) (v:=.slice none 0 0) rfl;have d4:=jE.same (i:=4) (v:=.slice none 0 0) rfl;have d5:=jE.same (i:=5) (v:=.slice none 0 0) rfl;go_wp2
  refine bodyPost_ret (v:=.tuple #[qK,.slice none 0 0,.int .i64 9]) ?_ rfl ⟨.inl ⟨HL.o,rfl⟩,dh.o.trans (tD.below (by simp) dh.o.size)⟩;rw[fW rfl];go_simp
 .obtain⟨W,hW⟩:=ex1 (w1.alloc (.cells #[.int .i64 b.ac,.int .i64 b.places,.slice a2 b.parts.length c2,.slice a3 b.apart.length c3,.slice a4 b.aa.length c4,.slice a (aq b ag).length c] 93));have B2:=bnew hW;have tD:=knew hW;have DE:Hid (Below w1.heap.size w1 W):=tD.below (by simp) (zAC _);have gm:=dh.t DE.o;have jE:=tD.box HR1.o (by simp);have hC:=tC W b _ _ _ _ (aq b ag) (HB.o.later (Kp.of gm.o)) HV.o (oR.later (Kp.of DE.o)) hL (mC HV.o ag);have Ov:Hid (bB 5 W (.slice a (aq b ag).length c) (aq b ag)):=oR.later (Kp.of DE.o);have z0:=B2.o.cell 0 rfl;have z1:=B2.o.cell 1 rfl;have z2:=B2.o.cell 2 rfl;have z3:=B2.o.cell 3 rfl;have z4:=B2.o.cell 4 rfl;have z5:=B2.o.cell 5 rfl;have HL:=hid hL;have Tm:=hid gp;clear hL oR gp;go_wp2_with fail
  refine hC.mono ?_;rintro e w2 ⟨⟨vs,rfl,zy,NP⟩,fJ⟩;obtain⟨sa,sc,rfl,_,_⟩:=zy.slice;have qY:(aS b (aq b ag)).length<=(aB b).length:=zDP _ _;have fL:=gm.t fJ;have HVS:=hid zy;have zdF:Hid (bB 5 w2 (.slice a (aq b ag).length c) (aq b ag)):=Ov.o.later (Kp.of fJ);have m7:aA w2 (w.heap.size+1) 93 #[.int .i64 0,.int .i64 0,.slice none 0 0,.slice none 0 0,.slice none 0 0,.slice none 0 0]:=jE.below fJ jE.lt;have tE:=hidb B2 fJ;have zdG:=hid NP;have HsW:Hid (A2.heap.size<=W.heap.size):=(zAP (by rw[gV];omega) tD.size:A2.heap.size<=W.heap.size)
  clear fJ zy hC z0 z1 z2 z3 z4 z5 hW jE NP;by_cases h0:aS b (aq b ag)=[]
  .have HS:=hid h0;rw[h0];simp only[zCO];have jE:=m7;have t0:=jE.cell 0 rfl;have t1:=jE.cell 1 rfl;have t2:=jE.cell 2 rfl;have t3:=jE.cell 3 rfl;have t4:=jE.cell 4 rfl;have t5:=jE.cell 5 rfl;have f0:=jE.aL 0;have f1:=jE.aL 1;have f2:=jE.aL 2;have f3:=jE.aL 3;have f4:=jE.aL 4;have f5:=jE.aL 5;have d0:=jE.same (i:=0) (v:=.int .i64 0) rfl;have d1:=jE.same (i:=1) (v:=.int .i64 0) rfl;have d2:=jE.same (i:=2) (v:=.slice none 0 0) rfl;have d3:=jE.same (i:=3) (v:=.slice none 0 0) rfl;have d4:=jE.same (i:=4) (v:=.slice none 0 0) rfl;have d5:=jE.same (i:=5) (v:=.slice none 0 0) rfl;go_wp2
   refine bodyPost_ret (v:=.tuple #[qK,.slice none 0 0,.int .i64 8]) ?_ rfl ⟨.inr (.inl ⟨HL.o,HS.o,rfl⟩),fL.o⟩;rw[fW rfl];go_simp
  .have HS:=hid h0;have gi:0<(aS b (aq b ag)).length:=zCW.2 h0;obtain⟨ln,XT⟩:=ex1 ((aS b (aq b ag)).length);have KO:=hid XT;rw[XT]at gi qY⊢;have yS:¬((ln:Int)=0):=by omega
   have zu:((ln:Int)==0)=false:=by simp;omega
   have zdH:Hid (aA w2 (w.heap.size+1) 93 #[.int .i64 0,.int .i64 0,.slice none 0 0,.slice none 0 0,.slice none 0 0,.slice none 0 0]):=m7;have zj4:w1.heap.size<w2.heap.size:=tE.o.lt;have t0:=m7.cell 0 rfl;have t1:=m7.cell 1 rfl;have t2:=m7.cell 2 rfl;have t3:=m7.cell 3 rfl;have t4:=m7.cell 4 rfl;have t5:=m7.cell 5 rfl;have f0:=m7.aL 0;have f1:=m7.aL 1;have f2:=m7.aL 2;have f3:=m7.aL 3;have f4:=m7.aL 4;have f5:=m7.aL 5;have s0:=tE.o.cell 0 rfl;have s1:=tE.o.cell 1 rfl;have s2:=tE.o.cell 2 rfl;have s3:=tE.o.cell 3 rfl;have s4:=tE.o.cell 4 rfl;have s5:=tE.o.cell 5 rfl;clear m7 h0 XT;go_wp2
   obtain⟨WF,jK⟩:∃W,((((((w2.setCell ⟨w.heap.size+1,0,none⟩ (.int .i64 b.ac)).setCell ⟨w.heap.size+1,1,none⟩ (.int .i64 b.places)).setCell ⟨w.heap.size+1,2,none⟩ (.slice a2 b.parts.length c2)).setCell
    ⟨w.heap.size+1,3,none⟩ (.slice a3 b.apart.length c3)).setCell ⟨w.heap.size+1,4,none⟩ (.slice a4 b.aa.length c4)).setCell ⟨w.heap.size+1,5,none⟩ (.slice a (aq b ag).length c))=W:=⟨_,rfl⟩
   obtain⟨iw,rQ⟩:=ym (.int .i64 b.ac) (.int .i64 b.places) (.slice a2 b.parts.length c2) (.slice a3 b.apart.length c3) (.slice a4 b.aa.length c4) (.slice a (aq b ag).length c) zdH.out;rw[jK]at iw rQ⊢;have tA:Below w.heap.size w WF:=fL.o.trans (rQ.below (by simp) fL.o.size);have q0:=iw.cell 0 rfl;have q1:=iw.cell 1 rfl;have q2:=iw.cell 2 rfl;have q3:=iw.cell 3 rfl;have q4:=iw.cell 4 rfl;have q5:=iw.cell 5 rfl;have hsW:=HsW.o;have yc:=Tm.o;have hfb:=zdG.o;have hva:=zdF.o;have hvb:=HVS.o;rw[KO.o]at hfb hvb
   refine bodyPost_ret (v:=.tuple #[DC b (.slice a2 b.parts.length c2) (.slice a3 b.apart.length c3) (.slice a4 b.aa.length c4) (.slice a (aq b ag).length c),.slice sa ln sc,.int .i64 0]) ?_ rfl
    ⟨.inr (.inr ⟨HL.o,HS.o,a,c,_,rfl,?_,?_,yc.le (by omega),hfb.le (by omega)⟩),tA⟩
   .rw[fW rfl];go_simp
   .exact hva.on λk hk az=>by
     have h1:=yc k hk;exact rQ.block k az (by simp;omega)
   .exact hvb.on λk hk az=>by
     have h1:=hfb k hk;exact rQ.block k az (by simp;omega)
def dY (N:Nat) (m:Nat->Int):List Int:=(List.range N).map m
theorem AV (hN:N<=4) (h:aA w g 107 (bP m)):am w (.slice (some ⟨g,0,none⟩) N 4) (dY N m):=by
 have hl:(dY N m).length=N:=by simp[dY]
 refine⟨_,4,⟨by rw[hl],by rw[hl];exact hN,by unfold maxLen;omega,(λh=>by cases h),λb e=>.inr ⟨bP m,107,(0,0),by cases e;exact h⟩⟩,λb e j x hj=>?_⟩;cases e;have ou:j<N:=by have:=(zAK.1 hj).1;rwa [hl]at this
 have hx:x=m j:=by
  unfold dY at hj;rw[zCV,List.getElem?_range ou]at hj;simpa using hj.symm
 subst hx;refine⟨rfl,?_⟩;show w.cell? ⟨g,0+j,none⟩=_;rw[zDG];exact h.cell j (gR (by omega) m)
theorem GU {w':World} {blk off:Nat} (h:∀r,r<s->At w ⟨blk,off,none⟩ (k*s+r) (.int .i64 (t r))) (hk:Kp w w'):∀r,r<s->w'.cell? ⟨blk,off+k*s+r,none⟩=some (.int .i64 (t r)):=λr hr=>by
 have:=((h r hr).later hk).2;rwa [<-zBE]at this
theorem fX {B:Nat} {e:TypeId} {xs:List Value} (h:w.ownsRow B e s v n xs) (hn:0<n):∃g cap,v=.slice (some ⟨g,0,none⟩) n cap/\B<=g/\g<w.heap.size/\cap<=maxLen/\n<=cap:=by
 obtain⟨_,⟨_,h0⟩|⟨g,cap,cur,rfl,hb,hg,hle,i9,_⟩⟩:=h
 .omega
 .exact⟨g,cap,rfl,hb,(zAD.1 hg).1,i9,hle⟩
theorem ar.Fg {x y:Int} {v2 v3 v4:Value} (h:ar w (.agg #[.int .i64 x,.int .i64 y,v2,v3,v4]) b):bM w v2 b.parts:=by
 obtain⟨_,_,_,e,h2,h3,_⟩:=h;simp only[Value.agg.injEq,zBU,zBR,zCB,zDB]at e;obtain⟨_,_,rfl,_,_⟩:=e;exact h2
theorem bM.first {a:Option Addr} {c:Nat} {l:List Part} (h:bM w (.slice a n c) l) (hl:0<l.length):∃blk off,a=some ⟨blk,off,none⟩:=by
 obtain⟨a',c',h1,h2⟩:=h;have e:=h1.eq;simp only[Value.slice.injEq]at e;obtain⟨rfl,_,rfl⟩:=e;obtain⟨⟨blk,off,sp⟩,x,rfl,hx,x0,_⟩:=h1.elem h2 (k:=0) hl;obtain rfl:sp=none:=x0.1;exact⟨blk,off,rfl⟩
end Go.Proofs.Cz
