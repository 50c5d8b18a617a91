/- A part. Conditions: none. -/
import Derived.Test.YtddlcmejelobdaaGreatDoorT33
import Derived.Laws.ResultCell
set_option linter.all false
set_option maxHeartbeats 8000000
set_option maxRecDepth 100000
noncomputable section
namespace Go.Proofs.Cz
open Go.RowKit
variable {L S l:List (Nat->Int)} {N g k s:Nat} {b:aj} {m t t0:Nat->Int} {p:Int} {v:fu} {w:nq}
def DS (w:nq) (a b c d e:fu):Calls ZP 52 #[.agg #[a,b,c,d,e]] w (cg w (.int .i64 0)):=by
 go_enter ZF52,Tryz.ntmps52
 go_wp2
 go_ret;exact⟨rfl,(ab.alloc [] w _).below (by simp) (zAA _)⟩
abbrev GK (b:aj) (v2 v3 v4 v5:fu):fu:=.agg #[.int .i64 b.aB,.int .i64 b.aq,v2,v3,v4,v5]
abbrev js:fu:=.agg #[.int .i64 0,.int .i64 0,.slice none 0 0,.slice none 0 0,.slice none 0 0,.slice none 0 0]
def Xt {W:nq} {t:Nat} {c0 c1 c2 c3 c4 c5:fu} (v0 v1 v2 v3 v4 v5:fu) (h:aL W g t #[c0,c1,c2,c3,c4,c5]):
 aL ((((((W.setCell ⟨g,0,none⟩ v0).setCell ⟨g,1,none⟩ v1).setCell ⟨g,2,none⟩ v2).setCell ⟨g,3,none⟩ v3).setCell ⟨g,4,none⟩ v4).setCell ⟨g,5,none⟩ v5) g t #[v0,v1,v2,v3,v4,v5]/\
 ab [g] W ((((((W.setCell ⟨g,0,none⟩ v0).setCell ⟨g,1,none⟩ v1).setCell ⟨g,2,none⟩ v2).setCell ⟨g,3,none⟩ v3).setCell ⟨g,4,none⟩ v4).setCell ⟨g,5,none⟩ v5):=
 ⟨(((((h.set 0 v0).set 1 v1).set 2 v2).set 3 v3).set 4 v4).set 5 v5,
  (((((ab.set W (by simp) v0).trans' (ab.set _ (by simp) v1)).trans' (ab.set _ (by simp) v2)).trans' (ab.set _ (by simp) v3)).trans' (ab.set _ (by simp) v4)).trans' (ab.set _ (by simp) v5)⟩
def Uq (w:nq) (b:aj) (v2 v3 v4:fu) (L:List (Nat->Int)) (e:Ending) (w':nq):Prop:=
 ((L=[]/\e=.returned (.tuple #[js,.int .i64 9]))\/
  (L≠ []/\∃a c,e=.returned (.tuple #[GK b v2 v3 v4 (.slice a L.length c),.int .i64 0])/\bX 5 w' (.slice a L.length c) L/\nV w (.slice a L.length c)))/\
 Below w.heap.size w w'
def KP (f:Nat) (hf:∀(args:Array fu) (w:nq),Sem.run ZP (Go.callFunc f args) w=.ok (.enter f args) w) (w:nq) (b:aj) (v:fu) (a2:Option Addr) (c2:Nat) (v3 v4:fu) (ag:(Nat->Int)->Bool) (YR:v=.agg #[.int .i64 b.aB,.int .i64 b.aq,.slice a2 b.ptz.length c2,v3,v4]) (hb:az w v b) (hv:Valid b) (hc:rz w)
 (cs:Array fu) (nL:∀X t,Below w.heap.size w X->Calls ZP 135 #[v,.agg (tick t)] X (cg X (.bool (ag t))))
 (cq:∀X,Below w.heap.size w X->Calls ZP f (#[v]++cs) X (cg X (.int .i64 0))):
 Calls ZP 51 #[v,.func (.func f) #[] cs] w (Uq w b (.slice a2 b.ptz.length c2) v3 v4 (an b ag)):=by
 subst YR;have HB:=hid hb;have HV:=hid hv;obtain⟨_,_,_,BF,_,⟨a3,c3,⟨e3,_,_,_,_⟩,_⟩,⟨a4,c4,⟨e4,_,_,_,_⟩,_⟩⟩:=hb;simp only[Value.agg.injEq,zDC,zCQ,zCS,zER]at BF;obtain⟨rfl,rfl,rfl⟩:=BF;subst e3 e4;obtain⟨A1,aZ⟩:∃A,w.alloc (.cells (bx b a2 c2 a3 c3 a4 c4) 26)=A:=⟨_,rfl⟩
 obtain⟨A2,cL⟩:∃A,A1.alloc (.cells #[.int .i64 0,.int .i64 0,.slice none 0 0,.slice none 0 0,.slice none 0 0,.slice none 0 0] 81)=A:=⟨_,rfl⟩
 have gE:A1.heap.size=w.heap.size+1:=by rw[<-aZ];simp
 have ng:A2.heap.size=w.heap.size+2:=by rw[<-cL];simp[gE]
 have GL:Hid (aL A2 w.heap.size 26 (bx b a2 c2 a3 c3 a4 c4)):=by
  rw[<-cL];refine(ab.alloc [] _ _).box ?_ (by simp);rw[<-aZ];exact aL.new _ _ _
 have PH:Hid (aL A2 (w.heap.size+1) 81 #[.int .i64 0,.int .i64 0,.slice none 0 0,.slice none 0 0,.slice none 0 0,.slice none 0 0]):=by rw[<-cL,<-gE];exact aL.new _ _ _
 have zh:Hid (Below w.heap.size w A2):=by rw[<-cL,<-aZ];exact((ab.alloc [] _ _).fG _).below (by simp) (zAA _)
 have HC:=hid hc;have KQ:=hid nL;have z0:=GL.out.cell 0 rfl;have z1:=GL.out.cell 1 rfl;have z2:=GL.out.cell 2 rfl;have z3:=GL.out.cell 3 rfl;have z4:=GL.out.cell 4 rfl;have Sg:=hid cq;go_enter ZF51,Tryz.ntmps51
 go_wp2_with fail
 refine(GC A2 _ b (HB.out.later (Kp.of zh.out)) HV.out (HC.out.later zh.out)).mono ?_;rintro e w1 ⟨⟨r,rfl,rfl⟩,bJ⟩;have cO:=hid bJ;have z0:=(GL.out.below cO.out GL.out.lt).cell 0 rfl;have z1:=(GL.out.below cO.out GL.out.lt).cell 1 rfl;have z2:=(GL.out.below cO.out GL.out.lt).cell 2 rfl;have z3:=(GL.out.below cO.out GL.out.lt).cell 3 rfl;have z4:=(GL.out.below cO.out GL.out.lt).cell 4 rfl;go_wp2_with fail
 obtain⟨A4,xV⟩:∃A,w1.alloc (.cells (bx b a2 c2 a3 c3 a4 c4) 78)=A:=⟨_,rfl⟩
 rw[xV];have hs4:A4.heap.size=w1.heap.size+1:=by rw[<-xV];simp
 have L0:Hid (aL A4 w1.heap.size 78 (bx b a2 c2 a3 c3 a4 c4)):=by rw[<-xV];exact aL.new _ _ _
 have HK4:Hid (Below A2.heap.size A2 A4):=by rw[<-xV];exact cO.out.alloc cO.out.size _
 refine(Sg.out A4 (zh.out.trans (HK4.out.mono zh.out.size))).mono ?_;rintro e w2 ⟨rfl,ib⟩;have eu:=hid ib;have z0:=(L0.out.below eu.out L0.out.lt).cell 0 rfl;have z1:=(L0.out.below eu.out L0.out.lt).cell 1 rfl;have z2:=(L0.out.below eu.out L0.out.lt).cell 2 rfl;have z3:=(L0.out.below eu.out L0.out.lt).cell 3 rfl;have z4:=(L0.out.below eu.out L0.out.lt).cell 4 rfl;have rT:=hid (HK4.out.trans (eu.out.mono HK4.out.size));have HKw:=hid (zh.out.trans (rT.out.mono zh.out.size));go_wp2_with fail
 refine(Sd w2 b a2 c2 _ _ ag (HB.out.later (Kp.of HKw.out)) HV.out (λX t hX=>KQ.out X t (HKw.out.trans (hX.mono HKw.out.size)))).mono ?_;rintro e w3 ⟨⟨v5,rfl,hv5⟩,Oy⟩
 have HV5:Hid (∀W',ab [w.heap.size+1] w3 W'->bX 5 W' v5 (an b ag)):=λW' hk=>bX.bY Ow Se (aR hv5 λk e=>by
  have h1:=av hv5 k e;have h2:=rT.out.size;refine hk.block k h1.2 ?_;simp;omega)
 have I7:=hid (nV.of hv5 HKw.out.size);have gJ:=hid Oy;have EX:=hid (rT.out.trans (gJ.out.mono rT.out.size));have qf:=hid (PH.out.below EX.out PH.out.lt);have L5:=hid (L0.out.below (eu.out.trans (gJ.out.mono eu.out.size)) L0.out.lt);have Sh:=hid (zh.out.trans (EX.out.mono zh.out.size));obtain⟨a5,c5,rfl⟩:=iV hv5;have z0:=L5.out.cell 0 rfl;have z1:=L5.out.cell 1 rfl;have z2:=L5.out.cell 2 rfl;have z3:=L5.out.cell 3 rfl;have z4:=L5.out.cell 4 rfl;have f0:=qf.out.aH 0;have f1:=qf.out.aH 1;have f2:=qf.out.aH 2;have f3:=qf.out.aH 3;have f4:=qf.out.aH 4;have f5:=qf.out.aH 5;have t0:=qf.out.cell 0 rfl;have t1:=qf.out.cell 1 rfl;have t2:=qf.out.cell 2 rfl;have t3:=qf.out.cell 3 rfl;have t4:=qf.out.cell 4 rfl;have t5:=qf.out.cell 5 rfl;have hlen:=DQ HV.out ag;by_cases h0:(eY ag b.ptz b.ptz.length 0 (λ_=>0))=[]
 .have Xu:Hid (an b ag=[]):=h0;rw[h0]at*;simp only[zCL];go_wp2_with fail
  obtain⟨WF,oY⟩:∃W,((((((w3.setCell ⟨w.heap.size+1,0,none⟩ (.int .i64 0)).setCell ⟨w.heap.size+1,1,none⟩ (.int .i64 0)).setCell ⟨w.heap.size+1,2,none⟩ (.slice none 0 0)).setCell
   ⟨w.heap.size+1,3,none⟩ (.slice none 0 0)).setCell ⟨w.heap.size+1,4,none⟩ (.slice none 0 0)).setCell ⟨w.heap.size+1,5,none⟩ (.slice none 0 0))=W:=⟨_,rfl⟩
  obtain⟨ke,sC⟩:=Xt (.int .i64 0) (.int .i64 0) (.slice none 0 0) (.slice none 0 0) (.slice none 0 0) (.slice none 0 0) qf.out;rw[oY]at ke sC⊢;have j9:Below w.heap.size w WF:=Sh.out.trans (sC.below (by simp) Sh.out.size);have q0:=ke.cell 0 rfl;have q1:=ke.cell 1 rfl;have q2:=ke.cell 2 rfl;have q3:=ke.cell 3 rfl;have q4:=ke.cell 4 rfl;have q5:=ke.cell 5 rfl;refine bodyPost_ret (v:=.tuple #[js,.int .i64 9]) ?_ rfl ⟨.inl ⟨Xu.out,rfl⟩,j9⟩;rw[results_cell_tmp rfl];go_simp
 .have gC:=zCY.2 h0;have Xu:=hid h0;generalize hgl:(eY ag b.ptz b.ptz.length 0 (λ_=>0)).length=ln at*;have YS:¬((ln:Int)=0):=by omega
  have zn2:((ln:Int)==0)=false:=by simp;omega
  go_wp2_with fail
  obtain⟨WF,oY⟩:∃W,((((((w3.setCell ⟨w.heap.size+1,0,none⟩ (.int .i64 b.aB)).setCell ⟨w.heap.size+1,1,none⟩ (.int .i64 b.aq)).setCell ⟨w.heap.size+1,2,none⟩ (.slice a2 b.ptz.length c2)).setCell
   ⟨w.heap.size+1,3,none⟩ (.slice a3 b.cj.length c3)).setCell ⟨w.heap.size+1,4,none⟩ (.slice a4 b.cR.length c4)).setCell ⟨w.heap.size+1,5,none⟩ (.slice a5 ln c5))=W:=⟨_,rfl⟩
  obtain⟨ke,sC⟩:=Xt (.int .i64 b.aB) (.int .i64 b.aq) (.slice a2 b.ptz.length c2) (.slice a3 b.cj.length c3) (.slice a4 b.cR.length c4) (.slice a5 ln c5) qf.out;rw[oY]at ke sC⊢;have j9:=Sh.out.trans (sC.below (by simp) Sh.out.size);have q0:=ke.cell 0 rfl;have q1:=ke.cell 1 rfl;have q2:=ke.cell 2 rfl;have q3:=ke.cell 3 rfl;have q4:=ke.cell 4 rfl;have q5:=ke.cell 5 rfl;refine bodyPost_ret (v:=.tuple #[GK b (.slice a2 b.ptz.length c2) (.slice a3 b.cj.length c3) (.slice a4 b.cR.length c4) (.slice a5 ln c5),.int .i64 0]) ?_ rfl ⟨.inr ⟨Xu.out,a5,c5,by rw[hgl],by rw[hgl];exact HV5.out WF sC,by rw[hgl];exact I7.out⟩,j9⟩;rw[results_cell_tmp rfl];go_simp
def DT (w:nq) (b:aj) (v:fu) (a2:Option Addr) (c2:Nat) (v3 v4:fu) (ag:(Nat->Int)->Bool) (YR:v=.agg #[.int .i64 b.aB,.int .i64 b.aq,.slice a2 b.ptz.length c2,v3,v4]) (hb:az w v b) (hv:Valid b) (hc:rz w)
 (nL:∀X t,Below w.heap.size w X->Calls ZP 135 #[v,.agg (tick t)] X (cg X (.bool (ag t)))):
 Calls ZP 51 #[v,.func (.func 52) #[] #[]] w (Uq w b (.slice a2 b.ptz.length c2) v3 v4 (an b ag)):=
 KP 52 ZC52 w b v a2 c2 v3 v4 ag YR hb hv hc #[] nL λX _=>by subst YR;exact DS X _ _ _ _ _
def du (m:Nat->Int) (N:Nat) (t0:Nat->Int) (L:List (Nat->Int)):Int:=L.foldl (λa t=>min a (br m t N)) (br m t0 N)
def dv (m:Nat->Int) (N:Nat) (t0:Nat->Int) (L:List (Nat->Int)):Int:=L.foldl (λa t=>max a (br m t N)) (br m t0 N)
def ir (N:Nat) (L:List (Nat->Int)) (m:Nat->Int):Int:=dv m N (L.headD λ_=>0) L.tail
def wD (N:Nat) (L:List (Nat->Int)) (m:Nat->Int):Int:=du m N (L.headD λ_=>0) L.tail
def DU (m:Nat->Int) (N:Nat) (t0 t:Nat->Int) (L:List (Nat->Int)):dv m N t0 (L++[t])=max (dv m N t0 L) (br m t N):=by simp[dv]
def DV (m:Nat->Int) (N:Nat) (t0 t:Nat->Int) (L:List (Nat->Int)):du m N t0 (L++[t])=min (du m N t0 L) (br m t N):=by simp[du]
def ar (b:aj) (L:List (Nat->Int)):List (Nat->Int):=(bq b).filter λm=>decide (ir b.aq.toNat L m<=b.aB)
def bare (l:List Part) (i:Nat):List Part:=match l[i]? with|some x=>l.set i {x with fits:=[]}|none=>l
def tC (h:l[k]?=some t):dv m N t0 (l.take (k+1))=max (dv m N t0 (l.take k)) (br m t N):=by
 rw[zAX,h];exact DU ..
def tD (h:l[k]?=some t):du m N t0 (l.take (k+1))=min (du m N t0 (l.take k)) (br m t N):=by
 rw[zAX,h];exact DV ..
def sD (w:nq) (v2 v3 v4 v5:fu) (b:aj) (N:Nat) (hN:b.aq=N) (nU:N<=4) (L:List (Nat->Int)) (hL:bX 5 w v5 L) (bu:L≠ []) (m:Nat->Int) (hm:∀i,0<=m i/\m i<5) (ht:∀t∈L,∀i,0<=t i/\t i<=20):
 Calls ZP 62 #[GK b v2 v3 v4 v5,.agg (bZ m)] w (cg w (.agg #[.int .i64 (wD N L m),.int .i64 (ir N L m)])):=by
 obtain⟨t0,l,rfl⟩:∃t0 l,L=t0::l:=by cases L with
  |nil=>exact absurd rfl bu
  |cons a l=>exact⟨a,l,rfl⟩
 have HL:=hid hL;have HT:=hid ht;have HM:=hid hm;have HN:=hid hN;obtain⟨a,cap,hs,he⟩:=hL;obtain⟨⟨blk,off,sp⟩,t1,rfl,hx,q7⟩:=hs.elem he (k:=0) (by simp);simp at hx;subst hx;obtain rfl:sp=none:=(q7 0 (by omega)).1;have HE:Hid (bi w v5 (t0::l).length (some ⟨blk,off,none⟩) cap/\_):=⟨hs,he⟩
 obtain⟨rfl,hle,jI,_,_⟩:=hs;unfold maxLen at jI;clear ht hm bu;obtain⟨A1,aZ⟩:=ex1 (w.alloc (.cells #[.int .i64 b.aB,.int .i64 b.aq,v2,v3,v4,.slice (some ⟨blk,off,none⟩) (t0::l).length cap] 81));obtain⟨A2,cL⟩:=ex1 (A1.alloc (.cells (bZ m) 94));obtain⟨A3,jr⟩:=ex1 (A2.alloc (.cells #[.int .i64 0,.int .i64 0] 34));have gE:=snew aZ;have ng:=snew2 cL gE;have If:=snew2 jr ng
 have B1:Hid (aL A3 w.heap.size 81 #[.int .i64 b.aB,.int .i64 b.aq,v2,v3,v4,.slice (some ⟨blk,off,none⟩) (t0::l).length cap]):=by
  rw[<-jr];refine(ab.alloc [] _ _).box ?_ (by simp);rw[<-cL];refine(ab.alloc [] _ _).box ?_ (by simp);rw[<-aZ];exact aL.new _ _ _
 have B2:Hid (aL A3 (w.heap.size+1) 94 (bZ m)):=by
  rw[<-jr];refine(ab.alloc [] _ _).box ?_ (by simp);rw[<-cL,<-gE];exact aL.new _ _ _
 have B3:=bnew2 jr ng;have HW:=wnew3 aZ cL jr;obtain⟨z0,z1,z2,z3,z4,z5⟩:=B1.o.a6;obtain⟨y0,y1,y2,y3⟩:=B2.o.a4;have r0:∀X:ak A3,X.1.cell? ⟨blk,off,none⟩=some (.int .i64 (t0 0)):=λX=>X.cell (by simpa using((q7 0 (by omega)).later (Kp.of HW.o)).2);have r1:∀X:ak A3,X.1.cell? ⟨blk,off+1,none⟩=some (.int .i64 (t0 1)):=λX=>X.cell (by simpa using((q7 1 (by omega)).later (Kp.of HW.o)).2);have r2:∀X:ak A3,X.1.cell? ⟨blk,off+2,none⟩=some (.int .i64 (t0 2)):=λX=>X.cell (by simpa using((q7 2 (by omega)).later (Kp.of HW.o)).2);have r3:∀X:ak A3,X.1.cell? ⟨blk,off+3,none⟩=some (.int .i64 (t0 3)):=λX=>X.cell (by simpa using((q7 3 (by omega)).later (Kp.of HW.o)).2);have r4:∀X:ak A3,X.1.cell? ⟨blk,off+4,none⟩=some (.int .i64 (t0 4)):=λX=>X.cell (by simpa using((q7 4 (by omega)).later (Kp.of HW.o)).2)
 have oX:∀X:ak A3,Calls ZP 117 #[.agg #[.int .i64 b.aB,.int .i64 b.aq,v2,v3,v4],.agg (bZ m),.agg (tick t0)] X.1 (λe iL=>e=.returned (.int .i64 (br m t0 N))/\∃Y:ak A3,iL=Y.1):=λX=>
  (DO X.1 v2 v3 v4 b N HN.o nU m t0 (λi _=>HM.o i) (HT.o t0 (by simp))).mono λe w' h=>⟨h.1,X.on h.2⟩
 simp only[bZ,tick]at cL oX⊢;simp only[zBV]at aZ z5 hle⊢;have uF:((l.length+1:Nat):Int)=(l.length:Int)+1:=by omega
 clear q7 he hN;go_enter ZF62,Tryz.ntmps62
 go_wp2_with fail
 refine ae (by kernel_rfl) (by kernel_rfl) ?_;repeat(go_big_quiet_step (first|(go_at_call 117;exact oX _)))
 refine wpQuiet_nil ?_;rintro _ ⟨X,rfl⟩;have Ur:=HW.t X.2;obtain⟨W,hW⟩:=ex1 (X.1);rw[hW];have HK:Hid (Below A3.heap.size A3 W):=by rw[<-hW];exact X.2
 obtain⟨W1,KI⟩:=ex1 (W.alloc (.cells #[.int .i64 (br m t0 N),.int .i64 (br m t0 N)] 34));have x5:W.cell? ⟨w.heap.size,5,none⟩=some (.slice (some ⟨blk,off,none⟩) (l.length+1) cap):=by rw[<-hW];exact z5 X
 have x5':W1.cell? ⟨w.heap.size,5,none⟩=some (.slice (some ⟨blk,off,none⟩) (l.length+1) cap):=by
  rw[<-KI];exact(fM (by have:=HK.o.size;show w.heap.size<_;omega) _).trans x5
 rw[hW]at Ur;by_cases hc1:cap=1
 .have Si:l=[]:=zBO (by omega);subst Si;have q0:W1.cell? ⟨W.heap.size,0,none⟩=some (.int .i64 (br m t0 N)):=by rw[<-KI];exact(aL.new W 34 _).cell 0 rfl
  have q1:W1.cell? ⟨W.heap.size,1,none⟩=some (.int .i64 (br m t0 N)):=by rw[<-KI];exact(aL.new W 34 _).cell 1 rfl
  go_wp2_with fail
  go_loopw [24] (λi wr=>i=.int .i64 0/\Hid (aL wr W.heap.size 34 #[.int .i64 (du m N t0 []),.int .i64 (dv m N t0 [])])/\Hid (ab [W.heap.size] W wr)) (λ_ _=>0)
  case atStart=>exact⟨rfl,by rw[<-KI];exact aL.new W 34 _,by rw[<-KI];exact ab.alloc _ _ _⟩
  case round=>
   obtain⟨rfl,zi,rC⟩:=hrel;have mV:=rC.o.box ((ab.of (O:=[]) HK.o).box B3.o (by simp)) (by have:=HK.o.size;simp;omega);have p0:=mV.cell 0 rfl;have p1:=mV.cell 1 rfl;have p2:=mV.aH 0;have p3:=mV.aH 1;have q0:=zi.o.cell 0 rfl;have q1:=zi.o.cell 1 rfl;go_wp2
   obtain⟨WF,oY⟩:=ex1 ((wr.setCell ⟨w.heap.size+1+1,0,none⟩ (.int .i64 (du m N t0 []))).setCell ⟨w.heap.size+1+1,1,none⟩ (.int .i64 (dv m N t0 [])));have ke:aL WF (w.heap.size+1+1) 34 #[.int .i64 (du m N t0 []),.int .i64 (dv m N t0 [])]:=by rw[<-oY];exact(mV.set 0 _).set 1 _
   have sC:ab [w.heap.size+1+1] wr WF:=by rw[<-oY];exact(ab.set wr (by simp) _).trans' (ab.set _ (by simp) _)
   have j9:=Ur.o.trans ((rC.o.below (by have:=HK.o.size;simp;omega) Ur.o.size).trans (sC.below (by simp;omega) (by have:=rC.o.size;have:=Ur.o.size;omega)));have u0:=ke.cell 0 rfl;have u1:=ke.cell 1 rfl;rw[oY];refine bodyPost_ret (v:=.agg #[.int .i64 (wD N (t0:: []) m),.int .i64 (ir N (t0:: []) m)]) ?_ rfl ⟨rfl,j9⟩;rw[fO rfl];go_simp;exact⟨rfl,rfl⟩
 .go_wp2_with fail
  go_loopw [24] (λi wr=>∃k:Nat,k<=l.length/\i=.int .i64 k/\Hid (aL wr W.heap.size 34 #[.int .i64 (du m N t0 (l.take k)),.int .i64 (dv m N t0 (l.take k))])/\Hid (ab [W.heap.size] W wr)) (λi _=>l.length-(intOf i).toNat)
  case atStart=>exact⟨0,zAJ _,rfl,by rw[<-KI];exact aL.new W 34 _,by rw[<-KI];exact ab.alloc _ _ _⟩
  case round=>
   obtain⟨k,hk,rfl,zi,rC⟩:=hrel;by_cases au:k<l.length
   .have hx:l[k]?=some l[k]:=zAI au;obtain⟨t,htt⟩:=ex1 (l[k]);rw[htt]at hx
    have bm:∀r,r<5->wr.cell? ⟨blk,off+5+k*5+r,none⟩=some (.int .i64 (t r)):=λr hr=>by
     have h1:=(HE.o.2 _ rfl (k+1) t (by simpa using hx) r hr)
     have h2:=h1.later (Kp.of Ur.o);have h3:=h2.lt;have h4:=h2.2;rw[show off+5+k*5+r=off+((k+1)*5+r) by omega];exact(World.cell?_of_block (w:=W) (a:=⟨blk,off+((k+1)*5+r),none⟩) (rC.o.block blk h3 (by simp at h3⊢;omega))).trans h4
    have r0:=bm 0 (by omega);have r1:=bm 1 (by omega);have r2:=bm 2 (by omega);have r3:=bm 3 (by omega);have r4:=bm 4 (by omega);simp only[zCH]at r0;have HX:=hid hx
    have hWg:∀(g tt:Nat) (cs:Array fu),g<A3.heap.size->aL A3 g tt cs->aL wr g tt cs:=λg tt cs hg h=>
     rC.o.box ((ab.of (O:=[]) HK.o).box h (by simp)) (by have:=HK.o.size;simp;omega)
    have BW1:=hWg _ _ _ (by omega) B1.o;have BW2:=hWg _ _ _ (by omega) B2.o;obtain⟨wt,uM⟩:=ex1 (wr.alloc (.cells (tick t) 130));have Us:=knew uM;have HBt:=hid (Us.box zi.o (by simp));have YT:=hid (rC.o.trans (O':=[]) Us (by simp));have BT1:=Us.box BW1 (by simp);have BT2:=Us.box BW2 (by simp);obtain⟨s0,s1,s2,s3,s4⟩:=BT1.c5;obtain⟨y0,y1,y2,y3⟩:=BT2.c4;have BX:=aL.new wr 130 (tick t);rw[uM]at BX;obtain⟨e0,e1,e2,e3,e4⟩:=BX.c5;have hC:=DO wt v2 v3 v4 b N HN.o nU m t (λi _=>HM.o i) (HT.o t (by have:=zAT HX.o;simp[this]));simp only[bZ,tick]at hC uM;have kE:(k:Int)<(l.length:Int):=by omega
    have zf:=hid au;go_wp2_with fail
    refine hC.mono ?_;rintro e w2 ⟨rfl,ib⟩;have eu:=hid (YT.o.trans (O':=[]) (ab.of ib) (by simp));have oL:=hid ((ab.of (O:=[]) ib).box HBt.o (by simp));have q0:=oL.o.cell 0 rfl;have q1:=oL.o.cell 1 rfl;have g0:=oL.o.aH 0;have g1:=oL.o.aH 1;have HLo:=tD (m:=m) (N:=N) (t0:=t0) HX.o;have HHi:=tC (m:=m) (N:=N) (t0:=t0) HX.o;have Sj:Hid (du m N t0 (l.take (k+1))=min (du m N t0 (l.take k)) (br m t N)/\dv m N t0 (l.take (k+1))=max (dv m N t0 (l.take k)) (br m t N)):=⟨HLo,HHi⟩
    generalize du m N t0 (l.take k)=lo at*;generalize dv m N t0 (l.take k)=hi at*;generalize br m t N=tk at*;go_wp2
    have e1:(if tk<lo then tk else lo)=min lo tk:=by split<;>omega
    have e2:(if hi<tk then tk else hi)=max hi tk:=by split<;>omega
    have qu:=zf.o;rw[e1,e2];refine⟨⟨k+1,by omega,by go_num,?_,?_⟩,by simp[intOf];omega⟩
    .rw[Sj.o.1,Sj.o.2];exact(oL.o.set 0 _).set 1 _
    .exact eu.o.trans' ((ab.set _ (by simp) _).trans' (ab.set _ (by simp) _))
   .have e:k=l.length:=by omega
    subst e;rw[zBN]at zi;have mV:=rC.o.box ((ab.of (O:=[]) HK.o).box B3.o (by simp)) (by have:=HK.o.size;simp;omega);have p0:=mV.cell 0 rfl;have p1:=mV.cell 1 rfl;have p2:=mV.aH 0;have p3:=mV.aH 1;have q0:=zi.o.cell 0 rfl;have q1:=zi.o.cell 1 rfl;go_wp2
    obtain⟨WF,oY⟩:=ex1 ((wr.setCell ⟨w.heap.size+1+1,0,none⟩ (.int .i64 (du m N t0 l))).setCell ⟨w.heap.size+1+1,1,none⟩ (.int .i64 (dv m N t0 l)));have ke:aL WF (w.heap.size+1+1) 34 #[.int .i64 (du m N t0 l),.int .i64 (dv m N t0 l)]:=by rw[<-oY];exact(mV.set 0 _).set 1 _
    have sC:ab [w.heap.size+1+1] wr WF:=by rw[<-oY];exact(ab.set wr (by simp) _).trans' (ab.set _ (by simp) _)
    have j9:=Ur.o.trans ((rC.o.below (by have:=HK.o.size;simp;omega) Ur.o.size).trans (sC.below (by simp;omega) (by have:=rC.o.size;have:=Ur.o.size;omega)));have u0:=ke.cell 0 rfl;have u1:=ke.cell 1 rfl;rw[oY];refine bodyPost_ret (v:=.agg #[.int .i64 (wD N (t0::l) m),.int .i64 (ir N (t0::l) m)]) ?_ rfl ⟨rfl,j9⟩;rw[fO rfl];go_simp;exact⟨rfl,rfl⟩
def jD (w:nq) (a b:Int):(Instr.field 34 (.agg #[.int .i64 a,.int .i64 b]) 1).run ZP w=.ok (.int .i64 b) w:=by
 have u:=(Tz.under 34).trans Tryz.underlying34;have a3:=Tryz.isAgg3;have z3:=Tryz.sizeOf3;simp[Instr.field,run_underlying u,asAgg,part,go_sem,a3,z3]
def zbR (s:Nat) (w:nq) (L:List (Nat->Int)) (e:Ending) (w':nq):Prop:=(∃v,e=.returned v/\bX s w' v L/\nV w v)/\Below w.heap.size w w'
def fU (b:aj) (L:List (Nat->Int)) (k:Nat):List (Nat->Int):=((bq b).take k).filter λm=>decide (ir b.aq.toNat L m<=b.aB)
def GM (hx:(bq b)[k]?=some m) (h:ir b.aq.toNat L m<=b.aB):fU b L (k+1)=fU b L k++[m]:=by
 unfold fU;rw[zAX,hx,zCX];simp[h]
def KU (hx:(bq b)[k]?=some m) (h:¬ir b.aq.toNat L m<=b.aB):fU b L (k+1)=fU b L k:=by
 unfold fU;rw[zAX,hx,zCX];simp[h]
def GN (b:aj) (L:List (Nat->Int)) (k:Nat):(fU b L k).length<=k:=by
 unfold fU;exact zAM (zDE _ _) (by simp;omega)
def DW (w:nq) (b:aj) (v2 v3 v4 v5:fu) (L:List (Nat->Int)) (hb:az w (.agg #[.int .i64 b.aB,.int .i64 b.aq,v2,v3,v4]) b) (hv:Valid b) (hL:bX 5 w v5 L) (bu:L≠ []) (ht:∀t∈L,∀i,0<=t i/\t i<=20):
 Calls ZP 53 #[GK b v2 v3 v4 v5] w (zbR 4 w (ar b L)):=by
 have HB:=hid hb;have HV:=hid hv;have HL:=hid hL;have HT:Hid (L≠ []/\∀t∈L,∀i,0<=t i/\t i<=20):=⟨bu,ht⟩
 obtain⟨i0,hi,m9,kd,lO⟩:=info_parts Oq;obtain⟨A1,aZ⟩:=ex1 (w.alloc (.cells #[.int .i64 b.aB,.int .i64 b.aq,v2,v3,v4,v5] 81));have gE:=snew aZ;have B1:=bnew aZ;have HW:=wnew aZ;have z0:=B1.o.cell 0 rfl;have z1:=B1.o.cell 1 rfl;have z2:=B1.o.cell 2 rfl;have z3:=B1.o.cell 3 rfl;have z4:=B1.o.cell 4 rfl;go_enter ZF53,Tryz.ntmps53
 go_wp2_with fail
 refine(AW A1 _ b (HB.o.later (Kp.of HW.o)) HV.o).mono ?_;rintro e w1 ⟨⟨v8,rfl,hv8⟩,bJ⟩;have HM:=hid (bX.bY I5 Ox hv8);have cO:=hid bJ;have jd:=HW.t bJ;obtain⟨a8,c8,hs8,he8⟩:=HM.o;have HE:Hid (bi w1 v8 (bq b).length a8 c8/\_):=⟨hs8,he8⟩
 obtain⟨rfl,hle,jI,_,_⟩:=hs8;unfold maxLen at jI;have BU:=ju HV.o;obtain⟨nn,Ps⟩:=ex1 ((bq b).length);have uJ:=hid Ps;rw[Ps]at BU hle⊢;go_wp2_with fail
 go_loopw [10,3] (λi v wr=>∃k:Nat,k<=nn/\i=.int .i64 k/\Hid (wr.ownsRow w1.heap.size 94 4 v (fU b L k).length ((fU b L k).flatMap λm=>(bZ m).toList))/\Hid (Below w1.heap.size w1 wr)) (λi _ _=>nn-(intOf i).toNat)
 case atStart=>exact⟨0,zAJ _,rfl,World.ownsRow_nil _ _ _ _,Below.refl _ _⟩
 case round=>
  obtain⟨k,hk,rfl,hO,hB⟩:=hrel;by_cases au:k<nn
  .obtain⟨⟨blk,off,sp⟩,m,rfl,hx,q7⟩:=HE.o.1.elem HE.o.2 (k:=k) (by rw[uJ.o];exact au);obtain rfl:sp=none:=(q7 0 (by omega)).1;have bm:∀r,r<4->wr.cell? ⟨blk,off+(k*4+r),none⟩=some (.int .i64 (m r)):=λr hr=>((q7 r hr).later (Kp.of hB.o)).2;have r0:=bm 0 (by omega);have r1:=bm 1 (by omega);have r2:=bm 2 (by omega);have r3:=bm 3 (by omega);simp only[zCH,<-zBD]at r0 r1 r2 r3;have HX:=hid hx;have kE:(k:Int)<(nn:Int):=by omega
   have zf:=hid au;have wB:=jd.t hB.o;obtain⟨wt,uM⟩:=ex1 (wr.alloc (.cells (bZ m) 94));have cD:=snew uM;have YU:Hid (Below wr.heap.size wr wt):=by rw[<-uM];exact(Below.refl _ _).alloc (zAA _) _
   have BS:Hid (aL wt w.heap.size 81 #[.int .i64 b.aB,.int .i64 b.aq,v2,v3,v4,v5]):=
    ((B1.o.below cO.o B1.o.lt).below (hB.o.trans (YU.o.mono hB.o.size)) ((B1.o.below cO.o B1.o.lt).lt))
   have BM:=bnew uM;obtain⟨s0,s1,s2,s3,s4,s5⟩:=BS.o.a6;obtain⟨m0,m1,m2,m3⟩:=BM.o.a4
   have oX:∀X:ak wt,Calls ZP 62 #[GK b v2 v3 v4 v5,.agg (bZ m)] X.1 (λe iL=>e=.returned (.agg #[.int .i64 (wD b.aq.toNat L m),.int .i64 (ir b.aq.toNat L m)])/\∃Y:ak wt,iL=Y.1):=λX=>
    (sD X.1 v2 v3 v4 v5 b b.aq.toNat (by have:=HV.o.aq;omega) (by have:=HV.o.aq;omega) L (((HL.o.later (Kp.of wB.o)).later (Kp.of YU.o)).later X.kp) HT.o.1 m (nW HV.o m (zAT HX.o)) HT.o.2).mono λe w' h=>⟨h.1,X.on h.2⟩
   obtain⟨lo,tB⟩:=ex1 (wD b.aq.toNat L m);obtain⟨uV,A9⟩:∃x,ir b.aq.toNat L m=x:=⟨_,rfl⟩
   have Xv:=hid A9;rw[tB,A9]at oX;simp only[bZ]at oX uM;have YS:=GN b L k;by_cases hsf:uV<=b.aB
   .go_wp2_with fail
    refine ae (by kernel_rfl) (by kernel_rfl) ?_;go_big_quiet_step (fail)
    go_big_quiet_step (fail)
    go_big_quiet_step (first|(go_at_call 62;exact oX _))
    have Xw:=λw=>jD w lo uV;repeat(go_big_quiet_step (first|(go_at_call 62;exact oX _)))
    refine wpQuiet_nil ?_;rintro _ ⟨X,rfl⟩;obtain⟨W,hW⟩:=ex1 (X.1);have HXt:Hid (Below wt.heap.size wt W):=by rw[<-hW];exact X.2
    have Ut:=YU.t HXt.o;have Uu:=hid (aR hO.o λj hj=>Ut.o.block j (av hO.o j hj).2);have n0:=m0 X;have n1:=m1 X;have n2:=m2 X;have n3:=m3 X;have cB:=Ut.o.size;have zob:=hB.o.size;rw[hW]at n0 n1 n2 n3⊢;have zoc:∀x:Nat->Int,(bZ x).toList.length=4:=λ_=>rfl
    go_wp2_with(at_builtin
                refine wpList_append_own _ rfl (.tmp 23) (.tmp 25) 85 rfl w1.heap.size 94 i0 (.agg #[.int .i64 0,.int .i64 0,.int .i64 0,.int .i64 0]) 4 32 I0 hi m9 kd lO rfl (by decide) _ _ _ rfl (Uu.o.alloc _) ⟨W.heap.size,0,none⟩ 1 1 (bZ m).toList rfl rfl (I1 (aL.new W 94 (bZ m))) (I2 m) (by unfold maxLen;omega) (by omega) (by simp;omega) ?_;intro v' w2 eN gh _)
    have oK:Hid (w2.ownsRow w1.heap.size 94 4 v' (fU b L (k+1)).length ((fU b L (k+1)).flatMap λm=>(bZ m).toList)):=(by
     rw[GM HX.o (by rw[Xv.o];exact hsf),zAV,zDQ];have h2:=eN;simp only[zDJ,zFZ,zCI,zBV,zCL];exact h2)
    have eu:=hid (Below.grown (Below.alloc (hB.o.trans (Ut.o.mono hB.o.size)) (by omega) _) gh (by simp;omega) (ip Uu.o));have qu:=zf.o;go_round
    case rel=>exact⟨k+1,by omega,by go_num,oK,eu⟩
    case measure=>simp[intOf];omega
   .go_wp2_with fail
    refine ae (by kernel_rfl) (by kernel_rfl) ?_;have Xw:=λw=>jD w lo uV;repeat(go_big_quiet_step (first|(go_at_call 62;exact oX _)))
    refine wpQuiet_nil ?_;rintro _ ⟨X,rfl⟩;obtain⟨W,hW⟩:=ex1 (X.1);have HXt:Hid (Below wt.heap.size wt W):=by rw[<-hW];exact X.2
    have Ut:=YU.t HXt.o
    have Uu:Hid (W.ownsRow w1.heap.size 94 4 u3 (fU b L (k+1)).length ((fU b L (k+1)).flatMap λm=>(bZ m).toList)):=by
     rw[KU HX.o (by rw[Xv.o];omega)];exact aR hO.o λj hj=>Ut.o.block j (av hO.o j hj).2
    have eu:=hB.t Ut.o;rw[hW];have qu:=zf.o;go_wp2
    go_round
    case rel=>exact⟨k+1,by omega,by go_num,Uu,eu⟩
    case measure=>simp[intOf];omega
  .have e:k=nn:=by omega
   have oK:Hid (bX 4 wr u3 (ar b L)):=by
    have:fU b L k=ar b L:=by unfold fU ar;rw[e,<-uJ.o,zBN]
    rw[this]at hO;exact bX.bY I5 Ox hO.o
   have I7:=hid (nV.of hO.o jd.o.size);have wB:=jd.t hB.o;go_wp2
   go_ret;exact⟨⟨_,rfl,oK.o,I7.o⟩,wB.o⟩
abbrev qg (w:nq) (v:fu) (ag:(Nat->Int)->Bool):Prop:=∀X t,Below w.heap.size w X->Calls ZP 135 #[v,.agg (tick t)] X (cg X (.bool (ag t)))
def az.db (h:az w v b):∃a2 c2 a3 c3 a4 c4,v=.agg #[.int .i64 b.aB,.int .i64 b.aq,.slice a2 b.ptz.length c2,.slice a3 b.cj.length c3,.slice a4 b.cR.length c4]:=by
 obtain⟨v2,v3,v4,rfl,⟨a2,c2,⟨rfl,_,_,_,_⟩,_⟩,⟨a3,c3,⟨rfl,_,_,_,_⟩,_⟩,⟨a4,c4,⟨rfl,_,_,_,_⟩,_⟩⟩:=h;exact⟨a2,c2,a3,c3,a4,c4,rfl⟩
def fg {fn:Func} {p u u':Tmp} {ty:a00} (h:fn.results=#[.cell p ty,.tmp u,.tmp u']) (tmps:Array fu) (P:un) (w:nq):
 (results fn tmps).run P w=
   ((asAddr (tmps.getD p undef)).run P w).andThen λa w₁=>((loadVar ty a).run P w₁).andThen λv w₂=>.ok (.tuple #[v,tmps.getD u undef,tmps.getD u' undef]) w₂:=by
 simp only[results,h];simp[Sem.run_bind,Result.andThen]
def aL.same {t:a00} {cs:Array fu} {i:Nat} (h:aL w g t cs) (hv:cs[i]?=some v):w.setCell ⟨g,i,none⟩ v=w:=by
 have e:(w.setCell ⟨g,i,none⟩ v).heap=w.heap:=by
  refine zFO λk=>?_;by_cases hk:k=g
  .subst hk;have h1:=h.set i v
   have h2:cs.setIfInBounds i v=cs:=by
    refine zFO λj=>?_;by_cases hj:i=j
    .subst hj;obtain⟨au,hx⟩:=zAC.1 hv;rw[Array.getElem?_setIfInBounds_self_of_lt au,hv]
    .rw[zCV hj]
   rw[h2]at h1;exact h1.trans h.symm
  .exact Below.heap_setCell _ _ _ _ hk
 show({w with heap:=(w.setCell ⟨g,i,none⟩ v).heap}:nq)=w;rw[e]
def zbS (w:nq) (b:aj) (v2 v3 v4:fu) (L:List (Nat->Int)) (e:Ending) (w':nq):Prop:=
 ((L=[]/\e=.returned (.tuple #[js,.slice none 0 0,.int .i64 9]))\/(L≠ []/\ar b L=[]/\e=.returned (.tuple #[js,.slice none 0 0,.int .i64 8]))\/
  (L≠ []/\ar b L≠ []/\∃a c vs,e=.returned (.tuple #[GK b v2 v3 v4 (.slice a L.length c),vs,.int .i64 0])/\bX 5 w' (.slice a L.length c) L/\bX 4 w' vs (ar b L)/\nV w (.slice a L.length c)/\nV w vs))/\Below w.heap.size w w'
def kH (w:nq) (v:fu) (b:aj) (ag:(Nat->Int)->Bool) (a2:Option Addr) (c2:Nat) (v3 v4:fu) (YR:v=.agg #[.int .i64 b.aB,.int .i64 b.aq,.slice a2 b.ptz.length c2,v3,v4]) (hb:az w v b) (hv:Valid b) (hc:rz w) (nL:qg w v ag):
 Calls ZP 65 #[v] w (zbS w b (.slice a2 b.ptz.length c2) v3 v4 (an b ag)):=by
 subst YR;have HB:=hid hb;have HV:=hid hv;have HC:=hid hc;obtain⟨Ym,c2',a3,c3,a4,c4,BF⟩:=hb.db;simp only[Value.agg.injEq,zDC,zCQ,zCS,zER]at BF;obtain⟨_,rfl,rfl⟩:=BF;have KQ:=hid nL;obtain⟨A1,aZ⟩:=ex1 (w.alloc (.cells (bx b a2 c2 a3 c3 a4 c4) 26));obtain⟨A2,cL⟩:=ex1 (A1.alloc (.cells #[.int .i64 0,.int .i64 0,.slice none 0 0,.slice none 0 0,.slice none 0 0,.slice none 0 0] 81));have gE:=snew aZ;have ng:=snew2 cL gE;have B1:=bnewk aZ cL;have PH:=bnew2 cL gE;have HW:=wnew2 aZ cL;have z0:=B1.o.cell 0 rfl;have z1:=B1.o.cell 1 rfl;have z2:=B1.o.cell 2 rfl;have z3:=B1.o.cell 3 rfl;have z4:=B1.o.cell 4 rfl;go_enter ZF65,Tryz.ntmps65
 go_wp2_with fail
 refine(DT A2 b _ a2 c2 _ _ ag rfl (HB.o.later (Kp.of HW.o)) HV.o (HC.o.later HW.o) (λX t hX=>KQ.o X t (HW.o.trans (hX.mono HW.o.size)))).mono ?_;rintro e w1 ⟨Fy,bJ⟩;have cO:=HW.t bJ;have Uv:=hidb PH bJ;have BU:=ju HV.o;have zhf:=Uv.o.lt;rcases Fy with⟨hL,rfl⟩|⟨hL,a,c,rfl,Sk,gX⟩
 .have HL:=hid hL;skip;obtain⟨W,hW⟩:=ex1 (w1.alloc (.cells #[.int .i64 0,.int .i64 0,.slice none 0 0,.slice none 0 0,.slice none 0 0,.slice none 0 0] 81));have B5:=knew hW;have dD:=(bnew hW).o;have iu:=B5.box Uv.o (by simp);have t0:=iu.cell 0 rfl;have t1:=iu.cell 1 rfl;have t2:=iu.cell 2 rfl;have t3:=iu.cell 3 rfl;have t4:=iu.cell 4 rfl;have t5:=iu.cell 5 rfl;have f0:=iu.aH 0;have f1:=iu.aH 1;have f2:=iu.aH 2;have f3:=iu.aH 3;have f4:=iu.aH 4;have f5:=iu.aH 5;have s0:=dD.cell 0 rfl;have s1:=dD.cell 1 rfl;have s2:=dD.cell 2 rfl;have s3:=dD.cell 3 rfl;have s4:=dD.cell 4 rfl;have s5:=dD.cell 5 rfl;have g0:=dD.aH 0;have g1:=dD.aH 1;have g2:=dD.aH 2;have g3:=dD.aH 3;have g4:=dD.aH 4;have g5:=dD.aH 5;have e0:=dD.same (i:=0) (v:=.int .i64 0) rfl;have e1:=dD.same (i:=1) (v:=.int .i64 0) rfl;have e2:=dD.same (i:=2) (v:=.slice none 0 0) rfl;have e3:=dD.same (i:=3) (v:=.slice none 0 0) rfl;have e4:=dD.same (i:=4) (v:=.slice none 0 0) rfl;have e5:=dD.same (i:=5) (v:=.slice none 0 0) rfl;have d0:=iu.same (i:=0) (v:=.int .i64 0) rfl;have d1:=iu.same (i:=1) (v:=.int .i64 0) rfl;have d2:=iu.same (i:=2) (v:=.slice none 0 0) rfl;have d3:=iu.same (i:=3) (v:=.slice none 0 0) rfl;have d4:=iu.same (i:=4) (v:=.slice none 0 0) rfl;have d5:=iu.same (i:=5) (v:=.slice none 0 0) rfl;go_wp2
  refine bodyPost_ret (v:=.tuple #[js,.slice none 0 0,.int .i64 9]) ?_ rfl ⟨.inl ⟨HL.o,rfl⟩,cO.o.trans (B5.below (by simp) cO.o.size)⟩;rw[fg rfl];go_simp
 .obtain⟨W,hW⟩:=ex1 (w1.alloc (.cells #[.int .i64 b.aB,.int .i64 b.aq,.slice a2 b.ptz.length c2,.slice a3 b.cj.length c3,.slice a4 b.cR.length c4,.slice a (an b ag).length c] 81));have B2:=bnew hW;have B5:=knew hW;have zh:=hid (B5.below (by simp) (zAA _));have eu:=cO.t zh.o;have iu:=B5.box Uv.o (by simp);have hC:=DW W b _ _ _ _ (an b ag) (HB.o.later (Kp.of eu.o)) HV.o (Sk.later (Kp.of zh.o)) hL (sB HV.o ag);have HVE:=hid (Sk.later (Kp.of zh.o));have z0:=B2.o.cell 0 rfl;have z1:=B2.o.cell 1 rfl;have z2:=B2.o.cell 2 rfl;have z3:=B2.o.cell 3 rfl;have z4:=B2.o.cell 4 rfl;have z5:=B2.o.cell 5 rfl;have HL:=hid hL;have I7:=hid gX;go_wp2_with fail
  refine hC.mono ?_;rintro e w2 ⟨⟨vs,rfl,pO,WI⟩,ib⟩;obtain⟨sa,sc,rfl,_,_⟩:=pO.slice;have mY:(ar b (an b ag)).length<=(bq b).length:=zDE _ _;have gJ:=eu.t ib;have KV:=hid pO;have zhg:=hid (HVE.o.later (Kp.of ib));have oL:=iu.below ib iu.lt;have xq:=hidb B2 ib;have zhh:=hid WI;have HsW:=hid ((zAM (by rw[ng];omega) B5.size:A2.heap.size<=W.heap.size));by_cases h0:ar b (an b ag)=[]
  .have HS:=hid h0;rw[h0];simp only[zCL];have iu:=oL;have t0:=iu.cell 0 rfl;have t1:=iu.cell 1 rfl;have t2:=iu.cell 2 rfl;have t3:=iu.cell 3 rfl;have t4:=iu.cell 4 rfl;have t5:=iu.cell 5 rfl;have f0:=iu.aH 0;have f1:=iu.aH 1;have f2:=iu.aH 2;have f3:=iu.aH 3;have f4:=iu.aH 4;have f5:=iu.aH 5;have d0:=iu.same (i:=0) (v:=.int .i64 0) rfl;have d1:=iu.same (i:=1) (v:=.int .i64 0) rfl;have d2:=iu.same (i:=2) (v:=.slice none 0 0) rfl;have d3:=iu.same (i:=3) (v:=.slice none 0 0) rfl;have d4:=iu.same (i:=4) (v:=.slice none 0 0) rfl;have d5:=iu.same (i:=5) (v:=.slice none 0 0) rfl;go_wp2
   refine bodyPost_ret (v:=.tuple #[js,.slice none 0 0,.int .i64 8]) ?_ rfl ⟨.inr (.inl ⟨HL.o,HS.o,rfl⟩),gJ.o⟩;rw[fg rfl];go_simp
  .have HS:=hid h0;have gC:=zCY.2 h0;obtain⟨ln,YS⟩:=ex1 ((ar b (an b ag)).length);have oO:=hid YS;rw[YS]at gC mY⊢;have sY:¬((ln:Int)=0):=by omega
   have xh:((ln:Int)==0)=false:=by simp;omega
   have zhi:=hid oL;have zoe:=xq.o.lt;have t0:=oL.cell 0 rfl;have t1:=oL.cell 1 rfl;have t2:=oL.cell 2 rfl;have t3:=oL.cell 3 rfl;have t4:=oL.cell 4 rfl;have t5:=oL.cell 5 rfl;have f0:=oL.aH 0;have f1:=oL.aH 1;have f2:=oL.aH 2;have f3:=oL.aH 3;have f4:=oL.aH 4;have f5:=oL.aH 5;have s0:=xq.o.cell 0 rfl;have s1:=xq.o.cell 1 rfl;have s2:=xq.o.cell 2 rfl;have s3:=xq.o.cell 3 rfl;have s4:=xq.o.cell 4 rfl;have s5:=xq.o.cell 5 rfl;go_wp2
   obtain⟨WF,oY⟩:∃W,((((((w2.setCell ⟨w.heap.size+1,0,none⟩ (.int .i64 b.aB)).setCell ⟨w.heap.size+1,1,none⟩ (.int .i64 b.aq)).setCell ⟨w.heap.size+1,2,none⟩ (.slice a2 b.ptz.length c2)).setCell
    ⟨w.heap.size+1,3,none⟩ (.slice a3 b.cj.length c3)).setCell ⟨w.heap.size+1,4,none⟩ (.slice a4 b.cR.length c4)).setCell ⟨w.heap.size+1,5,none⟩ (.slice a (an b ag).length c))=W:=⟨_,rfl⟩
   obtain⟨ke,sC⟩:=Xt (.int .i64 b.aB) (.int .i64 b.aq) (.slice a2 b.ptz.length c2) (.slice a3 b.cj.length c3) (.slice a4 b.cR.length c4) (.slice a (an b ag).length c) zhi.out;rw[oY]at ke sC⊢;have j9:=gJ.o.trans (sC.below (by simp) gJ.o.size);have q0:=ke.cell 0 rfl;have q1:=ke.cell 1 rfl;have q2:=ke.cell 2 rfl;have q3:=ke.cell 3 rfl;have q4:=ke.cell 4 rfl;have q5:=ke.cell 5 rfl;have hsW:=HsW.o;have uk:=I7.o;have hfb:=zhh.o;have Oz:=zhg.o;have hvb:=KV.o;rw[oO.o]at hfb hvb
   refine bodyPost_ret (v:=.tuple #[GK b (.slice a2 b.ptz.length c2) (.slice a3 b.cj.length c3) (.slice a4 b.cR.length c4) (.slice a (an b ag).length c),.slice sa ln sc,.int .i64 0]) ?_ rfl
    ⟨.inr (.inr ⟨HL.o,HS.o,a,c,_,rfl,?_,?_,uk.le (by omega),hfb.le (by omega)⟩),j9⟩
   .rw[fg rfl];go_simp
   .exact Oz.on λk hk au=>by
     have h1:=uk k hk;exact sC.block k au (by simp;omega)
   .exact hvb.on λk hk au=>by
     have h1:=hfb k hk;exact sC.block k au (by simp;omega)
def missing (N:Nat) (k:Int) (m:Nat->Int):Prop:=∀j,j<N->m j≠k
def ac (N:Nat) (m:Nat->Int):List Int:=(List.range N).map m
def mz {k:Int}:k∈ac N m↔¬missing N k m:=by
 unfold ac missing;constructor
 .intro h hm;obtain⟨j,hj,e⟩:=zBY.1 h;exact hm j (zDB.1 hj) e
 .intro h;refine zBF λh2=>h λj hj e=>h2 (zBY.2 ⟨j,zDB.2 hj,e⟩)
def nX (hN:N<=4) (h:aL w g 94 (bZ m)):ah w (.slice (some ⟨g,0,none⟩) N 4) (ac N m):=by
 have hl:(ac N m).length=N:=by simp[ac]
 refine⟨_,4,⟨by rw[hl],by rw[hl];exact hN,by unfold maxLen;omega,(λh=>by cases h),λb e=>.inr ⟨bZ m,94,(0,0),by cases e;exact h⟩⟩,λb e j x hj=>?_⟩;cases e;have oB:j<N:=by have:=(zAO.1 hj).1;rwa [hl]at this
 have hx:x=m j:=by
  unfold ac at hj;rw[zCG,List.getElem?_range oB]at hj;simpa using hj.symm
 subst hx;refine⟨rfl,?_⟩;show w.cell? ⟨g,0+j,none⟩=_;rw[zDR];exact h.cell j (gt (by omega) m)
def KW (w:nq) (gx gk:Nat) (b:aj) (v2 v3 v4 v5:fu) (N:Nat) (hN:b.aq=N) (nU:N<=4) (k:Int) (m:Nat->Int) (hx:aL w gx 81 #[.int .i64 b.aB,.int .i64 b.aq,v2,v3,v4,v5]) (hk:aL w gk 3 #[.int .i64 k]):
 Calls ZP 75 #[.agg (bZ m),ptr gx,ptr gk] w (dF w λr=>Tr r (missing N k m)):=by
 obtain⟨A1,aZ⟩:=ex1 (w.alloc (.cells (bZ m) 94));have oT:=knew aZ;have B1:=(bnew aZ).o;have BX:=oT.box hx (by simp);have BK:=oT.box hk (by simp);have HW:=hid (oT.below (by simp) (zAA _));have z1:∀X:ak A1,X.1.cell? ⟨gx,1,none⟩=some (.int .i64 N):=λX=>X.cell (by rw[<-hN];exact BX.cell 1 rfl);have zk:=BK.a1;by_cases hm:k∈ac N m
 .have oX:∀X:ak A1,Calls ZP 76 #[.slice (some ⟨w.heap.size,0,none⟩) N 4,.int .i64 k] X.1 (λe iL=>e=.returned (.bool true)/\∃Y:ak A1,iL=Y.1):=λX=>
   (im X.1 _ _ k (nX nU (B1.below X.2 B1.lt))).mono λe w' ⟨r,h1,h2,h3⟩=>⟨by cases r with
     |true=>exact h1
     |false=>exact absurd hm h2.f,X.same h3⟩
  have HM:=hid (mz.1 hm);have zhk:(N:Int)<=4:=by omega
  simp only[bZ]at aZ⊢;go_enter ZF75,Tryz.ntmps75
  go_wp2_with fail
  refine ae (by kernel_rfl) (by kernel_rfl) ?_;repeat(go_big_quiet_step (first|(go_at_call 76;exact oX _)))
  refine wpQuiet_nil ?_;rintro _ ⟨X,rfl⟩;have HX:=HW.t X.2;go_wp2
  go_ret;exact dF.mk (.no HM.o) HX.o
 .have oX:∀X:ak A1,Calls ZP 76 #[.slice (some ⟨w.heap.size,0,none⟩) N 4,.int .i64 k] X.1 (λe iL=>e=.returned (.bool false)/\∃Y:ak A1,iL=Y.1):=λX=>
   (im X.1 _ _ k (nX nU (B1.below X.2 B1.lt))).mono λe w' ⟨r,h1,h2,h3⟩=>⟨by cases r with
     |true=>exact absurd h2.t hm
     |false=>exact h1,X.same h3⟩
  have HM:=hid (zBF λh=>hm (mz.2 h));have zhk:(N:Int)<=4:=by omega
  simp only[bZ]at aZ⊢;go_enter ZF75,Tryz.ntmps75
  go_wp2_with fail
  refine ae (by kernel_rfl) (by kernel_rfl) ?_;repeat(go_big_quiet_step (first|(go_at_call 76;exact oX _)))
  refine wpQuiet_nil ?_;rintro _ ⟨X,rfl⟩;have HX:=HW.t X.2;go_wp2
  go_ret;exact dF.mk (.yes HM.o) HX.o
def KX {w':nq} {blk off:Nat} (h:∀r,r<s->At w ⟨blk,off,none⟩ (k*s+r) (.int .i64 (t r))) (hk:Kp w w'):∀r,r<s->w'.cell? ⟨blk,off+k*s+r,none⟩=some (.int .i64 (t r)):=λr hr=>by
 have:=((h r hr).later hk).2;rwa [<-zBD]at this
def mA (N:Nat) (p:Int) (S:List (Nat->Int)) (k:Nat):Prop:=∀j m,j<k->S[j]?=some m->¬missing N p m
def mA.zero (N:Nat) (p:Int) (S:List (Nat->Int)):mA N p S 0:=λj m h=>by omega
def mA.succ (h:mA N p S k) (hm:S[k]?=some m) (hn:¬missing N p m):mA N p S (k+1):=λj y hj hy=>by
 by_cases e:j=k
 .subst e;rw[hm]at hy;cases hy;exact hn
 .exact h j y (by omega) hy
def mA.all (h:mA N p S S.length):¬∃m∈S,missing N p m:=λ⟨m,hm,h2⟩=>by
 obtain⟨j,hj,rfl⟩:=zBX hm;exact h j _ hj (zAI hj) h2
def DX (w:nq) (v:fu) (S:List (Nat->Int)) (h:bX 4 w v S) (gx gk:Nat) (b:aj) (v2 v3 v4 v5:fu) (N:Nat) (hN:b.aq=N) (nU:N<=4) (p:Int) (hx:aL w gx 81 #[.int .i64 b.aB,.int .i64 b.aq,v2,v3,v4,v5]) (hk:aL w gk 3 #[.int .i64 p]):
 Calls ZP 118 #[v,.func (.func 75) #[] #[ptr gx,ptr gk]] w (bg w λr=>0<=r↔∃m∈S,missing N p m):=by
 obtain⟨a,c,h1,h2⟩:=h;have H:Hid (bi w v S.length a c/\_):=⟨h1,h2⟩
 have HX:=hid hx;have HK:=hid hk;obtain⟨rfl,l1,m1,n1,r1⟩:=h1;unfold maxLen at m1;go_enter ZF118,Tryz.ntmps118
 go_wp2
 go_loopw [8,5] (λi j w1=>∃k:Nat,k<=S.length/\i=.int .i64 k/\Hid (mA N p S k)/\Hid (Below w.heap.size w w1)) (λi _ _=>S.length-(intOf i).toNat)
 case atStart=>exact⟨0,zAJ _,rfl,mA.zero _ _ _,Below.refl _ _⟩
 case round=>
  obtain⟨k,hk,rfl,hNM,hB⟩:=hrel;by_cases au:k<S.length
  .obtain⟨⟨blk,off,sp⟩,m,rfl,hm,x0⟩:=H.o.1.elem H.o.2 au;obtain rfl:sp=none:=(x0 0 (by omega)).1;have bm:=KX x0 (Kp.of hB.o);have y0:=bm 0 (by omega);have y1:=bm 1 (by omega);have y2:=bm 2 (by omega);have y3:=bm 3 (by omega);simp only[zCH]at y0;have HM:=hid hm;have kE:(k:Int)<(S.length:Int):=by omega
   have hC:=KW wr gx gk b v2 v3 v4 v5 N hN nU p m (HX.o.below hB.o HX.o.lt) (HK.o.below hB.o HK.o.lt);simp only[bZ]at hC
   go_wp2_with
    (go_at_call 75
     refine hC.mono ?_;rintro e w1 ⟨⟨r,rfl,hr⟩,bJ⟩;have cO:=hB.t bJ;cases r)
   .have HN:=hid (hNM.o.succ HM.o hr.f);go_round
    case rel=>exact⟨k+1,by omega,by go_num,HN,cO⟩
    case measure=>simp[intOf];omega
   .have y7:=hid hr.t;go_ret;exact bg.mk (r:=k) ⟨λ_=>⟨m,zAT HM.o,y7.o⟩,λ_=>by omega⟩ cO.o
  .have e:k=S.length:=by omega
   subst e;go_wp2
   go_ret;exact bg.mk (r:=-1) ⟨λh=>absurd h (by decide),λh=>absurd h hNM.o.all⟩ hB.o
def DY (w:nq) (v:fu) (S:List (Nat->Int)) (h:bX 4 w v S) (gx gk:Nat) (b:aj) (v2 v3 v4 v5:fu) (N:Nat) (hN:b.aq=N) (nU:N<=4) (p:Int) (hx:aL w gx 81 #[.int .i64 b.aB,.int .i64 b.aq,v2,v3,v4,v5]) (hk:aL w gk 3 #[.int .i64 p]):
 Calls ZP 63 #[v,.func (.func 75) #[] #[ptr gx,ptr gk]] w (dF w λr=>Tr r (∃m∈S,missing N p m)):=by
 have hC:=DX w v S h gx gk b v2 v3 v4 v5 N hN nU p hx hk;go_enter ZF63,Tryz.ntmps63
 go_wp2_with
  (go_at_call 118
   refine hC.mono ?_;rintro e w1 ⟨⟨r,rfl,hr⟩,bJ⟩)
 have HE:=hid hr;have HB:=hid bJ;go_wp2
 go_ret;exact dF.mk (show decide (0<=r)=true↔_ from decide_eq_true_iff.trans HE.o) HB.o
open Classical in
def cV (N:Nat) (S:List (Nat->Int)):Nat->List Int
 |0=>[]
 |k+1=>cV N S k++(if∃m∈S,missing N k m then []else [(k:Int)])
def zl (h:∃m∈S,missing N k m):cV N S (k+1)=cV N S k:=by rw[cV,zAE h,zCI]
def wE (h:¬∃m∈S,missing N k m):cV N S (k+1)=cV N S k++[(k:Int)]:=by rw[cV,zAG h]
def qh (N:Nat) (S:List (Nat->Int)):∀k,(cV N S k).length<=k
 |0=>zAA _
 |k+1=>by
  have:=qh N S k;unfold cV;split<;>simp<;>omega
def zbT (w:nq) (b:aj) (L:List (Nat->Int)) (e:Ending) (w':nq):Prop:=
 ((L=[]/\e=.returned (.tuple #[.slice none 0 0,.int .i64 9]))\/(L≠ []/\ar b L=[]/\e=.returned (.tuple #[.slice none 0 0,.int .i64 8]))\/
  (L≠ []/\ar b L≠ []/\∃v,e=.returned (.tuple #[v,.int .i64 0])/\ah w' v (cV b.aq.toNat (ar b L) b.ptz.length)))/\Below w.heap.size w w'
def KY (w:nq) (v:fu) (b:aj) (ag:(Nat->Int)->Bool) (hb:az w v b) (hv:Valid b) (hc:rz w) (nL:qg w v ag):Calls ZP 23 #[v] w (zbT w b (an b ag)):=by
 have HB:=hid hb;have HV:=hid hv;have HC:=hid hc;obtain⟨a2,c2,a3,c3,a4,c4,rfl⟩:=hb.db;have KQ:=hid nL;obtain⟨A1,aZ⟩:=ex1 (w.alloc (.cells (bx b a2 c2 a3 c3 a4 c4) 26));have B1:=bnew aZ;have HW:=wnew aZ;have z0:=B1.o.cell 0 rfl;have z1:=B1.o.cell 1 rfl;have z2:=B1.o.cell 2 rfl;have z3:=B1.o.cell 3 rfl;have z4:=B1.o.cell 4 rfl;obtain⟨i0,hi,m9,kd,lO⟩:=info_parts jq;go_enter ZF23,Tryz.ntmps23
 go_wp2_with fail
 refine(kH A1 _ b ag a2 c2 _ _ rfl (HB.o.later (Kp.of HW.o)) HV.o (HC.o.later HW.o) (λX t hX=>KQ.o X t (HW.o.trans (hX.mono HW.o.size)))).mono ?_;rintro e w1 ⟨Fy,bJ⟩;have cO:=HW.t bJ;rcases Fy with⟨hL,rfl⟩|⟨hL,hS,rfl⟩|⟨hL,hS,a,c,vs,rfl,Oz,pO,uk,GO⟩
 .have HL:=hid hL;go_wp2
  go_ret2;exact⟨.inl ⟨HL.o,rfl⟩,cO.o.alloc cO.o.size _⟩
 .have HL:Hid (an b ag≠ []/\ar b (an b ag)=[]):=⟨hL,hS⟩
  go_wp2
  go_ret2;exact⟨.inr (.inl ⟨HL.o.1,HL.o.2,rfl⟩),cO.o.alloc cO.o.size _⟩
 .have HL:Hid (an b ag≠ []/\ar b (an b ag)≠ []):=⟨hL,hS⟩
  obtain⟨A2,cL⟩:=ex1 (w1.alloc (.cells #[.int .i64 b.aB,.int .i64 b.aq,.slice a2 b.ptz.length c2,.slice a3 b.cj.length c3,.slice a4 b.cR.length c4,.slice a (an b ag).length c] 81));have B2:=bnew cL;have zh:=wnew cL;have eu:=cO.t zh.o;have KV:=hid (pO.later (Kp.of zh.o));have z0:=B2.o.cell 0 rfl;have z1:=B2.o.cell 1 rfl;have z2:=B2.o.cell 2 rfl;obtain⟨sa,sc,rfl,_,_⟩:=pO.slice;have LZ:=HV.o.ptz.many;go_wp2_with fail
  go_loopw [23,7] (λi v wr=>∃k:Nat,k<=b.ptz.length/\i=.int .i64 k/\Hid (wr.ownsRow A2.heap.size 3 1 v (cV b.aq.toNat (ar b (an b ag)) k).length ((cV b.aq.toNat (ar b (an b ag)) k).map (Value.int .i64)))/\Hid (Below A2.heap.size A2 wr)) (λi _ _=>b.ptz.length-(intOf i).toNat)
  case atStart=>exact⟨0,zAJ _,rfl,World.ownsRow_nil _ _ _ _,Below.refl _ _⟩
  case round=>
   obtain⟨k,hk,rfl,hO,hB⟩:=hrel;by_cases au:k<b.ptz.length
   .have kE:(k:Int)<(b.ptz.length:Int):=by omega
    obtain⟨A3,jr⟩:=ex1 (wr.alloc (.cells #[.int .i64 k] 3));have lP:=knew jr;have B3:=bnew jr;have HA3:=hid (lP.below (by simp) (zAA _));have EX:=hB.t HA3.o;have tU:=HV.o.aq;have hC:=DY A3 _ (ar b (an b ag)) (KV.o.later (Kp.of EX.o)) w1.heap.size wr.heap.size b _ _ _ _ b.aq.toNat (by omega) (by omega) k (B2.o.below EX.o B2.o.lt) B3.o;have YS:=qh b.aq.toNat (ar b (an b ag)) k;have cB:=hB.o.size
    go_wp2_with(first
     |(go_at_call 63
       refine hC.mono ?_;rintro e w2 ⟨⟨r,rfl,hr⟩,ib⟩;have KZ:=HA3.t ib;have x0:=(hidb B3 ib).o.c1;have Uu:=hid (aR hO.o λj hj=>KZ.o.block j (av hO.o j hj).2);have HR:=hid hr;have za4:=KZ.o.size;cases r)
     |(at_builtin;refine wpList_append_own _ rfl (.tmp 30) (.tmp 32) 35 rfl A2.heap.size 3 i0 (.int .i64 0) 1 8 dC hi m9 kd lO rfl (by decide) _ _ _ rfl (Uu.o.alloc _) ⟨_,0,none⟩ 1 1 [.int .i64 k] rfl rfl (io _ _ _) (iU _) (by unfold maxLen;omega) (by omega) (by simp;omega) ?_;intro v' w3 eN gh _))
    .have oK:Hid (w3.ownsRow A2.heap.size 3 1 v' (cV b.aq.toNat (ar b (an b ag)) (k+1)).length ((cV b.aq.toNat (ar b (an b ag)) (k+1)).map (Value.int .i64))):=(by
      rw[wE HR.o.f,zAV,zCR];exact eN)
     have eu:=hid (Below.grown (Below.alloc (hB.o.trans (KZ.o.mono hB.o.size)) (by omega) _) gh (by simp;omega) (ip Uu.o));go_round
     case rel=>exact⟨k+1,by omega,by go_num,oK,eu⟩
     case measure=>simp[intOf];omega
    .have oK:Hid (w2.ownsRow A2.heap.size 3 1 u7 (cV b.aq.toNat (ar b (an b ag)) (k+1)).length ((cV b.aq.toNat (ar b (an b ag)) (k+1)).map (Value.int .i64))):=(by
      rw[zl HR.o.t];exact Uu.o)
     have eu:=hB.t KZ.o;go_round
     case rel=>exact⟨k+1,by omega,by go_num,oK,eu⟩
     case measure=>simp[intOf];omega
   .have e:k=b.ptz.length:=by omega
    subst e;have wB:=eu.t hB.o;go_wp2
    go_ret2;exact⟨.inr (.inr ⟨HL.o.1,HL.o.2,_,rfl,ah.bY hO.o⟩),wB.o⟩
def rD {B n:Nat} {e:a00} {xs:List fu} (h:w.ownsRow B e s v n xs) (hn:0<n):∃g cap,v=.slice (some ⟨g,0,none⟩) n cap/\B<=g/\g<w.heap.size/\cap<=maxLen/\n<=cap:=by
 obtain⟨_,⟨_,h0⟩|⟨g,cap,cur,rfl,hb,hg,hle,jI,_⟩⟩:=h
 .omega
 .exact⟨g,cap,rfl,hb,(zAC.1 hg).1,jI,hle⟩
def az.Sn {x y:Int} {v2 v3 v4:fu} (h:az w (.agg #[.int .i64 x,.int .i64 y,v2,v3,v4]) b):ff w v2 b.ptz:=by
 obtain⟨_,_,_,e,h2,h3,_⟩:=h;simp only[Value.agg.injEq,zDC,zCQ,zCS,zER]at e;obtain⟨_,_,rfl,_,_⟩:=e;exact h2
end Go.Proofs.Cz
end
