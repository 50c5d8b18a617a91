/- A part. Conditions: none. -/
import Derived.Test.YtehbindidbgacaaGreatDoorT42
import Derived.Lib.SlicesCompact
set_option linter.all false
set_option maxHeartbeats 8000000
set_option maxRecDepth 100000
namespace Go.Proofs.Cz
open Go.RowKit
variable {b:ap} {hi lo:Int} {i j:Nat} {l:List Part}
theorem j8 (h:j≠i):(retime l i lo hi)[j]?=l[j]?:=by
 unfold retime;split
 .rw[zGA (Ne.symm h)]
 .rfl
theorem mI {x:Part} (h:l[i]?=some x):(retime l i lo hi)[i]?=some {x with lo:=lo,hi:=hi}:=by
 unfold retime;rw[h];simp only;rw[zEO (zAK.1 h).1]
theorem nK {y:Part} (h:(retime l i lo hi)[j]?=some y):∃x,l[j]?=some x/\y.name=x.name/\y.cost=x.cost/\y.bY=x.bY/\y.fits=x.fits/\(y=x\/(j=i/\y.lo=lo/\y.hi=hi)):=by
 by_cases e:j=i
 .subst e;cases hx:l[j]? with
  |none=>
   unfold retime at h;rw[hx]at h;simp only at h;rw[hx]at h;cases h
  |some x=>
   rw[mI hx]at h;cases h;exact⟨x,rfl,rfl,rfl,rfl,rfl,.inr ⟨rfl,rfl,rfl⟩⟩
 .rw[j8 e]at h;exact⟨y,h,rfl,rfl,rfl,rfl,.inl rfl⟩
theorem oX {l:List Int} (h:cr b l):cr (dK b i lo hi) l:=by
 refine⟨h.len,?_,?_⟩
 .show lg l ((retime b.parts i lo hi).length:Int) l.length;rw[gJ];exact h.range
 .intro j x hj hx;obtain⟨⟨P,hP,hf⟩,h2⟩:=h.fit j x hj hx;refine⟨?_,h2⟩;by_cases e:x.toNat=i
  .exact⟨{P with lo:=lo,hi:=hi},show(retime b.parts i lo hi)[x.toNat]?=some _ by rw[e];exact mI (e▸hP),hf⟩
  .exact⟨P,show(retime b.parts i lo hi)[x.toNat]?=some P by rw[j8 e];exact hP,hf⟩
theorem qM (hv:Valid b) (i:Nat) (ht:0<=lo/\lo<=hi/\hi<=20) (hw:hi-lo<4):Valid (dK b i lo hi):=by
 refine⟨hv.ac,hv.places,⟨?_,?_⟩,⟨hv.iq.many,?_⟩,hv.many,?_⟩
 .show 1<=(retime b.parts i lo hi).length/\(retime b.parts i lo hi).length<=5;rw[gJ];exact hv.parts.many
 .intro j y hj hy;obtain⟨x,hx,e1,e2,e3,e6,e7⟩:=nK (show(retime b.parts i lo hi)[j]?=some y from hy);have h:=hv.parts.all j x (zAK.1 hx).1 hx;refine⟨⟨by rw[e1];exact h.1.name,by rw[e2];exact h.1.cost,by rw[e3];exact h.1.bY,?_,?_,by rw[e6];exact h.1.N3⟩,λk z hk hz=>?_⟩
  .rcases e7 with rfl|⟨_,e8,e9⟩
   .exact h.1.time
   .rw[e8,e9];exact ht
  .rcases e7 with rfl|⟨_,e8,e9⟩
   .exact h.1.wide
   .rw[e8,e9];exact hw
  .obtain⟨x',kW,e1',_⟩:=nK (show(retime b.parts i lo hi)[k]?=some z from hz);rw[e1,e1'];exact h.2 k x' hk kW
 .show js ((retime b.parts i lo hi).length:Int) b.apart b.apart.length;rw[gJ];exact hv.iq.all
 .intro j t hj WX;have h:=hv.aa j t hj WX;exact⟨oX h.uJ,h.S0⟩
theorem Fj {ag:(Nat->Int)->Bool} {l:List Part} {i:Nat}:∀(n j:Nat) (t:Nat->Int),i<j->∀y∈bQ ag l n j t,y i=t i
 |0,j,t,h,y,hy=>by
  unfold bQ at hy;split at hy
  .simp at hy;subst hy;rfl
  .simp at hy
 |n+1,j,t,h,y,hy=>by
  unfold bQ at hy;split at hy
  .obtain⟨k,_,hy⟩:=zEY.1 hy;rw[Fj n (j+1) _ (by omega) y hy];unfold upd;rw[zAH (by omega)]
  .simp at hy
def Lb (L:List (Nat->Int)) (i:Nat) (c:Int):List (Nat->Int):=L.filter λy=>decide (y i=c)
theorem qN {W:World} {g:Nat} (h:aA W g 26 i7):(W.cell? ⟨g,0,none⟩=some (.int .i64 0)/\W.cell? ⟨g,1,none⟩=some (.int .i64 0)/\W.cell? ⟨g,2,none⟩=some (.slice none 0 0)/\W.cell? ⟨g,3,none⟩=some (.slice none 0 0)/\W.cell? ⟨g,4,none⟩=some (.slice none 0 0))/\
 W.frozen? ⟨g,0,none⟩=false/\W.frozen? ⟨g,1,none⟩=false/\W.frozen? ⟨g,2,none⟩=false/\W.frozen? ⟨g,3,none⟩=false/\W.frozen? ⟨g,4,none⟩=false:=
 ⟨⟨h.cell 0 rfl,h.cell 1 rfl,h.cell 2 rfl,h.cell 3 rfl,h.cell 4 rfl⟩,h.aL 0,h.aL 1,h.aL 2,h.aL 3,h.aL 4⟩
def OI (w:World) (b:ap) (i:Nat) (nl nh:Int) (e:Ending) (w':World):Prop:=
 (∃x0 x1 p2 n2 k2 p3 n3 k3 p4 n4 k4 s,e=.returned (.tuple #[.agg #[.int .i64 x0,.int .i64 x1,.slice p2 n2 k2,.slice p3 n3 k3,.slice p4 n4 k4],.int .i64 s])/\
   (((nh<nl\/aq (dK b i nl nh) (ai b)=[])/\s=9/\Value.agg #[.int .i64 x0,.int .i64 x1,.slice p2 n2 k2,.slice p3 n3 k3,.slice p4 n4 k4]=.agg i7)\/
     (nl<=nh/\aq (dK b i nl nh) (ai b)≠ []/\s=0/\Hg w w' (.agg #[.int .i64 x0,.int .i64 x1,.slice p2 n2 k2,.slice p3 n3 k3,.slice p4 n4 k4]) (dK b i nl nh))))/\Below w.heap.size w w'
theorem Lc (w:World) (v:Value) (b:ap) (i:Nat) (x:Part) (lo hi:Int) (hb:ar w v b) (hv:Valid b) (hc:iv w) (hx:b.parts[i]?=some x) (hs:0<=lo/\lo<=hi/\hi<=20):
 Calls ZP 31 #[v,.int .i64 i,.agg #[.int .i64 lo,.int .i64 hi]] w (OI w b i (max x.lo lo) (min x.hi hi)):=by
 have HB:=hid hb;have HV:Hid (Valid b):=hv;have HC:Hid (iv w):=hc;have HX:=hid hx;have E5:=(zAK.1 hx).1;have E4:=hv.parts.many;have hxt:=(hv.parts.all i x E5 hx).1;have HT:Hid ((0<=x.lo/\x.lo<=x.hi/\x.hi<=20)/\x.hi-x.lo<4/\0<=lo/\lo<=hi/\hi<=20):=⟨hxt.time,hxt.wide,hs⟩
 obtain⟨a2,c2,a3,c3,a4,c4,rfl⟩:=hb.dA;have Ko:=HB.o.Fg;obtain⟨blk,off,rfl⟩:∃blk off,a2=some ⟨blk,off,none⟩:=Ko.first (by omega);obtain⟨L,hLb,Ld,hints⟩:=Ko.raw;have hLn:L.length=b.parts.length:=by rw[<-hLb,zBY]
 rw[hLn]at Ld;have TI:Hid (L.map Prod.fst=b.parts/\L.length=b.parts.length/\(∀x∈L,am w x.2 x.1.fits)/\Raw w (.slice (some ⟨blk,off,none⟩) b.parts.length c2) b.parts.length 6 (L.flatMap cL)):=⟨hLb,hLn,hints,Ld⟩
 obtain⟨xv,hxL⟩:∃xv,L[i]?=some (x,xv):=by
  have h1:(L.map Prod.fst)[i]?=some x:=by rw[hLb];exact hx
  rw[zCV]at h1;obtain⟨y,hy,rfl⟩:=zCP.1 h1;exact⟨y.2,hy⟩
 have Yq:=hid hxL
 have HCL:Hid (∀X,Below w.heap.size w X->X.cell? ⟨blk,off+i*6+3,none⟩=some (.int .i64 x.lo)/\X.cell? ⟨blk,off+i*6+4,none⟩=some (.int .i64 x.hi)):=λX hX=>by
  have h1:=Ld.news.2.2 X hX (i*6+3) _ ((iy eQ L i 3 _ hxL (by omega)).trans rfl);have h2:=Ld.news.2.2 X hX (i*6+4) _ ((iy eQ L i 4 _ hxL (by omega)).trans rfl);have e:∀j,(⟨blk,off,none⟩:Addr).add j=⟨blk,off+j,none⟩:=λj=>by unfold Addr.add;split<;>simp_all
  rw[e]at h1 h2;simp only[<-zBE]at h1 h2;exact⟨h1,h2⟩
 obtain⟨A1,aV⟩:=ex1 (w.alloc (.cells #[.int .i64 b.ac,.int .i64 b.places,.slice (some ⟨blk,off,none⟩) b.parts.length c2,.slice a3 b.apart.length c3,.slice a4 b.aa.length c4] 26));obtain⟨A2,bc⟩:=ex1 (A1.alloc (.cells #[.int .i64 lo,.int .i64 hi] 43));obtain⟨A3,eE⟩:=ex1 (A2.alloc (.cells i7 26));have cS:=dt aV;have gV:=dt bc;rw[cS]at gV;have B1:Hid (aA A3 w.heap.size 26 #[.int .i64 b.ac,.int .i64 b.places,.slice (some ⟨blk,off,none⟩) b.parts.length c2,.slice a3 b.apart.length c3,.slice a4 b.aa.length c4]):=(aF eE).box ((aF bc).box (bC aV) (by simp)) (by simp);have B2:Hid (aA A3 (w.heap.size+1) 43 #[.int .i64 lo,.int .i64 hi]):=by have:=(aF eE).box (bC bc) (by simp);rw[cS]at this;exact this
 have B3:Hid (aA A3 (w.heap.size+1+1) 26 i7):=by have:=bC eE;rw[gV]at this;exact this
 have HW:Hid (Below w.heap.size w A3):=((aF aV).trans' ((aF bc).trans' (aF eE))).below (by simp) (zAC _);obtain⟨z0,z1,z2,z3,z4⟩:=B1.o.c5;have Yr:=iV A3 _ b (HB.o.later (Kp.of HW.o)) hv (HC.o.later HW.o);have Ik:(i:Int)<(b.parts.length:Int):=by omega
 have kJ:=kv lo hi 0 20 21 (by omega);clear hb hv hc hx hxt hs Ko hLb Ld hints hLn hxL;go_enter ZF31,Tryz.ntmps31
 go_wp2_with fail
 refine Yr.mono ?_;rintro e w1 ⟨⟨r,rfl,rfl⟩,bi⟩;have dh:=hid bi;have tu:=HW.t bi;clear bi Yr z0 z1 z2 z3 z4 aV bc eE cS gV;have D1:=hidb B1 dh.o;have D2:=hidb B2 dh.o;have D3:=hidb B3 dh.o
 have HS:Hid (∀X:World,Below w1.heap.size w1 X->(X.cell? ⟨w.heap.size,0,none⟩=some (.int .i64 b.ac)/\X.cell? ⟨w.heap.size,1,none⟩=some (.int .i64 b.places)/\X.cell? ⟨w.heap.size,2,none⟩=some (.slice (some ⟨blk,off,none⟩) b.parts.length c2)/\X.cell? ⟨w.heap.size,3,none⟩=some (.slice a3 b.apart.length c3)/\X.cell? ⟨w.heap.size,4,none⟩=some (.slice a4 b.aa.length c4))/\Below w1.heap.size w1 X):=λX hX=>by
  have BX:=D1.o.below hX D1.o.lt;exact⟨⟨BX.cell 0 rfl,BX.cell 1 rfl,BX.cell 2 rfl,BX.cell 3 rfl,BX.cell 4 rfl⟩,hX⟩
 clear B1 B2 B3 dh HW;go_wp2_with fail
 go_region_held3 (λX:World=>(X.cell? ⟨w.heap.size,0,none⟩=some (.int .i64 b.ac)/\X.cell? ⟨w.heap.size,1,none⟩=some (.int .i64 b.places)/\X.cell? ⟨w.heap.size,2,none⟩=some (.slice (some ⟨blk,off,none⟩) b.parts.length c2)/\X.cell? ⟨w.heap.size,3,none⟩=some (.slice a3 b.apart.length c3)/\X.cell? ⟨w.heap.size,4,none⟩=some (.slice a4 b.aa.length c4))/\Below w1.heap.size w1 X)
  (first
    |with_reducible exact HS.o _ fL.o
    |with_reducible exact HS.o _ gm.o
    |exact HS.o _ (Below.drewN (Below.refl w1.heap.size w1) 1)
    |fail)
  (first
    |(go_at_call 51
      refine(tN _ _).mono ?_;rintro e w2 ⟨⟨gk,rfl,Qm,Io⟩,fJ⟩;have gm:Hid (Below w1.heap.size w1 w2):=(Below.drewN (Below.refl w1.heap.size w1) 1).trans fJ;have Qn:=hid Qm;clear Qm Io fJ)
    |(go_at_call 91
      refine(pY w2 _ b i gk (HB.o.later (Kp.of (tu.o.trans (gm.o.mono tu.o.size)))) HV.o ⟨by omega,Ik⟩ Qn.o).mono ?_;rintro e w3 ⟨rfl,DF⟩;have fL:=gm.t DF;clear DF))
 have DO:=tu.t fL.o;have E1:=hidb D1 fL.o;have E2:=hidb D2 fL.o;have E3:=hidb D3 fL.o;obtain⟨X4,hX4⟩:=ex1 (w3.alloc (.cells #[.int .i64 lo,.int .i64 hi] 43));obtain⟨X5,hX5⟩:=ex1 (X4.alloc (.cells #[.int .i64 x.lo,.int .i64 x.hi] 43));obtain⟨nl,D9⟩:=ex1 (max x.lo lo);obtain⟨nh,QT⟩:=ex1 (min x.hi hi);have qH:Hid (max x.lo lo=nl/\min x.hi hi=nh):=⟨D9,QT⟩
 rw[D9,QT];obtain⟨X6,hX6⟩:=ex1 (X5.alloc (.cells #[.int .i64 nl,.int .i64 nh] 43));have k4:=aF hX4;have k5:=aF hX5;have k6:=aF hX6;have s4:=dt hX4;have s5:=dt hX5;have F1:Hid (aA X6 w.heap.size 26 #[.int .i64 b.ac,.int .i64 b.places,.slice (some ⟨blk,off,none⟩) b.parts.length c2,.slice a3 b.apart.length c3,.slice a4 b.aa.length c4]):=(k4.trans' (k5.trans' k6)).box E1.o (by simp);have F2:Hid (aA X6 X5.heap.size 43 #[.int .i64 nl,.int .i64 nh]):=bC hX6;have F3:Hid (aA X6 (w.heap.size+1+1) 26 i7):=(k4.trans' (k5.trans' k6)).box E3.o (by simp);have Ys:Hid (Below w.heap.size w X6):=DO.o.trans ((k4.trans' (k5.trans' k6)).below (by simp) DO.o.size);obtain⟨y0,y1⟩:=E2.o.c2;have y2:X4.cell? ⟨w.heap.size,2,none⟩=some (.slice (some ⟨blk,off,none⟩) b.parts.length c2):=(k4.box E1.o (by simp)).cell 2 rfl;have hc4:=HCL.o X4 (DO.o.trans (k4.below (by simp) DO.o.size));obtain⟨q3,q4⟩:=hc4;have v0:X5.cell? ⟨w.heap.size+1,0,none⟩=some (.int .i64 lo):=((k4.trans' k5).box E2.o (by simp)).cell 0 rfl;have v1:X5.cell? ⟨w.heap.size+1,1,none⟩=some (.int .i64 hi):=((k4.trans' k5).box E2.o (by simp)).cell 1 rfl;obtain⟨v2,v3⟩:=(bC hX5).c2;obtain⟨t0,t1⟩:=F2.o.c2
 have Yt:Hid ((0<=nl/\nh<=20)/\(nl<=nh->nh-nl<4)):=by
  have:=HT.o;have:=qH.o;exact⟨⟨by omega,by omega⟩,λh=>by omega⟩
 have HSP:Hid (0<=lo/\lo<=hi/\hi<=20/\hi-lo<21):=by have:=HT.o;exact⟨by omega,by omega,by omega,by omega⟩
 have hL3:Hid (w.heap.size+1+1<w3.heap.size/\X5.heap.size=w3.heap.size+1+1):=⟨E3.o.lt,by omega⟩
 clear k4 k5 k6 s4 s5 D1 D2 D3 gm fL HS Qn;by_cases az:nh<nl
 .obtain⟨⟨o0,o1,o2,o3,o4⟩,f0,f1,f2,f3,f4⟩:=qN F3.o;have d0:=F3.o.same (i:=0) (v:=.int .i64 0) rfl;have d1:=F3.o.same (i:=1) (v:=.int .i64 0) rfl;have d2:=F3.o.same (i:=2) (v:=.slice none 0 0) rfl;have d3:=F3.o.same (i:=3) (v:=.slice none 0 0) rfl;have d4:=F3.o.same (i:=4) (v:=.slice none 0 0) rfl;go_wp2_with(go_at_call 77;refine(kJ _).mono ?_;rintro e w4 ⟨r,rfl,hr,rfl⟩;obtain rfl:r=true:=hr.2 HSP.o)
  refine bodyPost_ret (v:=.tuple #[.agg i7,.int .i64 9]) ?_ rfl (by rw[qH.o.1,qH.o.2];exact⟨⟨_,_,_,_,_,_,_,_,_,_,_,_,rfl,.inl ⟨.inl az,rfl,rfl⟩⟩,Ys.o⟩);rw[results_cell_tmp rfl];go_simp
 .have hle:nl<=nh:=by omega
  obtain⟨-,-,u2⟩:=F1.o.c3
  go_wp2_with(first
   |(go_at_call 77;refine(kJ _).mono ?_;rintro e w4 ⟨r,rfl,hr,rfl⟩;obtain rfl:r=true:=hr.2 HSP.o)
   |(go_at_call 78
     refine(qL X6 (some ⟨blk,off,none⟩) b.parts.length c2 (L.flatMap cL) (by omega) (TI.o.2.2.2.later (Kp.of Ys.o))).mono ?_;rintro e w7 ⟨⟨v',rfl,ho⟩,qa⟩;obtain⟨g7,k7,rfl,L3,L5,_,hk7⟩:=fX ho (by omega);have hgn:w.heap.size+1+1<g7/\X5.heap.size<g7:=(by have:=Ys.o.size;have:=F2.o.lt;have:=F3.o.lt;omega)
     have G1:aA w7 w.heap.size 26 #[.int .i64 b.ac,.int .i64 b.places,.slice (some ⟨blk,off,none⟩) b.parts.length c2,.slice a3 b.apart.length c3,.slice a4 b.aa.length c4]:=F1.o.below qa F1.o.lt;have G2:=F2.o.below qa F2.o.lt;have G3:=F3.o.below qa F3.o.lt;obtain⟨X8,hX8⟩:=ex1 (w7.setCell ⟨w.heap.size,2,none⟩ (.slice (some ⟨g7,0,none⟩) b.parts.length k7));have BE:ab [w.heap.size] w7 X8:=(by rw[<-hX8];exact ab.set _ (by simp) _)
     have I1:aA X8 w.heap.size 26 #[.int .i64 b.ac,.int .i64 b.places,.slice (some ⟨g7,0,none⟩) b.parts.length k7,.slice a3 b.apart.length c3,.slice a4 b.aa.length c4]:=(by rw[<-hX8];exact G1.set 2 _)
     have I2:=BE.box G2 (by have:=hL3.o;simp;omega);have I3:=BE.box G3 (by simp;omega);have Md:X8.ownsRow X6.heap.size 77 6 (.slice (some ⟨g7,0,none⟩) b.parts.length k7) b.parts.length (L.flatMap cL):=aR ho (λk hk=>by cases hk;exact BE.block g7 L5 (by simp;omega));obtain⟨X9,hX9⟩:=ex1 ((X8.setCell ⟨g7,i*6+3,none⟩ (.int .i64 nl)).setCell ⟨g7,i*6+4,none⟩ (.int .i64 nh));have bK:=K8 Md Yq.o nl nh;rw[hX9]at bK;have J1:aA X9 w.heap.size 26 #[.int .i64 b.ac,.int .i64 b.places,.slice (some ⟨g7,0,none⟩) b.parts.length k7,.slice a3 b.apart.length c3,.slice a4 b.aa.length c4]:=bK.2.box I1 (by simp;omega);have J3:Hid (aA X9 (w.heap.size+1+1) 26 i7):=(bK.2.box I3 (by simp;omega):aA X9 (w.heap.size+1+1) 26 i7)
     have b7:Below w.heap.size w w7:=Ys.o.trans (qa.mono Ys.o.size);have b8:Below w.heap.size w X8:=b7.trans (BE.below (by simp) b7.size);have TJ:Hid (Below w.heap.size w X9):=(b8.trans (bK.2.below (by simp;omega) b8.size):Below w.heap.size w X9)
     have HP9:Hid (bM X9 (.slice (some ⟨g7,0,none⟩) b.parts.length k7) (retime b.parts i nl nh)):=(by
      have h1:(L.set i ({x with lo:=nl,hi:=nh},xv)).length=b.parts.length:=by rw[List.length_set];exact TI.o.2.1
      have h0:=bK.1;rw[<-h1]at h0
      have h2:=bM.mc h0 (λy hy=>by
       rcases zFI hy with h3|rfl
       .exact(TI.o.2.2.1 y h3).later (Kp.of TJ.o)
       .exact(TI.o.2.2.1 (x,xv) (zAX Yq.o)).later (Kp.of TJ.o))
      rw[K7 nl nh Yq.o,TI.o.1,h1]at h2;exact h2:bM X9 (.slice (some ⟨g7,0,none⟩) b.parts.length k7) (retime b.parts i nl nh))
     have m2:=G1.cell 2 rfl;have m3:=G1.aL 2;have n2':=I1.cell 2 rfl;have n3':=I2.cell 0 rfl;have n4':=I2.cell 1 rfl;have r3:=fZ Md Yq.o TI.o.2.1 3 (by omega) rfl;have r4:=fZ Md Yq.o TI.o.2.1 4 (by omega) rfl;have r5:X8.frozen? ⟨g7,i*6+3,none⟩=false:=Md.frozenAt _;have r6:X8.frozen? ⟨g7,i*6+4,none⟩=false:=Md.frozenAt _;obtain⟨l0,l1,l2,l3,l4⟩:=J1.c5
     have Mc:Hid (ar X9 (.agg #[.int .i64 b.ac,.int .i64 b.places,.slice (some ⟨g7,0,none⟩) b.parts.length k7,.slice a3 b.apart.length c3,.slice a4 b.aa.length c4]) (dK b i nl nh)):=(by
      obtain⟨_,_,_,e,_,h3,h4⟩:=HB.o;simp only[Value.agg.injEq,zBU,zBR,zCB,zDB]at e;obtain⟨_,rfl,rfl⟩:=e;exact⟨_,_,_,rfl,HP9.o,h3.later (Kp.of TJ.o),h4.later (Kp.of TJ.o)⟩)
     have hA:=tO X9 _ (dK b i nl nh) Mc.o (qM HV.o i ⟨Yt.o.1.1,hle,Yt.o.1.2⟩ (Yt.o.2 hle)) (HC.o.later TJ.o);clear bK ho Md qa BE G1 G2 G3 I1 I2 I3 J1 b7 b8 u2 t0 t1 v0 v1 v2 v3 y0 y1 y2 q3 q4 D9 QT)
   |(go_at_call 73
     refine hA.mono ?_;rintro e Dc ⟨⟨x0,x1,p2,n2,k2,p3,n3,k3,p4,n4,k4,s,rfl,pl⟩,qg⟩;have KY:Hid (_\/_):=pl;have Lf:=hid qg;have Lg:=TJ.t qg;have K3:=hidb J3 qg;obtain⟨⟨o0,o1,o2,o3,o4⟩,f0,f1,f2,f3,f4⟩:=qN K3.o;clear pl qg hA l0 l1 l2 l3 l4))
  obtain⟨WF,jK⟩:=ex1 (((((Dc.setCell ⟨w.heap.size+1+1,0,none⟩ (.int .i64 x0)).setCell ⟨w.heap.size+1+1,1,none⟩ (.int .i64 x1)).setCell ⟨w.heap.size+1+1,2,none⟩ (.slice p2 n2 k2)).setCell ⟨w.heap.size+1+1,3,none⟩ (.slice p3 n3 k3)).setCell ⟨w.heap.size+1+1,4,none⟩ (.slice p4 n4 k4));obtain⟨oW,uh⟩:=K6 (.int .i64 x0) (.int .i64 x1) (.slice p2 n2 k2) (.slice p3 n3 k3) (.slice p4 n4 k4) K3.o;rw[jK]at oW uh⊢;have HKF:=hid uh;have iw:Hid (Below w.heap.size w WF):=Lg.o.trans (uh.below (by simp;omega) Lg.o.size);have w0:=oW.c1;have gh:WF.cell? ⟨w.heap.size+1+1,1,none⟩=some (.int .i64 x1):=oW.cell 1 rfl;have Hy:WF.cell? ⟨w.heap.size+1+1,2,none⟩=some (.slice p2 n2 k2):=oW.cell 2 rfl;have VB:WF.cell? ⟨w.heap.size+1+1,3,none⟩=some (.slice p3 n3 k3):=oW.cell 3 rfl;have w4':WF.cell? ⟨w.heap.size+1+1,4,none⟩=some (.slice p4 n4 k4):=oW.cell 4 rfl;have DS:Hid (w.heap.size+1+1<X9.heap.size/\w.heap.size<=X9.heap.size):=⟨J3.o.lt,TJ.o.size⟩
  clear oW uh jK o0 o1 o2 o3 o4 f0 f1 f2 f3 f4
  refine bodyPost_ret (v:=.tuple #[.agg #[.int .i64 x0,.int .i64 x1,.slice p2 n2 k2,.slice p3 n3 k3,.slice p4 n4 k4],.int .i64 s]) ?_ rfl
   (by
     rw[qH.o.1,qH.o.2];refine⟨⟨_,_,_,_,_,_,_,_,_,_,_,_,rfl,KY.o.imp (λ⟨h1,h2,h3⟩=>⟨.inr h1,h2,h3⟩) (λ⟨h1,h2,h3⟩=>⟨hle,h1,h2,λX O hO hk=>h3 X ((w.heap.size+1+1)::O) (λo ho=>?_) ((HKF.o.mono (by simp)).trans' (hk.mono λo ho=>.inl (by simp[ho])))⟩)⟩,iw.o⟩;rcases zAS.1 ho with rfl|ho
     .exact DS.o.1
     .exact zAV (hO o ho) DS.o.2)
  rw[results_cell_tmp rfl];go_simp
theorem Hh (f:Value) (w:World) (v:Value) (b:ap) (hb:ar w v b) (hs:fS b) (hc:iv w) (hn:cJ b≠0):
 Calls ZP 50 #[v,f] w (di w (.tuple #[qK,.int .i64 (cJ b)])):=by
 have HB:=hid hb;obtain⟨a2,c2,a3,c3,a4,c4,rfl⟩:=hb.dA;obtain⟨A1,aV⟩:=ex1 (w.alloc (.cells #[.int .i64 b.ac,.int .i64 b.places,.slice a2 b.parts.length c2,.slice a3 b.apart.length c3,.slice a4 b.aa.length c4] 26));obtain⟨A2,bc⟩:=ex1 (A1.alloc (.cells #[.int .i64 0,.int .i64 0,.slice none 0 0,.slice none 0 0,.slice none 0 0,.slice none 0 0] 93));have cS:=dt aV;have B1:Hid (aA A2 w.heap.size 26 #[.int .i64 b.ac,.int .i64 b.places,.slice a2 b.parts.length c2,.slice a3 b.apart.length c3,.slice a4 b.aa.length c4]):=(aF bc).box (bC aV) (by simp);have B2:Hid (aA A2 (w.heap.size+1) 93 #[.int .i64 0,.int .i64 0,.slice none 0 0,.slice none 0 0,.slice none 0 0,.slice none 0 0]):=by have:=bC bc;rw[cS]at this;exact this
 have HW:Hid (Below w.heap.size w A2):=((aF aV).trans' (aF bc)).below (by simp) (zAC _);obtain⟨z0,z1,z2,z3,z4⟩:=B1.o.c5;have hC:=qJ A2 _ b (HB.o.later (Kp.of HW.o)) hs (hc.later HW.o);obtain⟨s,Yu⟩:=ex1 (cJ b);rw[Yu]at hC hn⊢;clear hb hc hs Yu;go_enter ZF50,Tryz.ntmps50
 go_wp2_with fail
 refine hC.mono ?_;rintro e w1 ⟨⟨r,rfl,rfl⟩,bi⟩;have dh:=hid bi;have tu:=HW.t bi;have HR:=B2.o.below bi B2.o.lt;obtain⟨⟨t0,t1,t2,t3,t4,t5⟩,f0,f1,f2,f3,f4,f5⟩:=Bf HR;have e0:=HR.same (i:=0) (v:=.int .i64 0) rfl;have e1:=HR.same (i:=1) (v:=.int .i64 0) rfl;have e2:=HR.same (i:=2) (v:=.slice none 0 0) rfl;have e3:=HR.same (i:=3) (v:=.slice none 0 0) rfl;have e4:=HR.same (i:=4) (v:=.slice none 0 0) rfl;have e5:=HR.same (i:=5) (v:=.slice none 0 0) rfl;clear bi z0 z1 z2 z3 z4 hC aV bc HR cS;go_wp2_with fail
 refine bodyPost_ret (v:=.tuple #[qK,.int .i64 r]) ?_ rfl ⟨rfl,tu.o⟩;rw[results_cell_tmp rfl];go_simp
theorem Bh (w:World) (v:Value) (b:ap) (hb:ar w v b) (hs:fS b) (hc:iv w) (hn:cJ b≠0):
 Calls ZP 73 #[v] w (di w (.tuple #[.agg i7,.int .i64 (cJ b)])):=by
 have HB:=hid hb;obtain⟨a2,c2,a3,c3,a4,c4,rfl⟩:=hb.dA;obtain⟨A1,aV⟩:=ex1 (w.alloc (.cells #[.int .i64 b.ac,.int .i64 b.places,.slice a2 b.parts.length c2,.slice a3 b.apart.length c3,.slice a4 b.aa.length c4] 26));obtain⟨A2,bc⟩:=ex1 (A1.alloc (.cells i7 26));have cS:=dt aV;have B1:Hid (aA A2 w.heap.size 26 #[.int .i64 b.ac,.int .i64 b.places,.slice a2 b.parts.length c2,.slice a3 b.apart.length c3,.slice a4 b.aa.length c4]):=(aF bc).box (bC aV) (by simp);have B2:Hid (aA A2 (w.heap.size+1) 26 i7):=by have:=bC bc;rw[cS]at this;exact this
 have HW:Hid (Below w.heap.size w A2):=((aF aV).trans' (aF bc)).below (by simp) (zAC _);obtain⟨z0,z1,z2,z3,z4⟩:=B1.o.c5;have hO:=Hh (.func (.func 54) #[] #[]) A2 _ b (HB.o.later (Kp.of HW.o)) hs (hc.later HW.o) hn;obtain⟨s,Yu⟩:=ex1 (cJ b);rw[Yu]at hO hn⊢;clear hb hc hs Yu;go_enter ZF73,Tryz.ntmps73
 go_wp2_with fail
 refine hO.mono ?_;rintro e w1 ⟨rfl,bi⟩;have dh:=HW.t bi;have oT:=hid bi;clear bi z0 z1 z2 z3 z4 hO aV bc cS;obtain⟨W,hW⟩:=ex1 (w1.alloc (.cells #[.int .i64 0,.int .i64 0,.slice none 0 0,.slice none 0 0,.slice none 0 0,.slice none 0 0] 93));have tD:=aF hW;have HR:=tD.box (B2.o.below oT.o B2.o.lt) (by simp);have gu:=bC hW;have tA:Hid (Below w.heap.size w W):=(dh.o.trans (tD.below (by simp) dh.o.size):Below w.heap.size w W)
 obtain⟨⟨s0,s1,s2,s3,s4,s5⟩,g0,g1,g2,g3,g4,g5⟩:=Bf gu;have e0:=gu.same (i:=0) (v:=.int .i64 0) rfl;have e1:=gu.same (i:=1) (v:=.int .i64 0) rfl;have e2:=gu.same (i:=2) (v:=.slice none 0 0) rfl;have e3:=gu.same (i:=3) (v:=.slice none 0 0) rfl;have e4:=gu.same (i:=4) (v:=.slice none 0 0) rfl;have e5:=gu.same (i:=5) (v:=.slice none 0 0) rfl;obtain⟨⟨t0,t1,t2,t3,t4⟩,f0,f1,f2,f3,f4⟩:=qN HR;have d0:=HR.same (i:=0) (v:=.int .i64 0) rfl;have d1:=HR.same (i:=1) (v:=.int .i64 0) rfl;have d2:=HR.same (i:=2) (v:=.slice none 0 0) rfl;have d3:=HR.same (i:=3) (v:=.slice none 0 0) rfl;have d4:=HR.same (i:=4) (v:=.slice none 0 0) rfl;clear HR gu tD;go_wp2_with fail
 refine bodyPost_ret (v:=.tuple #[.agg i7,.int .i64 s]) ?_ rfl ⟨rfl,tA.o⟩;rw[results_cell_tmp rfl];go_simp
end Go.Proofs.Cz
