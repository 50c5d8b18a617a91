/- A part. Conditions: none. -/
import Derived.Test.YtddlcmejelobdaaGreatDoorT43
import Derived.Test.YtddlcmejelobdaaGreatDoorT45
import Derived.Laws.EntriesVeiled
import Derived.Deep.RegionWith
set_option linter.all false
set_option maxHeartbeats 8000000
set_option maxRecDepth 100000
namespace Go.Proofs.Cz
open Go.RowKit Go.Maps
def cB (b:ab) (k:Nat):Nat->Int:=λi=>if i<k then(match b.ptz[i]? with|some x=>x.dm|none=>0)else 0
def DZ {b:ab} {k:Nat} {x:Part} (h:b.ptz[k]?=some x):upd (cB b k) k x.dm=cB b (k+1):=by
 funext i;unfold cB;by_cases e:i=k
 .subst e;rw[bO,zAF (zCE _),h]
 .rw[az _ _ e];by_cases h1:i<k
  .rw[zAF h1,zAF (by omega)]
  .rw[zAG h1,zAG (by omega)]
def GH {b:ab} (hv:Valid b) (k:Nat):dN (cB b k):=λi _=>by
 unfold cB;split
 .cases h:b.ptz[i]? with
  |none=>simp
  |some x=>exact(hv.ptz.all i x (zAT.1 h).1 h).1.dm
 .simp
def zbM (w:nq) (b:ab) (L:List (Nat->Int)) (e:Ending) (w':nq):Prop:=
 ((L=[]/\e=.returned (.tuple #[.int .i64 0,.int .i64 9]))\/(L≠ []/\e=.returned (.tuple #[.int .i64 (ci b.ah.toNat (aV b L) (cB b b.ptz.length):Nat),.int .i64 0])))/\Below w.heap.size w w'
def GI (w:nq) (v:fu) (b:ab) (ag:(Nat->Int)->Bool) (hb:ar w v b) (hv:Valid b) (hc:jh w) (km:pl w v ag):Calls ZP 10 #[v] w (zbM w b (an b ag)):=by
 have HB:=hid hb;have HV:Hid (Valid b):=hv;have HC:Hid (jh w):=hc;obtain⟨a2,c2,a3,c3,a4,c4,rfl⟩:=hb.dJ;obtain⟨_,_,_,Bj,⟨a2',c2',WV,Lk⟩,_⟩:=hb;simp only[Value.agg.injEq,zCO,zCB,zCK,zEC]at Bj;obtain⟨rfl,rfl,rfl⟩:=Bj;obtain⟨rfl,rfl⟩:a2=a2'/\c2=c2':=by have:=WV.eq;simpa using this
 have HP:Hid (bT w (.slice a2 b.ptz.length c2) b.ptz.length a2 c2/\_):=⟨WV,Lk⟩
 have q7:=WV.le;have hpb:=WV.Q5;unfold maxLen at hpb;have Km:=hid km;obtain⟨A1,bh⟩:=ex1 (w.alloc (.cells #[.int .i64 b.ak,.int .i64 b.ah,.slice a2 b.ptz.length c2,.slice a3 b.aL.length c3,.slice a4 b.aX.length c4] 26));have B1:Hid (aA A1 w.heap.size 26 #[.int .i64 b.ak,.int .i64 b.ah,.slice a2 b.ptz.length c2,.slice a3 b.aL.length c3,.slice a4 b.aX.length c4]):=eC bh;have HW:Hid (Below w.heap.size w A1):=(dM bh).below (by simp) (zAB _);have z0:=B1.o.cell 0 rfl;have z1:=B1.o.cell 1 rfl;have z2:=B1.o.cell 2 rfl;have z3:=B1.o.cell 3 rfl;have z4:=B1.o.cell 4 rfl;clear hv hc km WV Lk;go_enter ZF10,Tryz.ntmps10
 go_wp2_with fail
 refine(Dx A1 b _ a2 c2 _ _ ag rfl (HB.o.later (Kp.of HW.o)) HV.o (HC.o.later HW.o) (λX t hX=>Km.o X t (HW.o.trans (hX.mono HW.o.size)))).mono ?_;rintro e w1 ⟨Hh,bq⟩;have Wm:=hid bq;have cV:=HW.t bq;clear bq z0 z1 z2 z3 z4 bh;rcases Hh with⟨hL,rfl⟩|⟨hL,a,c,rfl,xu,_⟩
 .have HL:=hid hL;clear hL;go_wp2
  go_ret2;exact⟨.inl ⟨HL.o,rfl⟩,cV.o.alloc cV.o.size _⟩
 .obtain⟨A2,bL⟩:=ex1 (w1.alloc (.cells #[.int .i64 b.ak,.int .i64 b.ah,.slice a2 b.ptz.length c2,.slice a3 b.aL.length c3,.slice a4 b.aX.length c4,.slice a (an b ag).length c] 81));have B2:Hid (aA A2 w1.heap.size 81 #[.int .i64 b.ak,.int .i64 b.ah,.slice a2 b.ptz.length c2,.slice a3 b.aL.length c3,.slice a4 b.aX.length c4,.slice a (an b ag).length c]):=eC bL;have qW:Hid (Below w1.heap.size w1 A2):=(dM bL).below (by simp) (zAB _);have gW:=cV.t qW.o;have hC:=DC A2 b _ _ _ _ (an b ag) (HB.o.later (Kp.of gW.o)) HV.o (xu.later (Kp.of qW.o)) hL (nN HV.o ag);have z0:=B2.o.cell 0 rfl;have z1:=B2.o.cell 1 rfl;have z2:=B2.o.cell 2 rfl;have z3:=B2.o.cell 3 rfl;have z4:=B2.o.cell 4 rfl;have z5:=B2.o.cell 5 rfl;have HL:=hid hL;clear hL xu;go_wp2_with fail
  refine hC.mono ?_;rintro e w2 ⟨⟨vs,rfl,sr,gq⟩,eQ⟩;obtain⟨S,hSS⟩:=ex1 (aV b (an b ag));have Pj:=hid hSS;rw[hSS]at sr;have RJ:=hid sr;have Ue:=hid gq;obtain⟨sa,sc,rfl,_,_⟩:=sr.slice;have H22:=hid eQ;have iI:=gW.t eQ;have C1:Hid (aA w2 w.heap.size 26 #[.int .i64 b.ak,.int .i64 b.ah,.slice a2 b.ptz.length c2,.slice a3 b.aL.length c3,.slice a4 b.aX.length c4]):=(B1.o.below (Wm.o.trans (qW.o.mono Wm.o.size)) B1.o.lt).below H22.o ((B1.o.below (Wm.o.trans (qW.o.mono Wm.o.size)) B1.o.lt).lt);have C2:=hidb B2 H22.o;obtain⟨A3,gP⟩:=ex1 (w2.alloc (.cells #[.slice sa S.length sc] 85));have zH:A3.heap.size=w2.heap.size+1:=AQ gP;obtain⟨A4,pA⟩:=ex1 (A3.alloc (.map #[] 0));have Ub:=snew2 pA zH;obtain⟨A5,YA⟩:=ex1 (A4.alloc (.cells #[.map (some (w2.heap.size+1))] 87));have hs5:=snew2 YA Ub;have Gc:=@run_makeMap ZP;obtain⟨A6,Xu⟩:=ex1 (A5.alloc (.cells #[.nilFunc] 88));have hs6:=snew2 Xu hs5;have D6:=bnew2 Xu hs5;have q6:=D6.o.c1;have f6:=D6.o.aH 0;obtain⟨A7,hA7⟩:=ex1 (A6.setCell ⟨w2.heap.size+1+1+1,0,none⟩ (.func (.func 54) #[] #[ptr (w2.heap.size+1+1),ptr w2.heap.size,ptr w1.heap.size,ptr (w2.heap.size+1+1+1)]));have hs7:A7.heap.size=w2.heap.size+1+1+1+1:=by rw[<-hA7,<-hs6];simp[World.setCell]
  have D7:Hid (aA A7 (w2.heap.size+1+1+1) 88 #[.func (.func 54) #[] #[ptr (w2.heap.size+1+1),ptr w2.heap.size,ptr w1.heap.size,ptr (w2.heap.size+1+1+1)]]):=by rw[<-hA7];exact D6.o.set 0 _
  obtain⟨A8,hA8⟩:=ex1 (A7.alloc (.cells #[.int .i64 0,.int .i64 0,.int .i64 0,.int .i64 0,.int .i64 0] 91));have K26:aa [] w2 A6:=by rw[<-Xu,<-YA,<-pA,<-gP];exact((((aa.alloc [] _ _).cU _).cU _).cU _)
  have K67:aa [w2.heap.size+1+1+1] A6 A7:=by rw[<-hA7];exact aa.set _ (by simp) _
  have YB:=knew hA8;have K28:Hid (aa [] w2 A8):=(K26.trans K67 (λx hx=>by simp at hx;subst hx;exact .inr (by omega))).trans' YB
  have E3:Hid (aA A8 w2.heap.size 85 #[.slice sa S.length sc]):=by
   refine YB.box (K67.box ?_ (by simp<;>omega)) (by simp);rw[<-Xu];refine(aa.alloc [] _ _).box ?_ (by simp);rw[<-YA];refine(aa.alloc [] _ _).box ?_ (by simp);rw[<-pA];refine(aa.alloc [] _ _).box ?_ (by simp);exact eC gP
  have E5:Hid (aA A8 (w2.heap.size+1+1) 87 #[.map (some (w2.heap.size+1))]):=by
   refine YB.box (K67.box ?_ (by simp<;>omega)) (by simp);rw[<-Xu];refine(aa.alloc [] _ _).box ?_ (by simp);rw[<-YA,<-Ub];exact aA.new _ _ _
  have E7:Hid (aA A8 (w2.heap.size+1+1+1) 88 #[.func (.func 54) #[] #[ptr (w2.heap.size+1+1),ptr w2.heap.size,ptr w1.heap.size,ptr (w2.heap.size+1+1+1)]]):=YB.box D7.o (by simp);have E8:=bnew2 hA8 hs7;have E2:Hid (aA A8 w1.heap.size 81 #[.int .i64 b.ak,.int .i64 b.ah,.slice a2 b.ptz.length c2,.slice a3 b.aL.length c3,.slice a4 b.aX.length c4,.slice a (an b ag).length c]):=K28.o.box C2.o (by simp);have E1:Hid (aA A8 w.heap.size 26 #[.int .i64 b.ak,.int .i64 b.ah,.slice a2 b.ptz.length c2,.slice a3 b.aL.length c3,.slice a4 b.aX.length c4]):=K28.o.box C1.o (by simp);have zjV:w1.heap.size<w2.heap.size:=C2.o.lt
  have EM:Hid (bE A8 b.ah.toNat S (w2.heap.size+1) (.map [])):=by
   have h0:bE A4 b.ah.toNat S (w2.heap.size+1) (.map []):=by rw[<-pA,<-zH];exact bE.made A3 _ _
   have h1:bE A6 b.ah.toNat S (w2.heap.size+1) (.map []):=bE.on h0 (by
    have hk:aa [] A4 A6:=by rw[<-Xu,<-YA];exact(aa.alloc [] _ _).cU _
    exact hk.block _ (by omega) (by simp))
   exact bE.on (bE.on h1 (K67.block _ (by omega) (by simp<;>omega))) (YB.block _ (by omega) (by simp))
  have zhc:Hid (∀m∈S,∀i,i<b.ah.toNat->0<=m i/\m i<5):=λm hm i hi=>by
   rw[<-Pj.o]at hm;exact na HV.o m (zCG.1 hm).1 i
  have HMA:Hid (gh A8 b (.slice a2 b.ptz.length c2) (.slice a3 b.aL.length c3) (.slice a4 b.aX.length c4) (.slice a (an b ag).length c) sa sc S (w2.heap.size+1+1) w2.heap.size w1.heap.size (w2.heap.size+1+1+1) (w2.heap.size+1)):=
   ⟨E5.o,E3.o,E2.o,E7.o,RJ.o.on λj hj av=>K28.o.block j av (by simp),⟨by omega,by omega,by omega,by omega⟩,λj hj=>by
     obtain⟨a',c',h1,_⟩:=RJ.o;have he:=h1.eq;simp only[Value.slice.injEq,zCK]at he;obtain⟨rfl,rfl⟩:=he;cases sa with
     |none=>cases hj
     |some ad=>
      cases hj;rcases h1.row ad rfl with h|⟨cs,e,fz,h⟩
      .exact .inr h
      .have:=(zAD.1 h).1;exact .inl (by omega)⟩
  obtain⟨-,-,y2⟩:=E1.o.c3;have HKW:Hid (Below w.heap.size w A8):=iI.o.trans (K28.o.below (by simp) iI.o.size);clear eQ sr hC z0 z1 z2 z3 z4 z5 bL gq hSS;have hp5:=HV.o.ptz.many
  have zhd:Hid (∀j,(Value.slice sa S.length sc).ownBlock=some j->j≠w2.heap.size+1+1+1+1\/sc=0):=λj hj=>by
   obtain⟨a',c',h1,_⟩:=RJ.o;have he:=h1.eq;simp only[Value.slice.injEq,zCK]at he;obtain⟨rfl,rfl⟩:=he;cases sa with
   |none=>cases hj
   |some ad=>
    cases hj;rcases h1.row ad rfl with h|⟨cs,e,fz,h⟩
    .exact .inr h
    .have:=(zAD.1 h).1;exact .inl (by omega)
  go_wp2_with fail
  clear gP pA YA Xu hA7 hA8 zH Ub hs5 hs6 hs7 q6 f6 y2 K26 K67 YB Gc;go_loopw [27,10,11] (λi _ _ wr=>∃k:Nat,k<=b.ptz.length/\i=.int .i64 k/\Hid (aa [w2.heap.size+1+1+1+1] A8 wr/\aA wr (w2.heap.size+1+1+1+1) 91 (tick (cB b k)))) (λi _ _ _=>b.ptz.length-(intOf i).toNat)
  case atStart=>exact⟨0,zAM _,rfl,aa.refl _ _,E8.o⟩
  case round=>
   obtain⟨k,hk,rfl,hK⟩:=hrel;have tA:Hid (Below w.heap.size w wr):=HKW.o.trans (hK.o.1.below (by simp;have:=iI.o.size;omega) HKW.o.size);by_cases av:k<b.ptz.length
   .obtain⟨⟨blk,off,sp⟩,x,rfl,hx,x0,x1,x2,x3,x4,vf,x5,Lv⟩:=HP.o.1.elem HP.o.2 av;obtain rfl:sp=none:=x0.1;obtain⟨fa,fc,RZ,_⟩:=Lv;obtain rfl:=RZ.eq;have HX:=hid hx;have hki:(k:Int)<(b.ptz.length:Int):=by omega
    have hk5:k<5:=by omega
    have znS:(k:Int)<5:=by omega
    have p0:=(x0.later (Kp.of tA.o)).2;have p1:=(x1.later (Kp.of tA.o)).2;have p2:=(x2.later (Kp.of tA.o)).2;have p3:=(x3.later (Kp.of tA.o)).2;have p4:=(x4.later (Kp.of tA.o)).2;have p5:=(x5.later (Kp.of tA.o)).2;simp only[<-zBD]at p0 p1 p2 p3 p4 p5;obtain⟨wt,rO⟩:=ex1 (wr.alloc (.cells #[.string x.name,.int .i64 x.cost,.int .i64 x.dm,.int .i64 x.lo,.int .i64 x.hi,.slice fa x.fits.length fc] 37));have BT:Hid (aA wt wr.heap.size 37 #[.string x.name,.int .i64 x.cost,.int .i64 x.dm,.int .i64 x.lo,.int .i64 x.hi,.slice fa x.fits.length fc]):=eC rO;have KT:Hid (aa [w2.heap.size+1+1+1+1] wr wt):=by rw[<-rO];exact aa.alloc _ _ _
    have znT:=hK.o.2.lt;have BS:Hid (aA wt (w2.heap.size+1+1+1+1) 91 (tick (cB b k))):=by rw[<-rO];exact(aa.alloc [] _ _).box hK.o.2 (by simp)
    obtain⟨-,-,q2⟩:=BT.o.c3;have q8:wt.cell? ⟨w2.heap.size+1+1+1+1,k,none⟩=some (.int .i64 (cB b k k)):=BS.o.cell k (dV hk5 _);have f8:=BS.o.aH k;obtain⟨wn,Um⟩:=ex1 (wt.setCell ⟨w2.heap.size+1+1+1+1,k,none⟩ (.int .i64 x.dm))
    have BN:Hid (aA wn (w2.heap.size+1+1+1+1) 91 (tick (cB b (k+1)))):=by
     have h:=BS.o.set k (.int .i64 x.dm);rwa [qA hk5,Um,DZ hx]at h
    have KN:Hid (aa [w2.heap.size+1+1+1+1] A8 wn):=hK.o.1.trans' (KT.o.trans' (by rw[<-Um];exact aa.set _ (by simp) _));clear x0 x1 x2 x3 x4 x5 hx RZ;go_wp2_with fail
    refine⟨⟨k+1,by omega,by go_num,KN.o,BN.o⟩,by simp[intOf];omega⟩
   .have e:k=b.ptz.length:=by omega
    subst e
    have HMr:Hid (gh wr b (.slice a2 b.ptz.length c2) (.slice a3 b.aL.length c3) (.slice a4 b.aX.length c4) (.slice a (an b ag).length c) sa sc S (w2.heap.size+1+1) w2.heap.size w1.heap.size (w2.heap.size+1+1+1) (w2.heap.size+1)):=
     HMA.o.on2 hK.o.1 ⟨by omega,by omega,by omega,by omega⟩ zhd.o
    have EMr:Hid (bE wr b.ah.toNat S (w2.heap.size+1) (.map [])):=bE.on EM.o (hK.o.1.block _ EM.o.lt (by simp<;>omega));have zhe:=HV.o.ah;have hC:=Oh b b.ah.toNat (by omega) (by omega) _ _ _ _ sa sc S zhc.o _ _ _ _ _ (total (cB b b.ptz.length)+1) wr (cB b b.ptz.length) (.map []) (by omega) (GH HV.o _) HMr.o EMr.o;have cm:=HMr.o.fm.cell 0 rfl;obtain⟨c0c,c1c,c2c,c3c,c4c⟩:=hK.o.2.c5;obtain⟨mo,j7⟩:∃mo:Nat,ci b.ah.toNat S (cB b b.ptz.length)=mo:=⟨_,rfl⟩
    have Rk:=hid j7;rw[j7]at hC;simp only[tick]at hC;clear j7 zhe
    go_wp2_with(go_at_call 54
                refine hC.mono ?_;rintro e w7 ⟨⟨rfl,_⟩,hk7⟩;have Oi:=hid hk7;clear hk7 hC)
    go_ret2;exact⟨.inr ⟨HL.o,by rw[Pj.o,Rk.o];rfl⟩,tA.o.trans (Oi.o.below (by simp;have:=iI.o.size;omega) tA.o.size)⟩
end Go.Proofs.Cz
namespace Go.Proofs.Cz
open Go.RowKit
open Classical in
noncomputable def aR (b:ab) (own:Int):Int:=if aU b=0 then(if own=0 then(if DV b=[]then 9 else 0)else own)else aU b
end Go.Proofs.Cz

namespace Go.Proofs.Cz
open Go.RowKit
noncomputable def oA (b:ab):Nat:=if aU b=0 then(DV b).length else 0
end Go.Proofs.Cz

namespace Go.Proofs.Cz
open Go.RowKit
noncomputable def jE (b:ab) (m:List Int):fu:=if aR b (aK b m)=0 then .agg #[.int .i64 (pg b.ah.toNat (an b (aj b)) (ac m)),.int .i64 (kN b.ah.toNat (an b (aj b)) (ac m))]else .agg #[.int .i64 0,.int .i64 0]
section
variable {w W X:nq} {b:ab} {g2 k2 k3 k4 g4 d2 d4:Nat} {p3 p4:Option Addr} {L2:List (Part × fu)} {L4:List (eH × fu)}
end
end Go.Proofs.Cz

set_option maxHeartbeats 8000000
set_option maxRecDepth 100000
namespace Go.Proofs.Cz
open Go.RowKit
def zbO {W:nq} {g:Nat} (h:aA W g 26 z26):(W.cell? ⟨g,0,none⟩=some (.int .i64 0)/\W.cell? ⟨g,1,none⟩=some (.int .i64 0)/\W.cell? ⟨g,2,none⟩=some (.slice none 0 0)/\W.cell? ⟨g,3,none⟩=some (.slice none 0 0)/\W.cell? ⟨g,4,none⟩=some (.slice none 0 0))/\
 W.frozen? ⟨g,0,none⟩=false/\W.frozen? ⟨g,1,none⟩=false/\W.frozen? ⟨g,2,none⟩=false/\W.frozen? ⟨g,3,none⟩=false/\W.frozen? ⟨g,4,none⟩=false:=
 ⟨⟨h.cell 0 rfl,h.cell 1 rfl,h.cell 2 rfl,h.cell 3 rfl,h.cell 4 rfl⟩,h.aH 0,h.aH 1,h.aH 2,h.aH 3,h.aH 4⟩
def nP (f:fu) (w:nq) (v:fu) (b:ab) (hb:ar w v b) (hs:d9 b) (hc:jh w) (hn:aU b≠0):
 Calls ZP 51 #[v,f] w (bK w (.tuple #[gX,.int .i64 (aU b)])):=by
 have HB:=hid hb;obtain⟨a2,c2,a3,c3,a4,c4,rfl⟩:=hb.dJ;obtain⟨A1,bh⟩:=ex1 (w.alloc (.cells #[.int .i64 b.ak,.int .i64 b.ah,.slice a2 b.ptz.length c2,.slice a3 b.aL.length c3,.slice a4 b.aX.length c4] 26));obtain⟨A2,bL⟩:=ex1 (A1.alloc (.cells #[.int .i64 0,.int .i64 0,.slice none 0 0,.slice none 0 0,.slice none 0 0,.slice none 0 0] 81));have eL:=AQ bh;have B1:Hid (aA A2 w.heap.size 26 #[.int .i64 b.ak,.int .i64 b.ah,.slice a2 b.ptz.length c2,.slice a3 b.aL.length c3,.slice a4 b.aX.length c4]):=(dM bL).box (eC bh) (by simp);have B2:Hid (aA A2 (w.heap.size+1) 81 #[.int .i64 0,.int .i64 0,.slice none 0 0,.slice none 0 0,.slice none 0 0,.slice none 0 0]):=by have:=eC bL;rw[eL]at this;exact this
 have HW:Hid (Below w.heap.size w A2):=((dM bh).trans' (dM bL)).below (by simp) (zAB _);obtain⟨z0,z1,z2,z3,z4⟩:=B1.o.c5;have hC:=iJ A2 _ b (HB.o.later (Kp.of HW.o)) hs (hc.later HW.o);obtain⟨s,LB⟩:=ex1 (aU b);rw[LB]at hC hn⊢;clear hb hc hs LB;go_enter ZF51,Tryz.ntmps51
 go_wp2_with fail
 refine hC.mono ?_;rintro e w1 ⟨⟨r,rfl,rfl⟩,bq⟩;have cV:=hid bq;have pf:=HW.t bq;have HR:=B2.o.below bq B2.o.lt;obtain⟨⟨t0,t1,t2,t3,t4,t5⟩,f0,f1,f2,f3,f4,f5⟩:=Uk HR;have e0:=HR.same (i:=0) (v:=.int .i64 0) rfl;have e1:=HR.same (i:=1) (v:=.int .i64 0) rfl;have e2:=HR.same (i:=2) (v:=.slice none 0 0) rfl;have e3:=HR.same (i:=3) (v:=.slice none 0 0) rfl;have e4:=HR.same (i:=4) (v:=.slice none 0 0) rfl;have e5:=HR.same (i:=5) (v:=.slice none 0 0) rfl;clear bq z0 z1 z2 z3 z4 hC bh bL HR eL;go_wp2_with fail
 refine bodyPost_ret (v:=.tuple #[gX,.int .i64 r]) ?_ rfl ⟨rfl,pf.o⟩;rw[results_cell_tmp rfl];go_simp
end Go.Proofs.Cz
