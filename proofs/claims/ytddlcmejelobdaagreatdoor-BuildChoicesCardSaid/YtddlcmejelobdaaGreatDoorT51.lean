/- A part. Conditions: none. -/
import Derived.Test.YtddlcmejelobdaaGreatDoorT48
import Derived.Laws.EntriesVeiled
import Derived.Test.YtddlcmejelobdaaGreatDoorT45
import Derived.Test.YtddlcmejelobdaaGreatDoorT44
import Derived.Deep.RegionWith
set_option linter.all false
set_option maxHeartbeats 8000000
set_option maxRecDepth 100000
namespace Go.Proofs.Cz
open Go.RowKit Go.Maps
def ci (b:aj) (k:Nat):Nat->Int:=λi=>if i<k then(match b.ptz[i]? with|some x=>x.d8|none=>0)else 0
def Eo {b:aj} {k:Nat} {x:Part} (h:b.ptz[k]?=some x):upd (ci b k) k x.d8=ci b (k+1):=by
 funext i;unfold ci;by_cases e:i=k
 .subst e;rw[cw,zAE (zBT _),h]
 .rw[aC _ _ e];by_cases h1:i<k
  .rw[zAE h1,zAE (by omega)]
  .rw[zAG h1,zAG (by omega)]
def G9 {b:aj} (hv:Valid b) (k:Nat):fh (ci b k):=λi _=>by
 unfold ci;split
 .cases h:b.ptz[i]? with
  |none=>simp
  |some x=>exact(hv.ptz.all i x (zAO.1 h).1 h).1.d8
 .simp
def zco (w:nq) (b:aj) (L:List (Nat->Int)) (e:Ending) (w':nq):Prop:=
 ((L=[]/\e=.returned (.tuple #[.int .i64 0,.int .i64 9]))\/(L≠ []/\e=.returned (.tuple #[.int .i64 (aY b.aq.toNat (ar b L) (ci b b.ptz.length):Nat),.int .i64 0])))/\Below w.heap.size w w'
def He (w:nq) (v:fu) (b:aj) (ag:(Nat->Int)->Bool) (hb:az w v b) (hv:Valid b) (hc:rz w) (nL:qg w v ag):Calls ZP 10 #[v] w (zco w b (an b ag)):=by
 have HB:=hid hb;have HV:=hid hv;have HC:=hid hc;obtain⟨a2,c2,a3,c3,a4,c4,rfl⟩:=hb.db;obtain⟨_,_,_,BF,⟨Ym,c2',YO,LJ⟩,_⟩:=hb;simp only[Value.agg.injEq,zDC,zCQ,zCS,zER]at BF;obtain⟨rfl,rfl,rfl⟩:=BF;obtain⟨rfl,rfl⟩:a2=Ym/\c2=c2':=by have:=YO.eq;simpa using this
 have HP:Hid (bi w (.slice a2 b.ptz.length c2) b.ptz.length a2 c2/\_):=⟨YO,LJ⟩
 have tU:=YO.le;have hpb:=YO.IU;unfold maxLen at hpb;have KQ:=hid nL;obtain⟨A1,aZ⟩:=ex1 (w.alloc (.cells (bx b a2 c2 a3 c3 a4 c4) 26));have B1:=hid (cF aZ);have HW:=hid ((bG aZ).below (by simp) (zAA _));have z0:=B1.o.cell 0 rfl;have z1:=B1.o.cell 1 rfl;have z2:=B1.o.cell 2 rfl;have z3:=B1.o.cell 3 rfl;have z4:=B1.o.cell 4 rfl;go_enter ZF10,Tryz.ntmps10
 go_wp2_with fail
 refine(DT A1 b _ a2 c2 _ _ ag rfl (HB.o.later (Kp.of HW.o)) HV.o (HC.o.later HW.o) (λX t hX=>KQ.o X t (HW.o.trans (hX.mono HW.o.size)))).mono ?_;rintro e w1 ⟨Fy,bJ⟩;have WO:=hid bJ;have cO:=HW.t bJ;rcases Fy with⟨hL,rfl⟩|⟨hL,a,c,rfl,Sk,_⟩
 .have HL:=hid hL;go_wp2
  go_ret2;exact⟨.inl ⟨HL.o,rfl⟩,cO.o.alloc cO.o.size _⟩
 .obtain⟨A2,cL⟩:=ex1 (w1.alloc (.cells #[.int .i64 b.aB,.int .i64 b.aq,.slice a2 b.ptz.length c2,.slice a3 b.cj.length c3,.slice a4 b.cR.length c4,.slice a (an b ag).length c] 81));have B2:=hid (cF cL);have zh:=hid ((bG cL).below (by simp) (zAA _));have eu:=cO.t zh.o;have hC:=DW A2 b _ _ _ _ (an b ag) (HB.o.later (Kp.of eu.o)) HV.o (Sk.later (Kp.of zh.o)) hL (sB HV.o ag);have z0:=B2.o.cell 0 rfl;have z1:=B2.o.cell 1 rfl;have z2:=B2.o.cell 2 rfl;have z3:=B2.o.cell 3 rfl;have z4:=B2.o.cell 4 rfl;have z5:=B2.o.cell 5 rfl;have HL:=hid hL;go_wp2_with fail
  refine hC.mono ?_;rintro e w2 ⟨⟨vs,rfl,pO,gX⟩,ib⟩;obtain⟨S,PN⟩:=ex1 (ar b (an b ag));have B7:=hid PN;rw[PN]at pO;have KV:=hid pO;have I7:=hid gX;obtain⟨sa,sc,rfl,_,_⟩:=pO.slice;have H22:=hid ib;have gJ:=eu.t ib;have C1:=hid ((B1.o.below (WO.o.trans (zh.o.mono WO.o.size)) B1.o.lt).below H22.o ((B1.o.below (WO.o.trans (zh.o.mono WO.o.size)) B1.o.lt).lt));have C2:=hidb B2 H22.o;obtain⟨A3,jr⟩:=ex1 (w2.alloc (.cells #[.slice sa S.length sc] 85));have If:=uO jr;obtain⟨A4,xV⟩:=ex1 (A3.alloc (.map #[] 0));have hs4:=snew2 xV If;obtain⟨A5,hA5⟩:=ex1 (A4.alloc (.cells #[.map (some (w2.heap.size+1))] 87));have hs5:=snew2 hA5 hs4;have y7:=@run_makeMap ZP;obtain⟨A6,Zj⟩:=ex1 (A5.alloc (.cells #[.nilFunc] 88));have hs6:=snew2 Zj hs5;have D6:=bnew2 Zj hs5;have q6:=D6.o.c1;have f6:=D6.o.aH 0;obtain⟨A7,hA7⟩:=ex1 (A6.setCell ⟨w2.heap.size+1+1+1,0,none⟩ (.func (.func 54) #[] #[ptr (w2.heap.size+1+1),ptr w2.heap.size,ptr w1.heap.size,ptr (w2.heap.size+1+1+1)]));have hs7:A7.heap.size=w2.heap.size+1+1+1+1:=by rw[<-hA7,<-hs6];simp[World.setCell]
  have D7:Hid (aL A7 (w2.heap.size+1+1+1) 88 #[.func (.func 54) #[] #[ptr (w2.heap.size+1+1),ptr w2.heap.size,ptr w1.heap.size,ptr (w2.heap.size+1+1+1)]]):=by rw[<-hA7];exact D6.o.set 0 _
  obtain⟨A8,hA8⟩:=ex1 (A7.alloc (.cells #[.int .i64 0,.int .i64 0,.int .i64 0,.int .i64 0,.int .i64 0] 91));have K26:ab [] w2 A6:=by rw[<-Zj,<-hA5,<-xV,<-jr];exact((((ab.alloc [] _ _).fG _).fG _).fG _)
  have K67:ab [w2.heap.size+1+1+1] A6 A7:=by rw[<-hA7];exact ab.set _ (by simp) _
  have K78:=knew hA8;have K28:=hid ((K26.trans K67 (λx hx=>by simp at hx;subst hx;exact .inr (by omega))).trans' K78)
  have E3:Hid (aL A8 w2.heap.size 85 #[.slice sa S.length sc]):=by
   refine K78.box (K67.box ?_ (by simp<;>omega)) (by simp);rw[<-Zj];refine(ab.alloc [] _ _).box ?_ (by simp);rw[<-hA5];refine(ab.alloc [] _ _).box ?_ (by simp);rw[<-xV];refine(ab.alloc [] _ _).box ?_ (by simp);exact cF jr
  have E5:Hid (aL A8 (w2.heap.size+1+1) 87 #[.map (some (w2.heap.size+1))]):=by
   refine K78.box (K67.box ?_ (by simp<;>omega)) (by simp);rw[<-Zj];refine(ab.alloc [] _ _).box ?_ (by simp);rw[<-hA5,<-hs4];exact aL.new _ _ _
  have E7:=hid (K78.box D7.o (by simp));have E8:=bnew2 hA8 hs7;have E2:=hid (K28.o.box C2.o (by simp));have E1:=hid (K28.o.box C1.o (by simp));have zkT:=C2.o.lt
  have EM:Hid (bP A8 b.aq.toNat S (w2.heap.size+1) (.map [])):=by
   have h0:bP A4 b.aq.toNat S (w2.heap.size+1) (.map []):=by rw[<-xV,<-If];exact bP.made A3 _ _
   have h1:bP A6 b.aq.toNat S (w2.heap.size+1) (.map []):=bP.on h0 (by
    have hk:ab [] A4 A6:=by rw[<-Zj,<-hA5];exact(ab.alloc [] _ _).fG _
    exact hk.block _ (by omega) (by simp))
   exact bP.on (bP.on h1 (K67.block _ (by omega) (by simp<;>omega))) (K78.block _ (by omega) (by simp))
  have zhY:Hid (∀m∈S,∀i,i<b.aq.toNat->0<=m i/\m i<5):=λm hm i hi=>by
   rw[<-B7.o]at hm;exact nW HV.o m (zCW.1 hm).1 i
  have HMA:Hid (gM A8 b (.slice a2 b.ptz.length c2) (.slice a3 b.cj.length c3) (.slice a4 b.cR.length c4) (.slice a (an b ag).length c) sa sc S (w2.heap.size+1+1) w2.heap.size w1.heap.size (w2.heap.size+1+1+1) (w2.heap.size+1)):=
   ⟨E5.o,E3.o,E2.o,E7.o,KV.o.on λj hj au=>K28.o.block j au (by simp),⟨by omega,by omega,by omega,by omega⟩,λj hj=>by
     obtain⟨a',c',h1,_⟩:=KV.o;have he:=h1.eq;simp only[Value.slice.injEq,zCS]at he;obtain⟨rfl,rfl⟩:=he;cases sa with
     |none=>cases hj
     |some ad=>
      cases hj;rcases h1.row ad rfl with h|⟨cs,e,fz,h⟩
      .exact .inr h
      .have:=(zAC.1 h).1;exact .inl (by omega)⟩
  obtain⟨-,-,y2⟩:=E1.o.c3;have HKW:=hid (gJ.o.trans (K28.o.below (by simp) gJ.o.size));have hp5:=HV.o.ptz.many
  have zhZ:Hid (∀j,(Value.slice sa S.length sc).ownBlock=some j->j≠w2.heap.size+1+1+1+1\/sc=0):=λj hj=>by
   obtain⟨a',c',h1,_⟩:=KV.o;have he:=h1.eq;simp only[Value.slice.injEq,zCS]at he;obtain⟨rfl,rfl⟩:=he;cases sa with
   |none=>cases hj
   |some ad=>
    cases hj;rcases h1.row ad rfl with h|⟨cs,e,fz,h⟩
    .exact .inr h
    .have:=(zAC.1 h).1;exact .inl (by omega)
  go_wp2_with fail
  go_loopw [27,10,11] (λi _ _ wr=>∃k:Nat,k<=b.ptz.length/\i=.int .i64 k/\Hid (ab [w2.heap.size+1+1+1+1] A8 wr/\aL wr (w2.heap.size+1+1+1+1) 91 (tick (ci b k)))) (λi _ _ _=>b.ptz.length-(intOf i).toNat)
  case atStart=>exact⟨0,zAJ _,rfl,ab.refl _ _,E8.o⟩
  case round=>
   obtain⟨k,hk,rfl,hK⟩:=hrel;have rU:=hid (HKW.o.trans (hK.o.1.below (by simp;have:=gJ.o.size;omega) HKW.o.size));by_cases au:k<b.ptz.length
   .obtain⟨⟨blk,off,sp⟩,x,rfl,hx,x0,x1,x2,x3,x4,vf,x5,xP⟩:=HP.o.1.elem HP.o.2 au;obtain rfl:sp=none:=x0.1;obtain⟨fa,fc,GO,_⟩:=xP;obtain rfl:=GO.eq;have HX:=hid hx;have Jc:(k:Int)<(b.ptz.length:Int):=by omega
    have hk5:k<5:=by omega
    have zpb:(k:Int)<5:=by omega
    have p0:=(x0.later (Kp.of rU.o)).2;have p1:=(x1.later (Kp.of rU.o)).2;have p2:=(x2.later (Kp.of rU.o)).2;have p3:=(x3.later (Kp.of rU.o)).2;have p4:=(x4.later (Kp.of rU.o)).2;have p5:=(x5.later (Kp.of rU.o)).2;simp only[<-zBD]at p0 p1 p2 p3 p4 p5;obtain⟨wt,uM⟩:=ex1 (wr.alloc (.cells #[.string x.name,.int .i64 x.cost,.int .i64 x.d8,.int .i64 x.lo,.int .i64 x.hi,.slice fa x.fits.length fc] 37));have BT:=hid (cF uM);have KT:Hid (ab [w2.heap.size+1+1+1+1] wr wt):=by rw[<-uM];exact ab.alloc _ _ _
    have zpc:=hK.o.2.lt;have BS:Hid (aL wt (w2.heap.size+1+1+1+1) 91 (tick (ci b k))):=by rw[<-uM];exact(ab.alloc [] _ _).box hK.o.2 (by simp)
    obtain⟨-,-,q2⟩:=BT.o.c3;have q8:=BS.o.cell k (eh hk5 _);have f8:=BS.o.aH k;obtain⟨wn,UK⟩:=ex1 (wt.setCell ⟨w2.heap.size+1+1+1+1,k,none⟩ (.int .i64 x.d8))
    have BN:Hid (aL wn (w2.heap.size+1+1+1+1) 91 (tick (ci b (k+1)))):=by
     have h:=BS.o.set k (.int .i64 x.d8);rwa [rA hk5,UK,Eo hx]at h
    have KN:Hid (ab [w2.heap.size+1+1+1+1] A8 wn):=hK.o.1.trans' (KT.o.trans' (by rw[<-UK];exact ab.set _ (by simp) _));go_wp2_with fail
    refine⟨⟨k+1,by omega,by go_num,KN.o,BN.o⟩,by simp[intOf];omega⟩
   .have e:k=b.ptz.length:=by omega
    subst e
    have HMr:Hid (gM wr b (.slice a2 b.ptz.length c2) (.slice a3 b.cj.length c3) (.slice a4 b.cR.length c4) (.slice a (an b ag).length c) sa sc S (w2.heap.size+1+1) w2.heap.size w1.heap.size (w2.heap.size+1+1+1) (w2.heap.size+1)):=
     HMA.o.on2 hK.o.1 ⟨by omega,by omega,by omega,by omega⟩ zhZ.o
    have EMr:=hid (bP.on EM.o (hK.o.1.block _ EM.o.lt (by simp<;>omega)));have zpe:=HV.o.aq;have hC:=OQ b b.aq.toNat (by omega) (by omega) _ _ _ _ sa sc S zhY.o _ _ _ _ _ (total (ci b b.ptz.length)+1) wr (ci b b.ptz.length) (.map []) (by omega) (G9 HV.o _) HMr.o EMr.o;have cm:=HMr.o.fm.cell 0 rfl;obtain⟨c0c,c1c,c2c,c3c,c4c⟩:=hK.o.2.c5;obtain⟨mo,kX⟩:∃mo:Nat,aY b.aq.toNat S (ci b b.ptz.length)=mo:=⟨_,rfl⟩
    have Ul:=hid kX;rw[kX]at hC;simp only[tick]at hC
    go_wp2_with(go_at_call 54
                refine hC.mono ?_;rintro e w7 ⟨⟨rfl,_⟩,hk7⟩;have HK7:=hid hk7;skip)
    go_ret2;exact⟨.inr ⟨HL.o,by rw[B7.o,Ul.o];rfl⟩,rU.o.trans (HK7.o.below (by simp;have:=gJ.o.size;omega) rU.o.size)⟩
open Go.RowKit
section
variable {w W X:nq} {b:aj} {g2 k2 k3 k4 g4 d2 d4:Nat} {p3 p4:Option Addr} {L2:List (Part × fu)} {L4:List (iC × fu)}
end
end Go.Proofs.Cz

set_option maxHeartbeats 8000000
set_option maxRecDepth 100000
namespace Go.Proofs.Cz
open Go.RowKit
variable {L:List (Nat->Int)} {M:List (List Int)} {b:aj} {j:Nat} {o:List Int}
def tH (w:nq) (vl vm:fu) (L:List (List Int)) (m:List Int) (hl:cz w vl L) (hm:ah w vm m) (hL:L≠ []) (hn:L.length<=2000) (Yx:m.length<=20)
 (h20:∀o∈L,∀i,0<=aa o i/\aa o i<=20) (ti:∀o∈L,∀(j:Nat) (x:Int),m[j]?=some x->0<=x/\x<o.length):
 Calls ZP 74 #[vl,vm] w (cg w (.agg #[.int .i64 (wD m.length (L.map aa) (aa m)),.int .i64 (ir m.length (L.map aa) (aa m))])):=by
 obtain⟨o0,Lt,rfl⟩:=List.exists_cons_of_ne_nil hL;have HM:=hid hm;have H20:=hid h20;have xl:=hid ti;obtain⟨la,lc,PM,hle⟩:=hl;obtain rfl:=PM.eq;have HL:Hid (bi w (.slice la (o0::Lt).length lc) (o0::Lt).length la lc/\∀d,la=some d->∀(j:Nat) (l:List Int),(o0::Lt)[j]?=some l->∃vf,At w d j vf/\ah w vf l):=⟨PM,hle⟩
 have hlc:=PM.le;obtain⟨⟨lb,lf,sp⟩,x,rfl,hx,vf0,e0,ON⟩:=PM.elem hle (show 0<(o0::Lt).length by simp);obtain rfl:sp=none:=e0.1;obtain rfl:o0=x:=by simpa using hx
 obtain⟨n0,P8⟩:=ex1 (br (aa m) (aa o0) m.length);have HN0:=hid P8;obtain⟨A1,aZ⟩:=ex1 (w.alloc (.cells #[.int .i64 0,.int .i64 0] 34));obtain⟨A2,cL⟩:=ex1 (A1.alloc (.cells #[.int .i64 n0,.int .i64 n0] 34));have gE:=uO aZ;have B1:=hid ((bG cL).box (cF aZ) (by simp));have B2:Hid (aL A2 (w.heap.size+1) 34 #[.int .i64 n0,.int .i64 n0]):=by have:=cF cL;rw[gE]at this;exact this
 have jd:=hid ((bG aZ).below (by simp) (zAA _));have HW:=hid (((bG aZ).trans' (bG cL)).below (by simp) (zAA _));have zce:=(e0.later (Kp.of jd.o)).2;have hT0:=nY A1 vf0 vm o0 m (H20.o o0 (by simp)) (ON.later (Kp.of jd.o)) (HM.o.later (Kp.of jd.o)) Yx (xl.o o0 (by simp));rw[P8]at hT0;have hlen:((o0::Lt).length:Int)=(Lt.length:Int)+1:=by simp
 obtain⟨LL,E0⟩:=ex1 ((o0::Lt).length);have Bj:Hid (LL=Lt.length+1):=by unfold Hid;rw[<-E0];simp
 have hlp:(0:Int)<(LL:Int):=by have:=Bj.o;omega
 simp only[zCH]at zce;rw[E0]at hlc hn⊢;clear hm h20 ti PM hle e0 ON hx hL P8 hlen E0;obtain⟨T,hT⟩:=ex1 (Lt.map aa);have HT:=hid hT;have HTG:Hid (∀k o,Lt[k]?=some o->T[k]?=some (aa o)):=λk o h=>by rw[<-hT,zCG,h];rfl
 have B8:Hid (T.length=Lt.length):=by unfold Hid;rw[<-hT,zEI]
 have pK:wD m.length ((o0::Lt).map aa) (aa m)=du (aa m) m.length (aa o0) T/\ir m.length ((o0::Lt).map aa) (aa m)=dv (aa m) m.length (aa o0) T:=by rw[<-hT];exact⟨rfl,rfl⟩
 rw[pK.1,pK.2];have zcf:Hid (du (aa m) m.length (aa o0) []=n0/\dv (aa m) m.length (aa o0) []=n0):=⟨HN0.o,HN0.o⟩
 clear hT pK;go_enter ZF74,Tryz.ntmps74
 go_wp2_with(go_at_call 120;refine hT0.mono ?_;rintro e w' ⟨rfl,UJ⟩;obtain rfl:A1=w':=UJ.symm)
 clear aZ cL zce hT0 gE;go_loopw [7] (λi wr=>∃k q:Nat,k<=Lt.length/\Hid (q=k+1)/\i=.int .i64 (q:Int)/\Hid (aL wr (w.heap.size+1) 34 #[.int .i64 (du (aa m) m.length (aa o0) (T.take k)),.int .i64 (dv (aa m) m.length (aa o0) (T.take k))])/\Hid (ab [w.heap.size+1] A2 wr)) (λi _=>(Lt.length+1)-(intOf i).toNat)
 case atStart=>exact⟨0,1,zAJ _,rfl,rfl,by rw[zGI,zcf.o.1,zcf.o.2];exact B2,ab.refl _ _⟩
 case round=>
  obtain⟨k,q,hk,hQ,rfl,OO,hK⟩:=hrel;have KZ:Hid (Below w.heap.size w wr):=HW.o.trans (hK.o.below (by simp) HW.o.size);have hll:=Bj.o;by_cases au:k<Lt.length
  .obtain⟨_,o,hla,ho,vf,e0,ef⟩:=bi.elem (l:=o0::Lt) HL.o.1 HL.o.2 (show q<(o0::Lt).length by have:=hQ.o;simp;omega);cases hla;have qK:Lt[k]?=some o:=by rw[hQ.o]at ho;simpa using ho
   have hTk:=HTG.o k o qK;have eV:=zAT ho;have xP:=(e0.later (Kp.of KZ.o)).2;have hTO:=nY wr vf vm o m (H20.o o eV) (ef.later (Kp.of KZ.o)) (HM.o.later (Kp.of KZ.o)) Yx (xl.o o eV);have HLo:=tD (m:=aa m) (N:=m.length) (t0:=aa o0) hTk;have HHi:=tC (m:=aa m) (N:=m.length) (t0:=aa o0) hTk;obtain⟨tk,AM⟩:=ex1 (br (aa m) (aa o) m.length);rw[AM]at hTO HLo HHi;have Sj:Hid (du (aa m) m.length (aa o0) (T.take (k+1))=min (du (aa m) m.length (aa o0) (T.take k)) tk/\dv (aa m) m.length (aa o0) (T.take (k+1))=max (dv (aa m) m.length (aa o0) (T.take k)) tk):=⟨HLo,HHi⟩
   obtain⟨lo,tB⟩:=ex1 (du (aa m) m.length (aa o0) (T.take k));obtain⟨hi,A9⟩:=ex1 (dv (aa m) m.length (aa o0) (T.take k));rw[tB,A9]at OO Sj;have y0:=OO.o.cell 0 rfl;have y1:=OO.o.cell 1 rfl;have f0:=OO.o.aH 0;have f1:=OO.o.aH 1;have Jc:(q:Int)<(LL:Int):=by have:=hQ.o;omega
   have yi:q<=2000:=by have:=hQ.o;omega
   have D9:=hid OO.o;clear e0 ef ho qK hTk eV AM HLo HHi tB A9 OO hll;go_wp2_with(go_at_call 120;refine hTO.mono ?_;rintro e w' ⟨rfl,UJ⟩;obtain rfl:wr=w':=UJ.symm)
   go_round
   case rel=>exact⟨k+1,q+1,by omega,by have:=hQ.o;unfold Hid;omega,by go_num,by rw[Sj.o.1,Sj.o.2];exact(D9.o.set 0 _).set 1 _,hK.o.trans' ((ab.set _ (by simp) _).trans' (ab.set _ (by simp) _))⟩
   case measure=>have:=hQ.o;simp[intOf];omega
  .have e:k=Lt.length:=by omega
   subst e;rw[show T.take Lt.length=T by rw[<-B8.o,zBN]]at OO;have zoT:¬(q:Int)<(LL:Int):=by have:=hQ.o;omega
   have hP6:=hid (hK.o.box B1.o (by simp));obtain⟨lo,tB⟩:=ex1 (du (aa m) m.length (aa o0) T);obtain⟨hi,A9⟩:=ex1 (dv (aa m) m.length (aa o0) T);rw[tB,A9]at OO;have Zc:Hid (du (aa m) m.length (aa o0) T=lo/\dv (aa m) m.length (aa o0) T=hi):=⟨tB,A9⟩
   have y0:=OO.o.cell 0 rfl;have y1:=OO.o.cell 1 rfl;have s0:=hP6.o.cell 0 rfl;have s1:=hP6.o.cell 1 rfl;have f0:=hP6.o.aH 0;have f1:=hP6.o.aH 1;clear tB A9;go_wp2_with fail
   have hP7:=(hP6.o.set 0 (.int .i64 lo)).set 1 (.int .i64 hi);have ke:Hid (Below w.heap.size w ((wr.setCell ⟨w.heap.size,0,none⟩ (.int .i64 lo)).setCell ⟨w.heap.size,1,none⟩ (.int .i64 hi))):=KZ.o.trans (((ab.set (O:=[w.heap.size]) _ (by simp) _).trans' (ab.set _ (by simp) _)).below (by simp) KZ.o.size);have q0:=aL.cell hP7 0 rfl;have q1:=aL.cell hP7 1 rfl;refine bodyPost_ret (v:=.agg #[.int .i64 lo,.int .i64 hi]) ?_ rfl ⟨by rw[Zc.o.1,Zc.o.2],ke.o⟩;rw[fO rfl];go_simp
def GZ (L:List (Nat->Int)) (k:Nat):ep (L.map λt=>t k) (rG L k):=by
 refine⟨Ei L k,λy=>?_⟩;rw[Eg,zBY];constructor
 .intro h;obtain⟨t,ht⟩:=List.exists_mem_of_ne_nil _ h;have h2:=zCW.1 ht;exact⟨t,h2.1,by simpa using h2.2⟩
 .rintro⟨t,ht,rfl⟩ e;have h1:t∈OH L k (t k):=zCW.2 ⟨ht,by simp⟩;rw[e]at h1;cases h1
def iD (b:aj) (L:List (Nat->Int)):List (List Int)->List (List Int):=List.filter λo=>decide (ir b.aq.toNat L (aa o)<=b.aB)
def kJ (b:aj) (L:List (Nat->Int)) (M:List (List Int)) (j:Nat):Nat:=(iD b L (M.take j)).length
def G5 (b:aj) (L:List (Nat->Int)) (M:List (List Int)) (j:Nat):kJ b L M j<=j:=zAM (zDE _ _) (List.length_take_le _ _)
def El (ho:M[j]?=some o) (h:ir b.aq.toNat L (aa o)<=b.aB):kJ b L M (j+1)=kJ b L M j+1:=by
 unfold kJ iD;rw[zAX,ho,zCX];simp[h]
def G6 (ho:M[j]?=some o) (h:¬ir b.aq.toNat L (aa o)<=b.aB):kJ b L M (j+1)=kJ b L M j:=by
 unfold kJ iD;rw[zAX,ho,zCX];simp[h]
end Go.Proofs.Cz

set_option maxHeartbeats 8000000
set_option maxRecDepth 100000
namespace Go.Proofs.Cz
open Go.RowKit
def lI (f:fu) (w:nq) (v:fu) (b:aj) (hb:az w v b) (hs:gU b) (hc:rz w) (hn:bE b≠0):
 Calls ZP 51 #[v,f] w (cg w (.tuple #[js,.int .i64 (bE b)])):=by
 have HB:=hid hb;obtain⟨a2,c2,a3,c3,a4,c4,rfl⟩:=hb.db;obtain⟨A1,aZ⟩:=ex1 (w.alloc (.cells (bx b a2 c2 a3 c3 a4 c4) 26));obtain⟨A2,cL⟩:=ex1 (A1.alloc (.cells #[.int .i64 0,.int .i64 0,.slice none 0 0,.slice none 0 0,.slice none 0 0,.slice none 0 0] 81));have gE:=uO aZ;have B1:=hid ((bG cL).box (cF aZ) (by simp));have B2:Hid (aL A2 (w.heap.size+1) 81 #[.int .i64 0,.int .i64 0,.slice none 0 0,.slice none 0 0,.slice none 0 0,.slice none 0 0]):=by have:=cF cL;rw[gE]at this;exact this
 have HW:=hid (((bG aZ).trans' (bG cL)).below (by simp) (zAA _));obtain⟨z0,z1,z2,z3,z4⟩:=B1.o.c5;have hC:=tA A2 _ b (HB.o.later (Kp.of HW.o)) hs (hc.later HW.o);obtain⟨s,hsb⟩:=ex1 (bE b);rw[hsb]at hC hn⊢;go_enter ZF51,Tryz.ntmps51
 go_wp2_with fail
 refine hC.mono ?_;rintro e w1 ⟨⟨r,rfl,rfl⟩,bJ⟩;have cO:=hid bJ;have jd:=HW.t bJ;have HR:=B2.o.below bJ B2.o.lt;obtain⟨⟨t0,t1,t2,t3,t4,t5⟩,f0,f1,f2,f3,f4,f5⟩:=zbZ HR;have e0:=HR.same (i:=0) (v:=.int .i64 0) rfl;have e1:=HR.same (i:=1) (v:=.int .i64 0) rfl;have e2:=HR.same (i:=2) (v:=.slice none 0 0) rfl;have e3:=HR.same (i:=3) (v:=.slice none 0 0) rfl;have e4:=HR.same (i:=4) (v:=.slice none 0 0) rfl;have e5:=HR.same (i:=5) (v:=.slice none 0 0) rfl;go_wp2_with fail
 refine bodyPost_ret (v:=.tuple #[js,.int .i64 r]) ?_ rfl ⟨rfl,jd.o⟩;rw[results_cell_tmp rfl];go_simp
end Go.Proofs.Cz

set_option maxHeartbeats 8000000
namespace Go.Proofs.Cz
open Go.RowKit
def jv (w:nq) (v v':fu) (l:List Int) (h:ah w v l) (h':ah w v' l):Calls ZP 18 #[v,v'] w (cg w (.bool true)):=by
 obtain⟨a,c,h1,h2⟩:=h;obtain⟨a',c',rZ,sQ⟩:=h';have H:Hid (bi w v l.length a c/\_):=⟨h1,h2⟩
 have H':Hid (bi w v' l.length a' c'/\_):=⟨rZ,sQ⟩
 obtain⟨rfl,l1,m1,n1,r1⟩:=h1;obtain⟨rfl,l1',m1',n1',WC⟩:=rZ;unfold maxLen at m1 m1';go_enter ZF18,Tryz.ntmps18
 go_wp2
 go_loopw [5] (λi wr=>∃k:Nat,k<=l.length/\i=.int .i64 k/\∃n,wr=w.drewN n) (λi _=>l.length-(intOf i).toNat)
 case atStart=>exact⟨0,zAJ _,rfl,0,rfl⟩
 case round=>
  obtain⟨k,hk,rfl,n,rfl⟩:=hrel;by_cases au:k<l.length
  .obtain⟨⟨blk,off,sp⟩,y,rfl,hy,y0⟩:=H.o.1.elem H.o.2 au;obtain⟨⟨zct,zcu,S8⟩,y',rfl,LR,y0'⟩:=H'.out.1.elem H'.out.2 au;obtain rfl:sp=none:=y0.1;obtain rfl:S8=none:=y0'.1;rw[hy]at LR;obtain rfl:y=y':=zAW LR;have g0:=y0.2;have g0':=y0'.2;simp only at g0 g0';go_wp2
   go_quiet (fail)
   go_wp2
   go_round
   case rel=>exact⟨k+1,by omega,by go_num,_,rfl⟩
   case measure=>simp[intOf];omega
  .have e:k=l.length:=by omega
   subst e;go_wp2
   go_ret;exact⟨rfl,Below.drewN (Below.refl _ _) _⟩
def Lo:ZP.eqGuardType ZP.depth 34=false:=by kernel_rfl
def lJ {b:aj}:an b (ao b)=[]↔eC b=[]:=by rw[ql,List.map_eq_nil_iff]
def gN {w:nq} {v:fu} {l:List Int} (h:ah w v l):∃a n c,v=.slice a n c:=by
 obtain⟨a,c,⟨rfl,_,_,_,_⟩,_⟩:=h;exact⟨_,_,_,rfl⟩
end Go.Proofs.Cz
