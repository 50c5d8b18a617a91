/- A part. Conditions: none. -/
import Derived.Test.YtddlcmejelobdaaGreatDoorT38
import Derived.Laws.EntriesVeiled
set_option linter.all false
set_option maxHeartbeats 8000000
set_option maxRecDepth 100000
namespace Go.Proofs.Cz
open Go.RowKit Go.Maps
def aH (b:ai) (k:Nat):Nat->Int:=fun i=>if i<k then(match b.parts[i]? with|some x=>x.bL|none=>0)else 0
theorem Ad {b:ai} {k:Nat} {x:Part} (h:b.parts[k]?=some x):upd (aH b k) k x.bL=aH b (k+1):=by
 funext i;unfold aH;by_cases e:i=k
 .subst e;rw[aV,if_pos (Nat.lt_succ_self _),h]
 .rw[an _ _ e];by_cases h1:i<k
  .rw[if_pos h1,if_pos (by omega)]
  .rw[if_neg h1,if_neg (by omega)]
theorem CQ {b:ai} (hv:Valid b) (k:Nat):dn (aH b k):=fun i _=>by
 unfold aH;split
 .cases h:b.parts[i]? with
  |none=>simp
  |some x=>exact(hv.parts.all i x (List.getElem?_eq_some_iff.1 h).1 h).1.bL
 .simp
def Wq (w:World) (b:ai) (L:List (Nat->Int)) (e:Ending) (w':World):Prop:=
 ((L=[]/\e=.returned (.tuple #[.int .i64 0,.int .i64 9]))\/(L≠ []/\e=.returned (.tuple #[.int .i64 (bg b.places.toNat (cr b L) (aH b b.parts.length):Nat),.int .i64 0])))/\Below w.heap.size w w'
theorem CS (w:World) (v:Value) (b:ai) (ag:(Nat->Int)->Bool) (hb:au w v b) (hv:Valid b) (hc:me w) (mc:xp w v ag):Calls ZP 10 #[v] w (Wq w b (aP b ag)):=by
 have HB:=hid hb;have HV:Hid (Valid b):=hv;have HC:Hid (me w):=hc;obtain⟨a2,c2,a3,c3,a4,c4,rfl⟩:=hb.gi;obtain⟨_,_,_,A9,⟨Y9,c2',Ry,GH⟩,_⟩:=hb;simp only[Value.agg.injEq,Array.mk.injEq,List.cons.injEq,true_and,and_true]at A9;obtain⟨rfl,rfl,rfl⟩:=A9;obtain⟨rfl,rfl⟩:a2=Y9/\c2=c2':=by have:=Ry.eq;simpa using this
 have HP:Hid (bS w (.slice a2 b.parts.length c2) b.parts.length a2 c2/\_):=⟨Ry,GH⟩
 have t9:=Ry.le;have hpb:=Ry.MH;unfold maxLen at hpb;have RF:=hid mc;obtain⟨A1,bI⟩:=ex1 (w.alloc (.cells #[.int .i64 b.ao,.int .i64 b.places,.slice a2 b.parts.length c2,.slice a3 b.apart.length c3,.slice a4 b.ab.length c4] 26));have B1:Hid (aD A1 w.heap.size 26 #[.int .i64 b.ao,.int .i64 b.places,.slice a2 b.parts.length c2,.slice a3 b.apart.length c3,.slice a4 b.ab.length c4]):=fe bI;have HW:Hid (Below w.heap.size w A1):=(dd bI).below (by simp) (Nat.le_refl _);have z0:=B1.o.cell 0 rfl;have z1:=B1.o.cell 1 rfl;have z2:=B1.o.cell 2 rfl;have z3:=B1.o.cell 3 rfl;have z4:=B1.o.cell 4 rfl;clear hv hc mc Ry GH;go_enter ZF10,Tryz.ntmps10
 go_wp2_with fail
 refine(JP A1 b _ a2 c2 _ _ ag rfl (HB.o.later (Kp.of HW.o)) HV.o (HC.o.later HW.o) (fun X t hX=>RF.o X t (HW.o.trans (hX.mono HW.o.size)))).mono ?_;rintro e w1 ⟨NT,bE⟩;have QY:=hid bE;have fB:=HW.t bE;clear bE z0 z1 z2 z3 z4 bI;rcases NT with⟨hL,rfl⟩|⟨hL,a,c,rfl,Gi,_⟩
 .have HL:=hid hL;clear hL;go_wp2
  go_ret2;exact⟨.inl ⟨HL.o,rfl⟩,fB.o.alloc fB.o.size _⟩
 .obtain⟨A2,cF⟩:=ex1 (w1.alloc (.cells #[.int .i64 b.ao,.int .i64 b.places,.slice a2 b.parts.length c2,.slice a3 b.apart.length c3,.slice a4 b.ab.length c4,.slice a (aP b ag).length c] 81));have B2:Hid (aD A2 w1.heap.size 81 #[.int .i64 b.ao,.int .i64 b.places,.slice a2 b.parts.length c2,.slice a3 b.apart.length c3,.slice a4 b.ab.length c4,.slice a (aP b ag).length c]):=fe cF;have xk:Hid (Below w1.heap.size w1 A2):=(dd cF).below (by simp) (Nat.le_refl _);have iI:=fB.t xk.o;have hC:=zW A2 b _ _ _ _ (aP b ag) (HB.o.later (Kp.of iI.o)) HV.o (Gi.later (Kp.of xk.o)) hL (vd HV.o ag);have z0:=B2.o.cell 0 rfl;have z1:=B2.o.cell 1 rfl;have z2:=B2.o.cell 2 rfl;have z3:=B2.o.cell 3 rfl;have z4:=B2.o.cell 4 rfl;have z5:=B2.o.cell 5 rfl;have HL:=hid hL;clear hL Gi;go_wp2_with fail
  refine hC.mono ?_;rintro e w2 ⟨⟨vs,rfl,AA,fF⟩,gz⟩;obtain⟨S,hSS⟩:=ex1 (cr b (aP b ag));have HSS:=hid hSS;rw[hSS]at AA;have HVS:=hid AA;have S4:=hid fF;obtain⟨sa,sc,rfl,_,_⟩:=AA.slice;have H22:=hid gz;have jp:=iI.t gz;have C1:Hid (aD w2 w.heap.size 26 #[.int .i64 b.ao,.int .i64 b.places,.slice a2 b.parts.length c2,.slice a3 b.apart.length c3,.slice a4 b.ab.length c4]):=(B1.o.below (QY.o.trans (xk.o.mono QY.o.size)) B1.o.lt).below H22.o ((B1.o.below (QY.o.trans (xk.o.mono QY.o.size)) B1.o.lt).lt);have C2:=hidb B2 H22.o;obtain⟨A3,gh⟩:=ex1 (w2.alloc (.cells #[.slice sa S.length sc] 85));have Ay:A3.heap.size=w2.heap.size+1:=lW gh;obtain⟨A4,kF⟩:=ex1 (A3.alloc (.map #[] 0));have CE:=snew2 kF Ay;obtain⟨A5,Td⟩:=ex1 (A4.alloc (.cells #[.map (some (w2.heap.size+1))] 87));have JW:=snew2 Td CE;have VA:=@run_makeMap ZP;obtain⟨A6,R6⟩:=ex1 (A5.alloc (.cells #[.nilFunc] 88));have hs6:=snew2 R6 JW;have D6:=bnew2 R6 JW;have q6:=D6.o.c1;have f6:=D6.o.cz 0;obtain⟨A7,XZ⟩:=ex1 (A6.setCell ⟨w2.heap.size+1+1+1,0,none⟩ (.func (.func 54) #[] #[ptr (w2.heap.size+1+1),ptr w2.heap.size,ptr w1.heap.size,ptr (w2.heap.size+1+1+1)]));have hs7:A7.heap.size=w2.heap.size+1+1+1+1:=by rw[<-XZ,<-hs6];simp[World.setCell]
  have D7:Hid (aD A7 (w2.heap.size+1+1+1) 88 #[.func (.func 54) #[] #[ptr (w2.heap.size+1+1),ptr w2.heap.size,ptr w1.heap.size,ptr (w2.heap.size+1+1+1)]]):=by rw[<-XZ];exact D6.o.set 0 _
  obtain⟨A8,hA8⟩:=ex1 (A7.alloc (.cells #[.int .i64 0,.int .i64 0,.int .i64 0,.int .i64 0,.int .i64 0] 91));have K26:aa [] w2 A6:=by rw[<-R6,<-Td,<-kF,<-gh];exact((((aa.alloc [] _ _).eY _).eY _).eY _)
  have Wr:aa [w2.heap.size+1+1+1] A6 A7:=by rw[<-XZ];exact aa.set _ (by simp) _
  have Te:=knew hA8;have X6:Hid (aa [] w2 A8):=(K26.trans Wr (fun x hx=>by simp at hx;subst hx;exact .inr (by omega))).trans' Te
  have E3:Hid (aD A8 w2.heap.size 85 #[.slice sa S.length sc]):=by
   refine Te.box (Wr.box ?_ (by simp<;>omega)) (by simp);rw[<-R6];refine(aa.alloc [] _ _).box ?_ (by simp);rw[<-Td];refine(aa.alloc [] _ _).box ?_ (by simp);rw[<-kF];refine(aa.alloc [] _ _).box ?_ (by simp);exact fe gh
  have E5:Hid (aD A8 (w2.heap.size+1+1) 87 #[.map (some (w2.heap.size+1))]):=by
   refine Te.box (Wr.box ?_ (by simp<;>omega)) (by simp);rw[<-R6];refine(aa.alloc [] _ _).box ?_ (by simp);rw[<-Td,<-CE];exact aD.new _ _ _
  have E7:Hid (aD A8 (w2.heap.size+1+1+1) 88 #[.func (.func 54) #[] #[ptr (w2.heap.size+1+1),ptr w2.heap.size,ptr w1.heap.size,ptr (w2.heap.size+1+1+1)]]):=Te.box D7.o (by simp);have E8:=bnew2 hA8 hs7;have E2:Hid (aD A8 w1.heap.size 81 #[.int .i64 b.ao,.int .i64 b.places,.slice a2 b.parts.length c2,.slice a3 b.apart.length c3,.slice a4 b.ab.length c4,.slice a (aP b ag).length c]):=X6.o.box C2.o (by simp);have E1:Hid (aD A8 w.heap.size 26 #[.int .i64 b.ao,.int .i64 b.places,.slice a2 b.parts.length c2,.slice a3 b.apart.length c3,.slice a4 b.ab.length c4]):=X6.o.box C1.o (by simp);have zeV:w1.heap.size<w2.heap.size:=C2.o.lt
  have EM:Hid (bj A8 b.places.toNat S (w2.heap.size+1) (.map [])):=by
   have h0:bj A4 b.places.toNat S (w2.heap.size+1) (.map []):=by rw[<-kF,<-Ay];exact bj.made A3 _ _
   have h1:bj A6 b.places.toNat S (w2.heap.size+1) (.map []):=bj.on h0 (by
    have hk:aa [] A4 A6:=by rw[<-R6,<-Td];exact(aa.alloc [] _ _).eY _
    exact hk.block _ (by omega) (by simp))
   exact bj.on (bj.on h1 (Wr.block _ (by omega) (by simp<;>omega))) (Te.block _ (by omega) (by simp))
  have zcf:Hid (∀m∈S,∀i,i<b.places.toNat->0<=m i/\m i<5):=fun m hm i hi=>by
   rw[<-HSS.o]at hm;exact lC HV.o m (List.mem_filter.1 hm).1 i
  have HMA:Hid (ff A8 b (.slice a2 b.parts.length c2) (.slice a3 b.apart.length c3) (.slice a4 b.ab.length c4) (.slice a (aP b ag).length c) sa sc S (w2.heap.size+1+1) w2.heap.size w1.heap.size (w2.heap.size+1+1+1) (w2.heap.size+1)):=
   ⟨E5.o,E3.o,E2.o,E7.o,HVS.o.on fun j hj ar=>X6.o.block j ar (by simp),⟨by omega,by omega,by omega,by omega⟩,fun j hj=>by
     obtain⟨a',c',h1,_⟩:=HVS.o;have he:=h1.eq;simp only[Value.slice.injEq,true_and]at he;obtain⟨rfl,rfl⟩:=he;cases sa with
     |none=>cases hj
     |some ad=>
      cases hj;rcases h1.row ad rfl with h|⟨cs,e,fz,h⟩
      .exact .inr h
      .have:=(Array.getElem?_eq_some_iff.1 h).1;exact .inl (by omega)⟩
  obtain⟨-,-,y2⟩:=E1.o.c3;have HKW:Hid (Below w.heap.size w A8):=jp.o.trans (X6.o.below (by simp) jp.o.size);clear gz AA hC z0 z1 z2 z3 z4 z5 cF fF hSS;have hp5:=HV.o.parts.many
  have zcg:Hid (∀j,(Value.slice sa S.length sc).ownBlock=some j->j≠w2.heap.size+1+1+1+1\/sc=0):=fun j hj=>by
   obtain⟨a',c',h1,_⟩:=HVS.o;have he:=h1.eq;simp only[Value.slice.injEq,true_and]at he;obtain⟨rfl,rfl⟩:=he;cases sa with
   |none=>cases hj
   |some ad=>
    cases hj;rcases h1.row ad rfl with h|⟨cs,e,fz,h⟩
    .exact .inr h
    .have:=(Array.getElem?_eq_some_iff.1 h).1;exact .inl (by omega)
  go_wp2_with fail
  clear gh kF Td R6 XZ hA8 Ay CE JW hs6 hs7 q6 f6 y2 K26 Wr Te VA;go_loopw [27,10,11] (fun i _ _ wr=>∃k:Nat,k<=b.parts.length/\i=.int .i64 k/\Hid (aa [w2.heap.size+1+1+1+1] A8 wr/\aD wr (w2.heap.size+1+1+1+1) 91 (tick (aH b k)))) (fun i _ _ _=>b.parts.length-(intOf i).toNat)
  case atStart=>exact⟨0,Nat.zero_le _,rfl,aa.refl _ _,E8.o⟩
  case round=>
   obtain⟨k,hk,rfl,hK⟩:=hrel;have zZ:Hid (Below w.heap.size w wr):=HKW.o.trans (hK.o.1.below (by simp;have:=jp.o.size;omega) HKW.o.size);by_cases ar:k<b.parts.length
   .obtain⟨⟨blk,off,sp⟩,x,rfl,hx,x0,x1,x2,x3,x4,vf,x5,GT⟩:=HP.o.1.elem HP.o.2 ar;obtain rfl:sp=none:=x0.1;obtain⟨fa,fc,hfs,_⟩:=GT;obtain rfl:=hfs.eq;have HX:=hid hx;have hki:(k:Int)<(b.parts.length:Int):=by omega
    have hk5:k<5:=by omega
    have zit:(k:Int)<5:=by omega
    have p0:=(x0.later (Kp.of zZ.o)).2;have p1:=(x1.later (Kp.of zZ.o)).2;have p2:=(x2.later (Kp.of zZ.o)).2;have p3:=(x3.later (Kp.of zZ.o)).2;have p4:=(x4.later (Kp.of zZ.o)).2;have p5:=(x5.later (Kp.of zZ.o)).2;simp only[<-Nat.add_assoc]at p0 p1 p2 p3 p4 p5;obtain⟨wt,tq⟩:=ex1 (wr.alloc (.cells #[.string x.name,.int .i64 x.cost,.int .i64 x.bL,.int .i64 x.lo,.int .i64 x.hi,.slice fa x.fits.length fc] 37));have BT:Hid (aD wt wr.heap.size 37 #[.string x.name,.int .i64 x.cost,.int .i64 x.bL,.int .i64 x.lo,.int .i64 x.hi,.slice fa x.fits.length fc]):=fe tq;have KT:Hid (aa [w2.heap.size+1+1+1+1] wr wt):=by rw[<-tq];exact aa.alloc _ _ _
    have ziu:=hK.o.2.lt;have BS:Hid (aD wt (w2.heap.size+1+1+1+1) 91 (tick (aH b k))):=by rw[<-tq];exact(aa.alloc [] _ _).box hK.o.2 (by simp)
    obtain⟨-,-,q2⟩:=BT.o.c3;have q8:wt.cell? ⟨w2.heap.size+1+1+1+1,k,none⟩=some (.int .i64 (aH b k k)):=BS.o.cell k (du hk5 _);have f8:=BS.o.cz k;obtain⟨wn,OW⟩:=ex1 (wt.setCell ⟨w2.heap.size+1+1+1+1,k,none⟩ (.int .i64 x.bL))
    have BN:Hid (aD wn (w2.heap.size+1+1+1+1) 91 (tick (aH b (k+1)))):=by
     have h:=BS.o.set k (.int .i64 x.bL);rwa [oB hk5,OW,Ad hx]at h
    have KN:Hid (aa [w2.heap.size+1+1+1+1] A8 wn):=hK.o.1.trans' (KT.o.trans' (by rw[<-OW];exact aa.set _ (by simp) _));clear x0 x1 x2 x3 x4 x5 hx hfs;go_wp2_with fail
    refine⟨⟨k+1,by omega,by go_num,KN.o,BN.o⟩,by simp[intOf];omega⟩
   .have e:k=b.parts.length:=by omega
    subst e
    have HMr:Hid (ff wr b (.slice a2 b.parts.length c2) (.slice a3 b.apart.length c3) (.slice a4 b.ab.length c4) (.slice a (aP b ag).length c) sa sc S (w2.heap.size+1+1) w2.heap.size w1.heap.size (w2.heap.size+1+1+1) (w2.heap.size+1)):=
     HMA.o.on2 hK.o.1 ⟨by omega,by omega,by omega,by omega⟩ zcg.o
    have EMr:Hid (bj wr b.places.toNat S (w2.heap.size+1) (.map [])):=bj.on EM.o (hK.o.1.block _ EM.o.lt (by simp<;>omega));have zch:=HV.o.places;have hC:=JV b b.places.toNat (by omega) (by omega) _ _ _ _ sa sc S zcf.o _ _ _ _ _ (total (aH b b.parts.length)+1) wr (aH b b.parts.length) (.map []) (by omega) (CQ HV.o _) HMr.o EMr.o;have cm:=HMr.o.fm.cell 0 rfl;obtain⟨c0c,c1c,c2c,c3c,c4c⟩:=hK.o.2.c5;obtain⟨mo,lZ⟩:∃mo:Nat,bg b.places.toNat S (aH b b.parts.length)=mo:=⟨_,rfl⟩
    have OM:=hid lZ;rw[lZ]at hC;simp only[tick]at hC;clear lZ zch
    go_wp2_with(go_at_call 54
                refine hC.mono ?_;rintro e w7 ⟨⟨rfl,_⟩,CP⟩;have HK7:=hid CP;clear CP hC)
    go_ret2;exact⟨.inr ⟨HL.o,by rw[HSS.o,OM.o];rfl⟩,zZ.o.trans (HK7.o.below (by simp;have:=jp.o.size;omega) zZ.o.size)⟩
end Go.Proofs.Cz
namespace Go.Proofs.Cz
open Go.RowKit
variable {b:ai}
def ku (m t:Nat->Int):Nat->Int
 |0=>0
 |k+1=>wrap64 (ku m t k+t (m k).toNat)
theorem Gj (w:World) (v2 v3 v4:Value) (b:ai) (N:Nat) (hN:b.places=N) (tV:N<=4) (m t:Nat->Int) (hm:∀i,i<N->0<=m i/\m i<5):
 Calls ZP 117 #[.agg #[.int .i64 b.ao,.int .i64 b.places,v2,v3,v4],.agg (cA m),.agg (tick t)] w (dQ w (.int .i64 (ku m t N))):=by
 rw[hN];obtain⟨A1,bI⟩:=ex1 (w.alloc (.cells #[.int .i64 b.ao,.int .i64 N,v2,v3,v4] 78));obtain⟨A2,cF⟩:=ex1 (A1.alloc (.cells (cA m) 94));obtain⟨A3,gh⟩:=ex1 (A2.alloc (.cells (tick t) 130));have fW:=snew bI;have mt:=snew2 cF fW
 have b1:aD A3 w.heap.size 78 #[.int .i64 b.ao,.int .i64 N,v2,v3,v4]:=by
  rw[<-gh];refine(aa.alloc [] _ _).box ?_ (by simp);rw[<-cF];refine(aa.alloc [] _ _).box ?_ (by simp);rw[<-bI];exact aD.new _ _ _
 have B2:Hid (aD A3 (w.heap.size+1) 94 (cA m)):=by
  rw[<-gh];refine(aa.alloc [] _ _).box ?_ (by simp);rw[<-cF,<-fW];exact aD.new _ _ _
 have B3:=bnew2 gh mt;have HW:=wnew3 bI cF gh;obtain⟨-,z1⟩:=b1.c2;simp only[cA,tick]at cF gh⊢;clear b1 hN;go_enter ZF117,Tryz.ntmps117
 go_wp2
 clear bI cF gh fW mt;go_loop [12,8,7] (fun i _ s=>∃k:Nat,k<=N/\i=.int .i64 k/\s=.int .i64 (ku m t k)) (fun i _ _=>N-(intOf i).toNat)
 case atStart=>exact⟨0,Nat.zero_le _,rfl,rfl⟩
 case round=>
  obtain⟨k,hk,rfl,rfl⟩:=hrel;by_cases ar:k<N
  .have mT:k<4:=by omega
   have c2:A3.cell? ⟨w.heap.size+1,k,none⟩=some (.int .i64 (m k)):=B2.o.cell k (gG mT _);obtain⟨j,hj⟩:∃j:Nat,m k=(j:Int):=⟨(m k).toNat,by have:=(hm k ar).1;omega⟩
   have OQ:j<5:=by have:=(hm k ar).2;omega
   rw[hj]at c2;have c3:A3.cell? ⟨w.heap.size+1+1,j,none⟩=some (.int .i64 (t j)):=B3.o.cell j (du OQ _);have HS:Hid (ku m t (k+1)=wrap64 (ku m t k+t j)):=by show wrap64 (ku m t k+t (m k).toNat)=_;rw[hj];simp
   generalize ku m t k=s at*;generalize t j=tj at*;go_wp2
   go_round
   case rel=>exact⟨k+1,by omega,by go_num,by rw[HS.o]⟩
   case measure=>simp[intOf];omega
  .have e:k=N:=by omega
   subst e;go_wp2
   go_ret;exact⟨rfl,HW.o⟩
def eQ (N:Nat) (t:Nat->Int) (x:fK):Bool:=decide (x.lo<=ku (aj x.parts) t N)&&decide (ku (aj x.parts) t N<=x.hi)
def aB (b:ai) (t:Nat->Int):Bool:=b.ab.all (eQ b.places.toNat t)
theorem vr {l:List Int} (hm:b.parts.length<=5) (h:eF b l):∀i,i<b.places.toNat->0<=aj l i/\aj l i<5:=fun i hi=>by
 have hl:=h.len;have e:l[i]?=some (l[i]'(by omega)):=List.getElem?_eq_getElem (by omega);have h1:=h.range i _ (by omega) e;unfold aj;rw[e];simp only[Option.getD_some];omega
theorem Gk (w:World) (v2 v3 v4 vl:Value) (b:ai) (x:fK) (g1 g2:Nat) (N:Nat) (hN:b.places=N) (tV:N<=4) (t:Nat->Int) (hx:x.parts.length<=4) (hm:∀i,i<N->0<=aj x.parts i/\aj x.parts i<5)
 (h1:aD w g1 78 #[.int .i64 b.ao,.int .i64 b.places,v2,v3,v4]) (h2:aD w g2 130 (tick t)) (hl:aC w vl x.parts):
 Calls ZP 157 #[.agg #[vl,.int .i64 x.lo,.int .i64 x.hi],ptr g1,ptr g2] w (cy w fun r=>r=!eQ N t x):=by
 obtain⟨la,lc,⟨rfl,ll,lm,ln,lr⟩,le⟩:=hl;have HL:Hid (aC w (.slice la x.parts.length lc) x.parts):=⟨la,lc,⟨rfl,ll,lm,ln,lr⟩,le⟩
 clear ll lm ln lr le;obtain⟨A1,bI⟩:=ex1 (w.alloc (.cells #[.slice la x.parts.length lc,.int .i64 x.lo,.int .i64 x.hi] 56));have B1:=(bnew bI).o;have HW:=wnew bI;have C1:aD A1 g1 78 #[.int .i64 b.ao,.int .i64 b.places,v2,v3,v4]:=h1.below HW.o h1.lt;have C2:aD A1 g2 130 (tick t):=h2.below HW.o h2.lt;have B7:=C1.lt;have zy:=C2.lt;have ziw:=B1.lt;obtain⟨X0,X1,X2⟩:=B1.a3;obtain⟨Y0,Y1,Y2,Y3,Y4⟩:=C1.a5;obtain⟨Z0,Z1,Z2,Z3,Z4⟩:=C2.a5
 have c64:∀X:ah A1,Calls ZP 61 #[.slice la x.parts.length lc] X.1 (fun e jk=>e=.returned (.agg #[.int .i64 (aj x.parts 0),.int .i64 (aj x.parts 1),.int .i64 (aj x.parts 2),.int .i64 (aj x.parts 3)])/\∃Y:ah A1,jk=Y.1):=fun X=>
  (mB _ _ _ hx ((HL.o.later (Kp.of HW.o)).later X.kp)).mono fun e w' h=>⟨h.1,X.on h.2⟩
 have zci:∀X:ah A1,Calls ZP 117 #[.agg #[.int .i64 b.ao,.int .i64 b.places,v2,v3,v4],.agg #[.int .i64 (aj x.parts 0),.int .i64 (aj x.parts 1),.int .i64 (aj x.parts 2),.int .i64 (aj x.parts 3)],
  .agg #[.int .i64 (t 0),.int .i64 (t 1),.int .i64 (t 2),.int .i64 (t 3),.int .i64 (t 4)]] X.1 (fun e jk=>e=.returned (.int .i64 (ku (aj x.parts) t N))/\∃Y:ah A1,jk=Y.1):=fun X=>
  (Gj _ _ _ _ _ N hN tV _ _ hm).mono fun e w' h=>⟨h.1,X.on h.2⟩
 have c75:∀X:ah A1,Calls ZP 115 #[.int .i64 (ku (aj x.parts) t N),.int .i64 x.lo,.int .i64 x.hi] X.1 (fun e jk=>e=.returned (.bool (eQ N t x))/\∃Y:ah A1,jk=Y.1):=fun X=>
  (cM _ _ _ _).mono fun e w' h=>⟨h.1,X.same h.2⟩
 generalize ku (aj x.parts) t N=tk at*;generalize eQ N t x=r at*;clear h1 h2 B1 C1 C2 hm hN;go_enter ZF157,Tryz.ntmps157
 go_wp2
 refine am (by kernel_rfl) (by kernel_rfl) ?_;repeat(go_big_quiet_step (first|(go_at_call 61;exact c64 _)|(go_at_call 117;exact zci _)|(go_at_call 115;exact c75 _)))
 refine wpQuiet_nil ?_;rintro _ ⟨X,rfl⟩;go_wp2
 go_ret;exact cy.mk rfl (HW.o.trans (X.2.mono HW.o.size))
def Ws (f:fK->Bool) (l:List fK) (k:Nat):Prop:=∀x∈l.take k,f x=true
theorem xt (w:World) (v v2 v3 v4:Value) (b:ai) (g1 g2:Nat) (N:Nat) (hN:b.places=N) (tV:N<=4) (t:Nat->Int) (l:List fK)
 (hl:∀x∈l,x.parts.length<=4/\∀i,i<N->0<=aj x.parts i/\aj x.parts i<5)
 (h1:aD w g1 78 #[.int .i64 b.ao,.int .i64 b.places,v2,v3,v4]) (h2:aD w g2 130 (tick t)) (h:eJ w v l):
 Calls ZP 165 #[v,.func (.func 157) #[] #[ptr g1,ptr g2]] w (aT w fun r=>0<=r↔¬∀x∈l,eQ N t x=true):=by
 obtain⟨a,c,h3,h4⟩:=h;have H:Hid (bS w v l.length a c/\_):=⟨h3,h4⟩
 have H1:=hid h1;have H2:=hid h2;have HT:=hid hl;have HN:=hid hN;obtain⟨rfl,l1,m1,n1,r1⟩:=h3;unfold maxLen at m1;clear h4 n1 r1 h1 h2 hl hN;go_enter ZF165,Tryz.ntmps165
 go_wp2
 go_loopw [8,5] (fun i j w1=>∃k:Nat,k<=l.length/\Hid (Ws (eQ N t) l k)/\i=.int .i64 k/\Hid (Below w.heap.size w w1)) (fun i _ _=>l.length-(intOf i).toNat)
 case atStart=>exact⟨0,Nat.zero_le _,fun x hx=>by simp at hx,rfl,Below.refl _ _⟩
 case round=>
  obtain⟨k,hk,hA,rfl,hB⟩:=hrel;by_cases ar:k<l.length
  .obtain⟨⟨blk,off,sp⟩,x,rfl,hx,⟨vf,x0,x6⟩,x1,x2⟩:=H.o.1.elem H.o.2 ar;obtain rfl:sp=none:=x0.1;have V8:=x6;obtain⟨af,cf,hf,_⟩:=x6;obtain⟨rfl,lf,mf,_,_⟩:=hf;have y0:=(x0.later (Kp.of hB.o)).2;have y1:=(x1.later (Kp.of hB.o)).2;have y2:=(x2.later (Kp.of hB.o)).2;simp only[<-Nat.add_assoc]at y0 y1 y2;have mO:(k:Int)<(l.length:Int):=by omega
   have HX:=hid hx;have Ua:=HT.o x (List.mem_of_getElem? hx);have hC:=Gk wr v2 v3 v4 _ b x g1 g2 N HN.o tV t Ua.1 Ua.2 (H1.o.below hB.o H1.o.lt) (H2.o.below hB.o H2.o.lt) (V8.later (Kp.of hB.o));clear x0 x1 x2 hx Ua V8;cases hr:eQ N t x with
   |true=>
    rw[hr]at hC;have HR:=hid hr;clear hr;go_wp2_with(go_at_call 157;refine hC.mono ?_;rintro e w1 ⟨⟨r,rfl,rfl⟩,bE⟩)
    go_round
    case rel=>
     refine⟨k+1,by omega,fun y hy=>?_,by go_num,hB.o.trans (bE.mono hB.o.size)⟩;rw[List.take_add_one,HX.o]at hy;rcases List.mem_append.1 hy with hy|hy
     .exact hA.o y hy
     .simp at hy;subst hy;exact HR.o
    case measure=>simp[intOf];omega
   |false=>
    rw[hr]at hC;have HR:=hid hr;clear hr;go_wp2_with(go_at_call 157;refine hC.mono ?_;rintro e w1 ⟨⟨r,rfl,rfl⟩,bE⟩)
    go_ret;refine aT.mk (r:=k) ⟨fun _ hh=>?_,fun _=>by omega⟩ (hB.o.trans (bE.mono hB.o.size));have:=hh x (List.mem_of_getElem? HX.o);rw[HR.o]at this;cases this
  .go_wp2
   go_ret;have e:k=l.length:=by omega
   subst e;refine aT.mk (r:=-1) ⟨fun h=>by omega,fun hh=>absurd (fun x hx=>hA.o x (by rw[List.take_length];exact hx)) hh⟩ hB.o
theorem xu (w:World) (v v2 v3 v4:Value) (b:ai) (g1 g2:Nat) (N:Nat) (hN:b.places=N) (tV:N<=4) (t:Nat->Int) (l:List fK)
 (hl:∀x∈l,x.parts.length<=4/\∀i,i<N->0<=aj x.parts i/\aj x.parts i<5)
 (h1:aD w g1 78 #[.int .i64 b.ao,.int .i64 b.places,v2,v3,v4]) (h2:aD w g2 130 (tick t)) (h:eJ w v l):
 Calls ZP 156 #[v,.func (.func 157) #[] #[ptr g1,ptr g2]] w (cy w fun r=>r=!l.all (eQ N t)):=by
 have hC:=xt w v v2 v3 v4 b g1 g2 N hN tV t l hl h1 h2 h;clear hl h1 h2 h hN;go_enter ZF156,Tryz.ntmps156
 go_wp2_with(go_at_call 165;refine hC.mono ?_;rintro e w1 ⟨⟨r,rfl,hr⟩,bE⟩;replace hr:Hid (0<=r↔¬∀x∈l,eQ N t x=true):=hr)
 go_ret;have hr:=hr.o;refine cy.mk ?_ bE;cases hq:l.all (eQ N t)with
 |true=>
  have h1:¬0<=r:=fun h=>(hr.1 h) (List.all_eq_true.1 hq)
  simp only[decide_eq_false h1,Bool.not_true]
 |false=>
  have h1:0<=r:=hr.2 fun h=>by rw[List.all_eq_true.2 h]at hq;cases hq
  simp only[decide_eq_true h1,Bool.not_false]
theorem Gl (hv:Valid b):∀x∈b.ab,x.parts.length<=4/\∀i,i<b.places.toNat->0<=aj x.parts i/\aj x.parts i<5:=fun x hx=>by
 obtain⟨j,hj,e⟩:=List.getElem_of_mem hx;have h:=hv.ab j x hj (by rw[List.getElem?_eq_getElem hj,e]);have hp:=hv.places;have hl:=h.1.len;exact⟨by omega,vr hv.parts.many.2 h.1⟩
theorem CU (w:World) (v:Value) (b:ai) (t:Nat->Int) (hb:au w v b) (hv:Valid b):
 Calls ZP 135 #[v,.agg (tick t)] w (dQ w (.bool (aB b t))):=by
 obtain⟨N,hN⟩:∃N:Nat,b.places=N:=⟨b.places.toNat,by have:=hv.places;omega⟩
 have tV:N<=4:=by have:=hv.places;omega
 have HT:Hid (∀x∈b.ab,x.parts.length<=4/\∀i,i<N->0<=aj x.parts i/\aj x.parts i<5):=(by have:=Gl hv;rw[hN]at this;simpa using this:∀x∈b.ab,x.parts.length<=4/\∀i,i<N->0<=aj x.parts i/\aj x.parts i<5)
 have HA:Hid (aB b t=b.ab.all (eQ N t)):=(by unfold aB;rw[hN];simp:aB b t=b.ab.all (eQ N t))
 have HN:=hid hN;obtain⟨v2,v3,v4,rfl,⟨a2,c2,⟨rfl,_,_,_,_⟩,_⟩,⟨a3,c3,⟨rfl,_,_,_,_⟩,_⟩,h4⟩:=hb;have H4:=hid h4;obtain⟨a4,c4,⟨rfl,_,_,_,_⟩,_⟩:=h4;obtain⟨A1,bI⟩:=ex1 (w.alloc (.cells #[.int .i64 b.ao,.int .i64 b.places,.slice a2 b.parts.length c2,.slice a3 b.apart.length c3,.slice a4 b.ab.length c4] 78));obtain⟨A2,cF⟩:=ex1 (A1.alloc (.cells (tick t) 130));have fW:=snew bI;have b1:=(bnewk bI cF).o;have B2:=bnew2 cF fW;have HW:=wnew2 bI cF;obtain⟨-,-,-,-,z4⟩:=b1.c5;have hC:=xu A2 _ _ _ _ b w.heap.size (w.heap.size+1) N hN tV t b.ab HT.o b1 B2.o (H4.o.later (Kp.of HW.o));simp only[tick]at cF⊢;clear b1 hN hv;go_enter ZF135,Tryz.ntmps135
 go_wp2_with(go_at_call 156;refine hC.mono ?_;rintro e w' ⟨⟨r,rfl,hr⟩,bE⟩)
 go_ret;refine⟨?_,HW.o.trans (bE.mono HW.o.size)⟩;rw[HA.o];rfl
theorem lF {w:World} {v:Value} (hb:au w v b) (hv:Valid b):xp w v (aB b):=fun X t hX=>CU X v b t (hb.later (Kp.of hX)) hv
theorem xv (w:World) (b:ai) (v:Value) (a2:Option Addr) (c2:Nat) (v3 v4:Value) (ag:(Nat->Int)->Bool) (OS:v=.agg #[.int .i64 b.ao,.int .i64 b.places,.slice a2 b.parts.length c2,v3,v4]) (hb:au w v b) (hv:Valid b) (hc:me w)
 (gl:Nat) (mc:∀X t,Below w.heap.size w X->Calls ZP 135 #[v,.agg (tick t)] X (dQ X (.bool (ag t))))
 (bO:∀X,Below w.heap.size w X->Calls ZP 59 #[v,ptr gl] X (dQ X (.int .i64 0))):
 Calls ZP 51 #[v,.func (.func 59) #[] #[ptr gl]] w (JO w b (.slice a2 b.parts.length c2) v3 v4 (aP b ag)):=
 ve 59 ZC59 w b v a2 c2 v3 v4 ag OS hb hv hc #[ptr gl] mc bO
end Go.Proofs.Cz
