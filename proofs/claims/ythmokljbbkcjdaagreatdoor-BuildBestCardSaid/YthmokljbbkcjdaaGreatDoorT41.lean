/- A part. Conditions: none. -/
import Derived.Test.YthmokljbbkcjdaaGreatDoorT22
import Derived.Test.YthmokljbbkcjdaaGreatDoorT40
set_option linter.all false
set_option maxHeartbeats 8000000
set_option maxRecDepth 100000
namespace Go.Proofs.Cz
open Go.RowKit
variable {k k':(Nat->Int)->Int} {x y:Nat->Int}
theorem bT (w:World):Calls ZP 10 #[] w (dd w (.bool true)):=by
 go_enter ZF10,Tz.ntmps10
 unfold Tz.stub;go_wp2
 go_ret;exact⟨rfl,Below.refl _ _⟩
def sumTo (f:Int->Nat) (l:List Int) (n:Nat):Nat:=((l.take n).map f).sum
theorem sumTo_le (f:Int->Nat) (l:List Int) (n:Nat):sumTo f l n<=(l.map f).sum:=by
 have h:l.map f=(l.take n).map f++(l.drop n).map f:=by rw[<-List.map_append,List.take_append_drop]
 rw[h,List.sum_append];exact Nat.le_add_right _ _
theorem Me:ZP.eqGuardType ZP.depth 31=false:=by kernel_rfl
theorem Mf (h:aJ [k] x y=false):k y<=k x:=by
 unfold aJ at h;split at h
 .cases h
 .omega
theorem Jc (h:k x=k y):aJ [k] x y=false:=by
 unfold aJ;rw[if_neg (by omega),if_pos h];rfl
theorem zbV (h:aJ [k,k'] x y=false):k y<=k x/\(k x=k y->k' y<=k' x):=by
 unfold aJ at h;split at h
 .cases h
 .rename_i h1;refine⟨by omega,fun e=>?_⟩;rw[if_pos e]at h;exact Mf h
theorem Vq (h:k x=k y) (h':k' x=k' y):aJ [k,k'] x y=false:=by
 unfold aJ;rw[if_neg (by omega),if_pos h];exact Jc h'
theorem zbW (w:World) (v:Value) (b:av) (n:Int) (Oa:0<=n) (uk:n<65536) (hb:aD w v b) (hc:kD w):Calls ZP 8 #[v,.int .u16 n] w fun e _=>e=.returned (.bool true):=by
 have HB:=hid hb;have HC:Hid (kD w):=hc;obtain⟨a2,c2,a3,c3,a4,c4,rfl⟩:=hb.gm;obtain⟨A1,bB⟩:=ex1 (w.alloc (.cells #[.int .i64 b.an,.int .i64 b.places,.slice a2 b.parts.length c2,.slice a3 b.apart.length c3,.slice a4 b.ac.length c4] 26));have jC:=bnew bB;have HWA:=wnew bB;obtain⟨z0,z1,z2,z3,z4⟩:=jC.o.c5;clear hc hb;go_enter ZF8,Tryz.ntmps8
 go_wp2_with fail
 refine(LE A1 _ b (HB.o.later (Kp.of HWA.o))).mono ?_;rintro e w1 ⟨⟨r,rfl,hr⟩,bN⟩;have Qs:=hid bN;clear bN bB z0 z1 z2 z3 z4;cases r with
 |false=>
  clear hr;go_wp2_with(go_at_call 10;refine(bT _).mono ?_;rintro e w2 ⟨rfl,_⟩)
  go_ret;rfl
 |true=>
  obtain⟨_,hv⟩:=hr rfl;have HV:Hid (Valid b):=hv;have uU:Hid (kF w (.agg #[.int .i64 b.an,.int .i64 b.places,.slice a2 b.parts.length c2,.slice a3 b.apart.length c3,.slice a4 b.ac.length c4]) (bX b)):=lW HB.o hv;have Mc:Hid (1<=b.places.toNat/\b.places.toNat<=4):=(by have:=hv.places;omega:1<=b.places.toNat/\b.places.toNat<=4)
  have U4:Hid (1<=b.parts.length/\b.parts.length<=5):=hv.parts.many;have CW1:=HWA.t Qs.o;have RB:=hv.parts.many;obtain⟨L,qP⟩:=ex1 (aC b (bX b));have tU:=hid qP;have hF:=fun X (h:Below w.heap.size w X)=>Cj X _ b (bX b) (HB.o.later (Kp.of h)) hv (HC.o.later h) (fun Y t hY=>uU.o Y t (h.trans (hY.mono h.size)));have hCh:=fun X (h:Below w.heap.size w X)=>xw X _ b (bX b) (HB.o.later (Kp.of h)) hv (HC.o.later h) (fun Y t hY=>uU.o Y t (h.trans (hY.mono h.size)));have hSw:=fun X (h:Below w.heap.size w X)=>xx X _ b (bX b) (HB.o.later (Kp.of h)) hv (HC.o.later h) (fun Y t hY=>uU.o Y t (h.trans (hY.mono h.size)));have hNd:=fun X (h:Below w.heap.size w X)=>Fm X _ b (bX b) (HB.o.later (Kp.of h)) hv (HC.o.later h) (fun Y t hY=>uU.o Y t (h.trans (hY.mono h.size)));rw[qP]at hF hCh hSw hNd;have HF:=hid hF;have XW:=hid hCh;have XX:=hid hSw;have XY:=hid hNd;have HMA:=z7 w1 _ b n ⟨Oa,uk⟩ (HB.o.later (Kp.of CW1.o)) hv;clear hr hv qP hF hCh hSw hNd;obtain⟨z0,z1,z2,z3,z4⟩:=(hidb jC Qs.o).o.c5;go_wp2_with fail
  refine HMA.mono ?_;rintro e w2 ⟨xK,iA⟩;have NL:=CW1.t iA;have Jd:=Qs.t iA;clear iA HMA z0 z1 z2 z3 z4;have HRE:Hid (_\/_):=xK;clear xK;obtain⟨z0,z1,z2,z3,z4⟩:=(hidb jC Jd.o).o.c5;by_cases hL:L=[]
  .have DC:Hid (L=[]):=hL;clear hL;rcases HRE.o with⟨_,rfl⟩|⟨l,hl,vl,rfl,RS⟩
   all_goals
    go_wp2_with fail
    refine(HF.o w2 NL.o).mono ?_;rintro e w3 ⟨⟨_,rfl⟩|⟨ij,_⟩|⟨ij,_⟩,pg⟩;rotate_left
    .exact absurd DC.o ij
    .exact absurd DC.o ij
    have Je:=NL.t pg;have sU:=Jd.t pg;clear pg z0 z1 z2 z3 z4;obtain⟨z0,z1,z2,z3,z4⟩:=(hidb jC sU.o).o.c5;go_wp2_with fail
    refine(XW.o w3 Je.o).mono ?_;rintro e w4 ⟨⟨_,rfl⟩|⟨ij,_⟩|⟨ij,_⟩,ig⟩;rotate_left
    .exact absurd DC.o ij
    .exact absurd DC.o ij
    have Jf:=Je.t ig;have sV:=sU.t ig;clear ig z0 z1 z2 z3 z4;obtain⟨z0,z1,z2,z3,z4⟩:=(hidb jC sV.o).o.c5;go_wp2_with fail
    refine(XX.o w4 Jf.o).mono ?_;rintro e w5 ⟨⟨_,rfl⟩|⟨ij,_⟩|⟨ij,_⟩,kQ⟩;rotate_left
    .exact absurd DC.o ij
    .exact absurd DC.o ij
    have Qt:=Jf.t kQ;have Ck:=sV.t kQ;clear kQ z0 z1 z2 z3 z4;obtain⟨E,hE⟩:=ex1 (w5.alloc (.cells #[.int .i64 0,.int .i64 0] 31));have Gc:=knew hE;have BE:=aF.new w5 31 #[.int .i64 0,.int .i64 0];rw[hE]at BE;have Jg:=hidk Qt Gc;have sW:=hidk Ck Gc;obtain⟨t0,t1⟩:=BE.c2;have f0:=BE.aN 0;have f1:=BE.aN 1;have e0:=BE.same (i:=0) (v:=.int .i64 0) rfl;have e1:=BE.same (i:=1) (v:=.int .i64 0) rfl;clear Gc BE;obtain⟨z0,z1,z2,z3,z4⟩:=(hidb jC sW.o).o.c5;go_wp2_with fail
    refine(XY.o E Jg.o).mono ?_;rintro e w6 ⟨⟨_,rfl⟩|⟨ij,_⟩|⟨ij,_⟩,lh⟩;rotate_left
    .exact absurd DC.o ij
    .exact absurd DC.o ij
    have NM:=Jg.t lh;have FH:=sW.t lh;clear lh z0 z1 z2 z3 z4;clear hE t0 t1 f0 f1 e0 e1;go_wp2_with(go_at_call 10;refine(bT _).mono ?_;rintro e w7 ⟨rfl,_⟩)
    go_ret;rfl
  .have kZ:Hid (L≠ []):=hL;clear hL;by_cases hS:au b L=[]
   .have Gb:=hid hS;clear hS;rcases HRE.o with⟨_,rfl⟩|⟨l,hl,vl,rfl,RS⟩
    .skip;go_wp2_with fail
     refine(HF.o w2 NL.o).mono ?_;rintro e w3 ⟨⟨ij,_⟩|⟨_,_,rfl⟩|⟨_,sX,_⟩,pg⟩
     .exact absurd ij kZ.o
     rotate_left
     .exact absurd Gb.o sX
     have Je:=NL.t pg;have sU:=Jd.t pg;clear pg z0 z1 z2 z3 z4;obtain⟨z0,z1,z2,z3,z4⟩:=(hidb jC sU.o).o.c5;go_wp2_with fail
     refine(XW.o w3 Je.o).mono ?_;rintro e w4 ⟨⟨ij,_⟩|⟨_,_,rfl⟩|⟨_,sX,_⟩,ig⟩
     .exact absurd ij kZ.o
     rotate_left
     .exact absurd Gb.o sX
     have Jf:=Je.t ig;have sV:=sU.t ig;clear ig z0 z1 z2 z3 z4;obtain⟨z0,z1,z2,z3,z4⟩:=(hidb jC sV.o).o.c5;go_wp2_with fail
     refine(XX.o w4 Jf.o).mono ?_;rintro e w5 ⟨⟨ij,_⟩|⟨_,_,rfl⟩|⟨_,sX,_⟩,kQ⟩
     .exact absurd ij kZ.o
     rotate_left
     .exact absurd Gb.o sX
     have Qt:=Jf.t kQ;have Ck:=sV.t kQ;clear kQ z0 z1 z2 z3 z4;obtain⟨E,hE⟩:=ex1 (w5.alloc (.cells #[.int .i64 0,.int .i64 0] 31));have Gc:=knew hE;have BE:=aF.new w5 31 #[.int .i64 0,.int .i64 0];rw[hE]at BE;have Jg:=hidk Qt Gc;have sW:=hidk Ck Gc;obtain⟨t0,t1⟩:=BE.c2;have f0:=BE.aN 0;have f1:=BE.aN 1;have e0:=BE.same (i:=0) (v:=.int .i64 0) rfl;have e1:=BE.same (i:=1) (v:=.int .i64 0) rfl;clear Gc BE;obtain⟨z0,z1,z2,z3,z4⟩:=(hidb jC sW.o).o.c5;go_wp2_with fail
     refine(XY.o E Jg.o).mono ?_;rintro e w6 ⟨⟨ij,_⟩|⟨_,_,rfl⟩|⟨_,sX,_⟩,lh⟩
     .exact absurd ij kZ.o
     rotate_left
     .exact absurd Gb.o sX
     have NM:=Jg.t lh;have FH:=sW.t lh;clear lh z0 z1 z2 z3 z4;clear hE t0 t1 f0 f1 e0 e1;go_wp2_with(go_at_call 10;refine(bT _).mono ?_;rintro e w7 ⟨rfl,_⟩)
     go_ret;rfl
    .have DJ:Hid (l∈aU b b.places.toNat/\az w2 vl l):=⟨hl,RS⟩
     clear hl RS;have Qu:Hid (Below w2.heap.size w2 w2):=Below.refl _ _;go_wp2_with fail
     refine(HF.o w2 NL.o).mono ?_;rintro e w3 ⟨⟨ij,_⟩|⟨_,_,rfl⟩|⟨_,sX,_⟩,pg⟩
     .exact absurd ij kZ.o
     rotate_left
     .exact absurd Gb.o sX
     have Je:=NL.t pg;have Qv:=Qu.t pg;have sU:=Jd.t pg;clear pg z0 z1 z2 z3 z4;obtain⟨z0,z1,z2,z3,z4⟩:=(hidb jC sU.o).o.c5;go_wp2_with fail
     refine(XW.o w3 Je.o).mono ?_;rintro e w4 ⟨⟨ij,_⟩|⟨_,_,rfl⟩|⟨_,sX,_⟩,ig⟩
     .exact absurd ij kZ.o
     rotate_left
     .exact absurd Gb.o sX
     have Jf:=Je.t ig;have Qw:=Qv.t ig;have sV:=sU.t ig;clear ig z0 z1 z2 z3 z4;obtain⟨z0,z1,z2,z3,z4⟩:=(hidb jC sV.o).o.c5;go_wp2_with fail
     refine(XX.o w4 Jf.o).mono ?_;rintro e w5 ⟨⟨ij,_⟩|⟨_,_,rfl⟩|⟨_,sX,_⟩,kQ⟩
     .exact absurd ij kZ.o
     rotate_left
     .exact absurd Gb.o sX
     have Qt:=Jf.t kQ;have Qx:=Qw.t kQ;have Ck:=sV.t kQ;clear kQ z0 z1 z2 z3 z4;obtain⟨E,hE⟩:=ex1 (w5.alloc (.cells #[.int .i64 0,.int .i64 0] 31));have Gc:=knew hE;have BE:=aF.new w5 31 #[.int .i64 0,.int .i64 0];rw[hE]at BE;have Jg:=hidk Qt Gc;have Qy:=hidk Qx Gc;have sW:=hidk Ck Gc;obtain⟨t0,t1⟩:=BE.c2;have f0:=BE.aN 0;have f1:=BE.aN 1;have e0:=BE.same (i:=0) (v:=.int .i64 0) rfl;have e1:=BE.same (i:=1) (v:=.int .i64 0) rfl;clear Gc BE;obtain⟨z0,z1,z2,z3,z4⟩:=(hidb jC sW.o).o.c5;go_wp2_with fail
     refine(XY.o E Jg.o).mono ?_;rintro e w6 ⟨⟨ij,_⟩|⟨_,_,rfl⟩|⟨_,sX,_⟩,lh⟩
     .exact absurd ij kZ.o
     rotate_left
     .exact absurd Gb.o sX
     have NM:=Jg.t lh;have Qz:=Qy.t lh;have FH:=sW.t lh;clear lh z0 z1 z2 z3 z4;clear hE t0 t1 f0 f1 e0 e1;obtain⟨z0,z1,z2,z3,z4⟩:=(hidb jC FH.o).o.c5;have hLt:=Ad w6 _ _ b l (HB.o.later (Kp.of NM.o)) HV.o (HC.o.later NM.o) (it HV.o DJ.o.1) (DJ.o.2.later (Kp.of Qz.o));rw[tU.o]at hLt;obtain⟨p0,F7⟩:=ex1 (gW b L (ai l))
     have vr:¬p0=2:=by
      rw[<-F7];unfold gW;rw[Gb.o];split
      .decide
      .simp
     have hp3:(p0==2)=false:=by simp;exact vr
     have HP0:=hid F7;clear F7;go_wp2_with fail
     refine hLt.mono ?_;rintro e w7 ⟨⟨ij,_⟩|⟨_,rfl⟩,Ap⟩
     .exact absurd ij kZ.o
     rw[HP0.o];clear hLt Ap z0 z1 z2 z3 z4;go_wp2_with(go_at_call 10;refine(bT _).mono ?_;rintro e w8 ⟨rfl,_⟩)
     go_ret;show Ending.returned (.bool (p0 !=2))=_;rw[show(p0 !=2)=true by simp;exact vr]
   .have HS:=hid hS;clear hS;rcases HRE.o with⟨Q8,_⟩|⟨l,hl,vl,rfl,RS⟩
    .refine absurd ?_ HS.o;have h1:aG b=[]:=by rw[eF,Q8];rfl
     unfold au;rw[h1];rfl
    .have DJ:Hid (l∈aU b b.places.toNat/\az w2 vl l):=⟨hl,RS⟩
     obtain⟨mf,QB⟩:=ex1 (bZ [fO b,dy b] (au b L));obtain⟨mc,QC⟩:=ex1 (bZ [dy b] (au b L));obtain⟨mw,RT⟩:=ex1 (bZ [tV b L] (au b L));have XZ:Hid (bZ [fO b,dy b] (au b L)=mf/\mf∈au b L):=⟨QB,by rw[<-QB];exact gp HS.o⟩
     have HMC:Hid (bZ [dy b] (au b L)=mc/\mc∈au b L):=⟨QC,by rw[<-QC];exact gp HS.o⟩
     have Vr:Hid (bZ [tV b L] (au b L)=mw/\mw∈au b L):=⟨RT,by rw[<-RT];exact gp HS.o⟩
     obtain⟨lf,J5⟩:=ex1 (aR b.places.toNat mf);obtain⟨lc,X6⟩:=ex1 (aR b.places.toNat mc);obtain⟨lw,X7⟩:=ex1 (aR b.places.toNat mw);have Vs:Hid (aR b.places.toNat mf=lf/\bY b lf/\ai lf=mf):=(by have h:=fP (eX XZ.o.2);rw[J5]at h;exact⟨J5,it HV.o h.1,h.2⟩:aR b.places.toNat mf=lf/\bY b lf/\ai lf=mf)
     have HPC:Hid (aR b.places.toNat mc=lc/\bY b lc/\ai lc=mc):=(by have h:=fP (eX HMC.o.2);rw[X6]at h;exact⟨X6,it HV.o h.1,h.2⟩:aR b.places.toNat mc=lc/\bY b lc/\ai lc=mc)
     have HPW:Hid (aR b.places.toNat mw=lw/\bY b lw/\ai lw=mw):=(by have h:=fP (eX Vr.o.2);rw[X7]at h;exact⟨X7,it HV.o h.1,h.2⟩:aR b.places.toNat mw=lw/\bY b lw/\ai lw=mw)
     obtain⟨m,hm⟩:=ex1 (ai l);have rf:Hid (ai l=m/\m∈aG b/\bY b l/\aR b.places.toNat m=l):=(by rw[<-hm];exact⟨rfl,xz hl,it HV.o hl,jp (de hl).1⟩:ai l=m/\m∈aG b/\bY b l/\aR b.places.toNat m=l)
     obtain⟨df,X8⟩:=ex1 (fO b mf);obtain⟨kf,Vt⟩:=ex1 (dy b mf);obtain⟨cc,pn⟩:=ex1 (dy b mc);obtain⟨lo,nL⟩:=ex1 (J0 b L mw);obtain⟨hi,xQ⟩:=ex1 (tV b L mw);obtain⟨ee,X9⟩:=ex1 (fO b m);obtain⟨gg,RW⟩:=ex1 (dy b m);obtain⟨QF,Mg⟩:=ex1 (J0 b L m);obtain⟨qR,Cm⟩:=ex1 (tV b L m);obtain⟨p0,F7⟩:=ex1 (gW b L m);have HK:Hid (fO b mf=df/\dy b mf=kf/\dy b mc=cc/\J0 b L mw=lo/\tV b L mw=hi):=⟨X8,Vt,pn,nL,xQ⟩
     have Vu:Hid (fO b m=ee/\dy b m=gg/\J0 b L m=QF/\tV b L m=qR/\gW b L m=p0):=⟨X9,RW,Mg,Cm,F7⟩
     have hkc:¬kf<cc:=by
      have h1:=Mf (oS (ks:=[dy b]) (gO b L) XZ.o.2).1;rw[QC,pn,Vt]at h1;omega
     have hlh:QF<=qR:=by rw[<-Mg,<-Cm];exact Jb _ _ _
     have hhb:hi<=b.an:=by rw[<-xQ];exact(sS (eX Vr.o.2)).1 Vr.o.2
     have Qr:Hid (m∈au b L↔qR<=b.an):=(by rw[<-Cm];exact sS rf.o.2.1:m∈au b L↔qR<=b.an)
     have HPP:Hid (p0=if b.an<QF then 1 else if qR<=b.an then 2 else 0):=(by
      rw[<-F7,<-Mg,<-Cm];unfold gW;by_cases h1:b.an<jY b.places.toNat L m
      .rw[if_pos h1,if_pos (show b.an<J0 b L m from h1)]
      .rw[if_neg h1,if_neg (show¬b.an<J0 b L m from h1)];by_cases h2:gV b.places.toNat L m<=b.an
       .rw[if_pos ((vg HV.o rf.o.2.1).2 h2),if_pos (show tV b L m<=b.an from h2)]
       .rw[if_neg (fun h=>h2 ((vg HV.o rf.o.2.1).1 h)),if_neg (show¬tV b L m<=b.an from h2)]:p0=if b.an<QF then 1 else if qR<=b.an then 2 else 0)
     have UZ:Hid (m∈au b L->hi<=qR/\(qR=hi->lexLt l lw=false)):=(fun Aq=>by
      have h1:=oS (ks:=[tV b L]) (gO b L) Aq;have h2:=Mf h1.1;rw[RT,xQ,Cm]at h2;refine⟨h2,fun e=>?_⟩;have h3:=nJ (ks:=[tV b L]) Aq (Jc (by rw[RT,xQ,Cm];exact e.symm));rw[RT,rf.o.2.2.2,X7]at h3;exact h3:m∈au b L->hi<=qR/\(qR=hi->lexLt l lw=false))
     have HDF:Hid (m∈au b L->df<=ee/\(ee=df->kf<=gg)/\(ee=df->gg=kf->lexLt l lf=false)):=(fun Aq=>by
      have h1:=oS (ks:=[fO b,dy b]) (gO b L) Aq;have h2:=zbV h1.1;rw[QB,X8,X9,Vt,RW]at h2;refine⟨h2.1,h2.2,fun e1 e2=>?_⟩;have h3:=nJ (ks:=[fO b,dy b]) Aq (Vq (by rw[QB,X8,X9];exact e1.symm) (by rw[QB,Vt,RW];exact e2.symm));rw[QB,rf.o.2.2.2,J5]at h3;exact h3:m∈au b L->df<=ee/\(ee=df->kf<=gg)/\(ee=df->gg=kf->lexLt l lf=false))
     have HCC:Hid (m∈au b L->cc<=gg/\(gg=cc->lexLt l lc=false)):=(fun Aq=>by
      have h1:=oS (ks:=[dy b]) (gO b L) Aq;have h2:=Mf h1.1;rw[QC,pn,RW]at h2;refine⟨h2,fun e=>?_⟩;have h3:=nJ (ks:=[dy b]) Aq (Jc (by rw[QC,pn,RW];exact e.symm));rw[QC,rf.o.2.2.2,X6]at h3;exact h3:m∈au b L->cc<=gg/\(gg=cc->lexLt l lc=false))
     obtain⟨D,hD⟩:=ex1 (cU b.places.toNat (au b L) b.parts.length);have HD:=hid hD
     have HDR:Hid (sk D b.parts.length):=(by
      have h:=ma b.places.toNat (au b L) b.parts.length;rw[hD]at h;exact B9.2 ⟨fun y hy=>by have:=h.1 y hy;omega,h.2⟩:sk D b.parts.length)
     have hDl:D.length<=5:=by rw[<-hD];exact Nat.le_trans (nD _ _ _) U4.o.2
     have HDM:Hid (m∈au b L->∀y∈D,y∈l):=(fun Aq y hy=>by
      have h:=ma b.places.toNat (au b L) b.parts.length;rw[hD]at h;obtain⟨q,rfl⟩:∃q:Nat,y=(q:Int):=⟨y.toNat,by have:=(h.1 y hy).1;omega⟩
      rw[<-hD]at hy;have h2:=(nE.1 hy).2;rw[<-rf.o.2.2.2];exact nB.2 fun hmi=>h2 ⟨m,Aq,hmi⟩:m∈au b L->∀y∈D,y∈l)
     clear hl RS QB QC RT J5 X6 X7 hm X8 Vt pn nL xQ X9 RW Mg Cm F7 hD;have Qu:Hid (Below w2.heap.size w2 w2):=Below.refl _ _;go_wp2_with fail
     refine(HF.o w2 NL.o).mono ?_;rintro e w3 ⟨⟨ij,_⟩|⟨_,sX,_⟩|⟨_,_,vf,rfl,Dq⟩,pg⟩
     .exact absurd ij kZ.o
     .exact absurd sX HS.o
     rw[XZ.o.1,Vs.o.1]at Dq;rw[XZ.o.1,HK.o.1];have JZ:=hid Dq;have Je:=NL.t pg;have sU:=Jd.t pg;have Qv:=Qu.t pg;have zb8:Hid (Below w3.heap.size w3 w3):=Below.refl _ _;clear pg Dq z0 z1 z2 z3 z4;obtain⟨z0,z1,z2,z3,z4⟩:=(hidb jC sU.o).o.c5;go_wp2_with fail
     refine(XW.o w3 Je.o).mono ?_;rintro e w4 ⟨⟨ij,_⟩|⟨_,sX,_⟩|⟨_,_,vc,rfl,RL⟩,ig⟩
     .exact absurd ij kZ.o
     .exact absurd sX HS.o
     rw[HMC.o.1,HPC.o.1]at RL;rw[HMC.o.1,HK.o.2.2.1];have XO:=hid RL;have Jf:=Je.t ig;have sV:=sU.t ig;have Qw:=Qv.t ig;have zb9:=zb8.t ig;have zca:Hid (Below w4.heap.size w4 w4):=Below.refl _ _;clear ig RL z0 z1 z2 z3 z4;obtain⟨z0,z1,z2,z3,z4⟩:=(hidb jC sV.o).o.c5;go_wp2_with fail
     refine(XX.o w4 Jf.o).mono ?_;rintro e w5 ⟨⟨ij,_⟩|⟨_,sX,_⟩|⟨_,_,vw,rfl,hvw⟩,kQ⟩
     .exact absurd ij kZ.o
     .exact absurd sX HS.o
     rw[Vr.o.1,HPW.o.1]at hvw;rw[Vr.o.1,HK.o.2.2.2.1,HK.o.2.2.2.2];have HVW:=hid hvw;have Qt:=Jf.t kQ;have Ck:=sV.t kQ;have Qx:=Qw.t kQ;have zcc:=zb9.t kQ;have zcd:=zca.t kQ;have zce:Hid (Below w5.heap.size w5 w5):=Below.refl _ _;clear kQ hvw z0 z1 z2 z3 z4;obtain⟨E,hE⟩:=ex1 (w5.alloc (.cells #[.int .i64 lo,.int .i64 hi] 31));have QG:=(wnew hE).o;have BE:=bnew hE;have Jg:=Qt.t QG;have sW:=Ck.t QG;have Qy:=Qx.t QG;have zcf:=zcc.t QG;have zcg:=zcd.t QG;have zch:=zce.t QG;have zci:Hid (Below E.heap.size E E):=Below.refl _ _;clear QG;obtain⟨z0,z1,z2,z3,z4⟩:=(hidb jC sW.o).o.c5;go_wp2_with fail
     refine(XY.o E Jg.o).mono ?_;rintro e w6 ⟨⟨ij,_⟩|⟨_,sX,_⟩|⟨_,_,vd,rfl,hvd⟩,lh⟩
     .exact absurd ij kZ.o
     .exact absurd sX HS.o
     rw[HD.o]at hvd;have HVD:=hid hvd;obtain⟨da,dc,hdS,hdE⟩:=hvd;have Ya:Hid (cn w6 vd D.length da dc/\∀b',da=some b'->∀j x,D[j]?=some x->At w6 b' j (.int .i64 x)):=⟨hdS,hdE⟩
     obtain⟨rfl,dl,dm,dn,dr⟩:=hdS;unfold maxLen at dm;clear dn dr hdE;have NM:=Jg.t lh;have FH:=sW.t lh;have Qz:=Qy.t lh;have Vv:=zcf.t lh;have zck:=zcg.t lh;have zcl:=zch.t lh;have zcm:=zci.t lh;have zcn:Hid (Below w6.heap.size w6 w6):=Below.refl _ _;clear lh hE z0 z1 z2 z3 z4;obtain⟨z0,z1,z2,z3,z4⟩:=(hidb jC FH.o).o.c5;have QH:=lX w6 _ vf b lf (HB.o.later (Kp.of NM.o)) HV.o (HC.o.later NM.o) Vs.o.2.1 (JZ.o.later (Kp.of Vv.o));rw[Vs.o.2.2,show((jy b.places.toNat mf:Nat):Int)=df from HK.o.1]at QH;go_wp2_with fail
     refine QH.mono ?_;rintro e w7 ⟨rfl,xB⟩;have CW7:=NM.t xB;have Vw:=FH.t xB;have zcp:=Qz.t xB;have Vx:=Vv.t xB;have zcq:=zck.t xB;have zcr:=zcl.t xB;have zcs:=zcm.t xB;have zct:=zcn.t xB;clear xB QH z0 z1 z2 z3 z4;obtain⟨z0,z1,z2,z3,z4⟩:=(hidb jC Vw.o).o.c5;have QI:=qa w7 _ vf b lf (HB.o.later (Kp.of CW7.o)) HV.o (HC.o.later CW7.o) Vs.o.2.1 (JZ.o.later (Kp.of Vx.o));rw[Vs.o.2.2,show dR b mf b.places.toNat=kf from HK.o.2.1]at QI;go_wp2_with fail
     refine QI.mono ?_;rintro e w8 ⟨rfl,xC⟩;have CW8:=CW7.t xC;have Vy:=Vw.t xC;have zcv:=zcp.t xC;have zcw:=Vx.t xC;have Vz:=zcq.t xC;have zcx:=zcr.t xC;have zcy:=zcs.t xC;have zcz:=zct.t xC;clear xC QI z0 z1 z2 z3 z4;obtain⟨z0,z1,z2,z3,z4⟩:=(hidb jC Vy.o).o.c5;have QJ:=qa w8 _ vc b lc (HB.o.later (Kp.of CW8.o)) HV.o (HC.o.later CW8.o) HPC.o.2.1 (XO.o.later (Kp.of Vz.o));rw[HPC.o.2.2,show dR b mc b.places.toNat=cc from HK.o.2.2.1]at QJ;go_wp2_with fail
     refine QJ.mono ?_;rintro e w9 ⟨rfl,xD⟩;have CW9:=CW8.t xD;have VA:=Vy.t xD;have zcB:=zcv.t xD;have zcC:=zcw.t xD;have zcD:=Vz.t xD;have VB:=zcx.t xD;have zcE:=zcy.t xD;have zcF:=zcz.t xD;clear xD QJ z0 z1 z2 z3 z4;obtain⟨z0,z1,z2,z3,z4⟩:=(hidb jC VA.o).o.c5;have Jh:=sO w9 _ vw b lw (HB.o.later (Kp.of CW9.o)) HV.o (HC.o.later CW9.o) HPW.o.2.1 (HVW.o.later (Kp.of VB.o));rw[tU.o,HPW.o.2.2]at Jh;go_wp2_with fail
     refine Jh.mono ?_;rintro e w10 ⟨⟨ij,_⟩|⟨_,rfl⟩,oT⟩
     .exact absurd ij kZ.o
     rw[show jY b.places.toNat L mw=lo from HK.o.2.2.2.1,show gV b.places.toNat L mw=hi from HK.o.2.2.2.2];have zcG:=CW9.t oT;have VC:=VA.t oT;have VD:=zcB.t oT;have VE:=zcC.t oT;have VF:=zcD.t oT;have VG:=VB.t oT;have VH:=zcE.t oT;have VI:=zcF.t oT;clear oT Jh z0 z1 z2 z3 z4;obtain⟨F,hF⟩:=ex1 (w10.alloc (.cells #[.int .i64 lo,.int .i64 hi] 31));have Mh:=(wnew hF).o;have BF:=bnew hF;have CWF:=zcG.t Mh;have VJ:=VC.t Mh;have zcH:=VD.t Mh;have zcI:=VE.t Mh;have zcJ:=VF.t Mh;have zcK:=VG.t Mh;have VK:=VH.t Mh;have VL:=VI.t Mh;have zcL:Hid (Below F.heap.size F F):=Below.refl _ _;clear Mh;obtain⟨z0,z1,z2,z3,z4⟩:=(hidb jC VJ.o).o.c5;obtain⟨t0,t1⟩:=(hidb BE VK.o).o.c2;obtain⟨u0,u1⟩:=BF.o.c2;have zij:=Me;have hR:=sm F _ D b.parts.length (by omega) (HVD.o.later (Kp.of VL.o));go_wp2_with fail
     refine hR.mono ?_;rintro e Ul ⟨r11,Ui,rfl,VM,rfl⟩;obtain rfl:r11=0:=VM.2 HDR.o;obtain⟨Ul,QK⟩:=ex1 (F.drewN Ui);have tW:Below F.heap.size F Ul:=by rw[<-QK];exact Below.drewN (Below.refl _ _) _
     rw[QK];have QL:=CWF.t tW;have NN:=VJ.t tW;have NO:=zcH.t tW;have VN:=zcI.t tW;have VO:=zcJ.t tW;have VP:=zcK.t tW;have VQ:=VK.t tW;have VS:=VL.t tW;have VT:=zcL.t tW;clear tW QK VM hR hF t0 t1 u0 u1 z0 z1 z2 z3 z4;obtain⟨z0,z1,z2,z3,z4⟩:=(hidb jC NN.o).o.c5;have Ji:=Ad Ul _ vl b l (HB.o.later (Kp.of QL.o)) HV.o (HC.o.later QL.o) rf.o.2.2.1 (DJ.o.2.later (Kp.of NO.o));rw[tU.o,rf.o.1]at Ji;go_wp2_with fail
     refine Ji.mono ?_;rintro e w12 ⟨⟨ij,_⟩|⟨_,rfl⟩,mU⟩
     .exact absurd ij kZ.o
     have QM:=QL.t mU;have NP:=NN.t mU;have NQ:=NO.t mU;have VU:=VN.t mU;have VV:=VO.t mU;have VW:=VP.t mU;have VX:=VQ.t mU;have VY:=VS.t mU;have VZ:=VT.t mU;clear mU Ji z0 z1 z2 z3 z4;rw[Vu.o.2.2.2.2];obtain⟨z0,z1,z2,z3,z4⟩:=(hidb jC NP.o).o.c5;have Jj:=lX w12 _ vl b l (HB.o.later (Kp.of QM.o)) HV.o (HC.o.later QM.o) rf.o.2.2.1 (DJ.o.2.later (Kp.of NQ.o));rw[rf.o.1,show((jy b.places.toNat m:Nat):Int)=ee from Vu.o.1]at Jj;go_wp2_with fail
     refine Jj.mono ?_;rintro e w13 ⟨rfl,mV⟩;have QO:=QM.t mV;have NS:=NP.t mV;have NT:=NQ.t mV;have V2:=VU.t mV;have V3:=VV.t mV;have V4:=VW.t mV;have V5:=VX.t mV;have V6:=VY.t mV;have V7:=VZ.t mV;clear mV Jj z0 z1 z2 z3 z4;obtain⟨z0,z1,z2,z3,z4⟩:=(hidb jC NS.o).o.c5;have Jk:=qa w13 _ vl b l (HB.o.later (Kp.of QO.o)) HV.o (HC.o.later QO.o) rf.o.2.2.1 (DJ.o.2.later (Kp.of NT.o));rw[rf.o.1,show dR b m b.places.toNat=gg from Vu.o.2.1]at Jk;go_wp2_with fail
     refine Jk.mono ?_;rintro e w14 ⟨rfl,mX⟩;have QP:=QO.t mX;have NU:=NS.t mX;have NV:=NT.t mX;have V8:=V2.t mX;have V9:=V3.t mX;have We:=V4.t mX;have Wf:=V5.t mX;have Wg:=V6.t mX;have Wh:=V7.t mX;clear mX Jk z0 z1 z2 z3 z4;obtain⟨z0,z1,z2,z3,z4⟩:=(hidb jC NU.o).o.c5;have Jl:=sO w14 _ vl b l (HB.o.later (Kp.of QP.o)) HV.o (HC.o.later QP.o) rf.o.2.2.1 (DJ.o.2.later (Kp.of NV.o));rw[tU.o,rf.o.1]at Jl;go_wp2_with fail
     refine Jl.mono ?_;rintro e w15 ⟨⟨ij,_⟩|⟨_,rfl⟩,mY⟩
     .exact absurd ij kZ.o
     rw[show jY b.places.toNat L m=QF from Vu.o.2.2.1,show gV b.places.toNat L m=qR from Vu.o.2.2.2.1];have zcM:=QP.t mY;have Wi:=NU.t mY;have Wj:=NV.t mY;have Wl:=V8.t mY;have Wm:=V9.t mY;have Wn:=We.t mY;have Wo:=Wf.t mY;have Wp:=Wg.t mY;have Wq:=Wh.t mY;clear mY Jl z0 z1 z2 z3 z4;obtain⟨G,hG⟩:=ex1 (w15.alloc (.cells #[.int .i64 QF,.int .i64 qR] 31));have J1:=(wnew hG).o;have BG:=bnew hG;have CWG:=zcM.t J1;have zcN:=Wi.t J1;have QQ:=Wj.t J1;have Wr:=Wl.t J1;have Ws:=Wm.t J1;have zcO:=Wn.t J1;have zcP:=Wo.t J1;have Wt:=Wp.t J1;have ziq:=Wq.t J1;have zir:Hid (Below G.heap.size G G):=Below.refl _ _;clear J1;have z0:=(hidb jC zcN.o).o.c1;obtain⟨-,t1⟩:=(hidb BE zcP.o).o.c2;obtain⟨u0,u1⟩:=BG.o.c2;have Kl:=HPP.o;by_cases Fh:b.an<QF
     .rw[if_pos Fh]at Kl;subst Kl;have g1:¬qR<hi:=by omega
      have g2:¬qR<=b.an:=by omega
      have g3:¬qR=hi:=by omega
      have g4:(qR==hi)=false:=by simp;omega
      clear hlh hhb hkc;go_wp2_with(go_at_call 10;refine(bT _).mono ?_;rintro e w17 ⟨rfl,_⟩)
      go_ret;rfl
     .rw[if_neg Fh]at Kl;by_cases Po:qR<=b.an
      .rw[if_pos Po]at Kl;subst Kl;have Aq:=Qr.o.2 Po;have hh:=UZ.o Aq;have hd:=HDF.o Aq;have hcg:=HCC.o Aq;have HHB:Hid (qR=hi->lexLt l lw=false):=hh.2;have HDB:Hid (ee=df->gg=kf->lexLt l lf=false):=hd.2.2;have HDG:Hid (ee=df->kf<=gg):=hd.2.1;have RX:Hid (gg=cc->lexLt l lc=false):=hcg.2;have g1:¬qR<hi:=by have:=hh.1;omega
       have i1:¬ee<df:=by have:=hd.1;omega
       have i2:cc<=gg:=hcg.1;have HDY:Hid (∀y∈D,y∈l):=HDM.o Aq;clear Aq hh hd hcg hlh hhb hkc;by_cases Yb:qR=hi
       .have hBf:=iQ G vl vw l lw (DJ.o.2.later (Kp.of QQ.o)) (HVW.o.later (Kp.of zcO.o));rw[HHB.o Yb]at hBf;subst Yb;go_wp2_with fail
        refine hBf.mono ?_;rintro e w16 ⟨rfl,n16,rfl⟩;obtain⟨wz,QR⟩:=ex1 (G.drewN n16);have xE:Hid (Below G.heap.size G wz):=by rw[<-QR];exact Below.drewN (Below.refl _ _) _
        rw[QR];clear QR hBf z0 t1 u0 u1 HHB UZ HPP Qr;have xF:=QQ.t xE.o;have QS:=Wr.t xE.o;have Jm:=Ws.t xE.o;have QT:=Wt.t xE.o;go_wp2
        go_loop [28] (fun j=>∃q:Nat,q<=D.length/\j=.int .i64 q) (fun j=>D.length-(intOf j).toNat)
        case atStart=>exact⟨0,Nat.zero_le _,rfl⟩
        case round=>
         obtain⟨q,hq,rfl⟩:=hrel;by_cases Vc:q<D.length
         .obtain⟨⟨blk,off,sp⟩,y,rfl,hy,y0⟩:=Ya.o.1.elem Ya.o.2 Vc;obtain rfl:sp=none:=y0.1;have yc:=(y0.later (Kp.of QT.o)).2;have bu:(q:Int)<(D.length:Int):=by omega
          have hH:=q7 wz _ l y (DJ.o.2.later (Kp.of xF.o));rw[decide_eq_true (HDY.o y (List.mem_of_getElem? hy))]at hH;clear hy y0;go_wp2_with(go_at_call 20;refine hH.mono ?_;rintro e w17 ⟨rfl,rfl⟩)
          go_round
          case rel=>exact⟨q+1,by omega,by go_num⟩
          case measure=>simp[intOf];omega
         .have e:q=D.length:=by omega
          subst e;have QU:=iQ wz vl vf l lf (DJ.o.2.later (Kp.of xF.o)) (JZ.o.later (Kp.of QS.o));have QW:Hid (∀X,Below wz.heap.size wz X->Calls ZP 39 #[vl,vc] X (qz X (.bool (lexLt l lc)))):=fun X hX=>iQ X vl vc l lc (DJ.o.2.later (Kp.of (xF.o.trans (hX.mono xF.o.size)))) (XO.o.later (Kp.of (Jm.o.trans (hX.mono Jm.o.size))));by_cases h1:ee=df
          .have h5:=HDG.o h1;by_cases h2:gg=kf
           .rw[HDB.o h1 h2]at QU;subst h1;subst h2;go_wp2_with fail
            refine QU.mono ?_;rintro e w18 ⟨rfl,n18,rfl⟩;obtain⟨wy,QY⟩:=ex1 (wz.drewN n18);have QZ:Hid (Below wz.heap.size wz wy):=by rw[<-QY];exact Below.drewN (Below.refl _ _) _
            rw[QY];clear QY QU;have oU:=QW.o wy QZ.o;by_cases h3:gg=cc
            .rw[RX.o h3]at oU;subst h3
             go_wp2_with(first
              |(go_at_call 39;refine oU.mono ?_;rintro e Wu ⟨rfl,n19,rfl⟩;clear oU)
              |(go_at_call 10;refine(bT _).mono ?_;rintro e Jn ⟨rfl,_⟩))
             go_ret;rfl
            .have h8:cc<gg:=by omega
             clear oU;go_wp2_with(go_at_call 10;refine(bT _).mono ?_;rintro e Jn ⟨rfl,_⟩)
             go_ret;rfl
           .have h6:(gg==kf)=false:=by simp;exact h2
            have h7:¬gg<kf:=by omega
            subst h1;have oU:=QW.o wz (Below.refl _ _);by_cases h3:gg=cc
            .rw[RX.o h3]at oU;subst h3
             go_wp2_with(first
              |(go_at_call 39;refine oU.mono ?_;rintro e Wu ⟨rfl,n19,rfl⟩;clear oU)
              |(go_at_call 10;refine(bT _).mono ?_;rintro e Jn ⟨rfl,_⟩))
             go_ret;rfl
            .have h8:cc<gg:=by omega
             clear oU;go_wp2_with(go_at_call 10;refine(bT _).mono ?_;rintro e Jn ⟨rfl,_⟩)
             go_ret;rfl
          .have h6:(ee==df)=false:=by simp;exact h1
           have oU:=QW.o wz (Below.refl _ _);by_cases h3:gg=cc
           .rw[RX.o h3]at oU;subst h3
            go_wp2_with(first
             |(go_at_call 39;refine oU.mono ?_;rintro e Wu ⟨rfl,n19,rfl⟩;clear oU)
             |(go_at_call 10;refine(bT _).mono ?_;rintro e Jn ⟨rfl,_⟩))
            go_ret;rfl
           .have h8:cc<gg:=by omega
            clear oU;go_wp2_with(go_at_call 10;refine(bT _).mono ?_;rintro e Jn ⟨rfl,_⟩)
            go_ret;rfl
       .have g3:¬qR=hi:=Yb;have g4:(qR==hi)=false:=by simp;exact Yb
        go_wp2_with fail
        obtain⟨wz,QR⟩:=ex1 (G);have xE:Hid (Below G.heap.size G wz):=by rw[<-QR];exact Below.refl _ _
        rw[QR];have xF:=QQ.t xE.o;have QS:=Wr.t xE.o;have Jm:=Ws.t xE.o;have QT:=Wt.t xE.o;clear QR z0 t1 u0 u1 g1 g3 g4;go_loop [28] (fun j=>∃q:Nat,q<=D.length/\j=.int .i64 q) (fun j=>D.length-(intOf j).toNat)
        case atStart=>exact⟨0,Nat.zero_le _,rfl⟩
        case round=>
         obtain⟨q,hq,rfl⟩:=hrel;by_cases Vc:q<D.length
         .obtain⟨⟨blk,off,sp⟩,y,rfl,hy,y0⟩:=Ya.o.1.elem Ya.o.2 Vc;obtain rfl:sp=none:=y0.1;have yc:=(y0.later (Kp.of QT.o)).2;have bu:(q:Int)<(D.length:Int):=by omega
          have hH:=q7 wz _ l y (DJ.o.2.later (Kp.of xF.o));rw[decide_eq_true (HDY.o y (List.mem_of_getElem? hy))]at hH;clear hy y0;go_wp2_with(go_at_call 20;refine hH.mono ?_;rintro e w17 ⟨rfl,rfl⟩)
          go_round
          case rel=>exact⟨q+1,by omega,by go_num⟩
          case measure=>simp[intOf];omega
         .have e:q=D.length:=by omega
          subst e;have QU:=iQ wz vl vf l lf (DJ.o.2.later (Kp.of xF.o)) (JZ.o.later (Kp.of QS.o));have QW:Hid (∀X,Below wz.heap.size wz X->Calls ZP 39 #[vl,vc] X (qz X (.bool (lexLt l lc)))):=fun X hX=>iQ X vl vc l lc (DJ.o.2.later (Kp.of (xF.o.trans (hX.mono xF.o.size)))) (XO.o.later (Kp.of (Jm.o.trans (hX.mono Jm.o.size))));by_cases h1:ee=df
          .have h5:=HDG.o h1;by_cases h2:gg=kf
           .rw[HDB.o h1 h2]at QU;subst h1;subst h2;go_wp2_with fail
            refine QU.mono ?_;rintro e w18 ⟨rfl,n18,rfl⟩;obtain⟨wy,QY⟩:=ex1 (wz.drewN n18);have QZ:Hid (Below wz.heap.size wz wy):=by rw[<-QY];exact Below.drewN (Below.refl _ _) _
            rw[QY];clear QY QU;have oU:=QW.o wy QZ.o;by_cases h3:gg=cc
            .rw[RX.o h3]at oU;subst h3
             go_wp2_with(first
              |(go_at_call 39;refine oU.mono ?_;rintro e Wu ⟨rfl,n19,rfl⟩;clear oU)
              |(go_at_call 10;refine(bT _).mono ?_;rintro e Jn ⟨rfl,_⟩))
             go_ret;rfl
            .have h8:cc<gg:=by omega
             clear oU;go_wp2_with(go_at_call 10;refine(bT _).mono ?_;rintro e Jn ⟨rfl,_⟩)
             go_ret;rfl
           .have h6:(gg==kf)=false:=by simp;exact h2
            have h7:¬gg<kf:=by omega
            subst h1;have oU:=QW.o wz (Below.refl _ _);by_cases h3:gg=cc
            .rw[RX.o h3]at oU;subst h3
             go_wp2_with(first
              |(go_at_call 39;refine oU.mono ?_;rintro e Wu ⟨rfl,n19,rfl⟩;clear oU)
              |(go_at_call 10;refine(bT _).mono ?_;rintro e Jn ⟨rfl,_⟩))
             go_ret;rfl
            .have h8:cc<gg:=by omega
             clear oU;go_wp2_with(go_at_call 10;refine(bT _).mono ?_;rintro e Jn ⟨rfl,_⟩)
             go_ret;rfl
          .have h6:(ee==df)=false:=by simp;exact h1
           have oU:=QW.o wz (Below.refl _ _);by_cases h3:gg=cc
           .rw[RX.o h3]at oU;subst h3
            go_wp2_with(first
             |(go_at_call 39;refine oU.mono ?_;rintro e Wu ⟨rfl,n19,rfl⟩;clear oU)
             |(go_at_call 10;refine(bT _).mono ?_;rintro e Jn ⟨rfl,_⟩))
            go_ret;rfl
           .have h8:cc<gg:=by omega
            clear oU;go_wp2_with(go_at_call 10;refine(bT _).mono ?_;rintro e Jn ⟨rfl,_⟩)
            go_ret;rfl
      .rw[if_neg Po]at Kl;subst Kl;have g1:¬qR<hi:=by omega
       have g3:¬qR=hi:=by omega
       have g4:(qR==hi)=false:=by simp;omega
       clear hlh hhb hkc;go_wp2_with(go_at_call 10;refine(bT _).mono ?_;rintro e w17 ⟨rfl,_⟩)
       go_ret;rfl
end Go.Proofs.Cz
namespace Go.Proofs.Cz
open Go.Conc Go.aO
def S1 (n:Nat):Bool:=(Nat.blt n 170&&!([0,1,2,5,10,21,44,58,88,141,142,143,144,145,146,147,148,149,150,151,152,153,154,155,156,165,166,167].contains n))||Nat.beq n JK||Nat.beq n (JK+11)
theorem Q0:aK ZP:=fun t i v h1 h2=>Cw.gZ t i v h1 h2
theorem Jo:ap ZP:=fun t i u h=>Cw.dK t i u h
noncomputable def oz (lo n:Nat):Bool:=(List.range n).all fun i=>!S1 (lo+i)||(match Tryz.funcs[lo+i]? with
 |some fn=>(match fn.body with|some c=>codeOk ZP S1 c&&!(fn.name== "runtime.NumGoroutine")|none=>false)
 |none=>false)
theorem ZG:oz 0 40=true:=by kernel_rfl
theorem ZH:oz 40 60=true:=by kernel_rfl
theorem ZI:oz 100 69=true:=by kernel_rfl
theorem rX {lo n i:Nat} (h:oz lo n=true) (h1:lo<=i) (h2:i<lo+n) (hs:S1 i=true):∃fn c,Tryz.funcs[i]? =some fn/\fn.body=some c/\codeOk ZP S1 c=true/\fn.name≠ "runtime.NumGoroutine" :=by
 have:=List.all_eq_true.1 h (i-lo) (by simp;omega);rw[show lo+(i-lo)=i by omega,hs]at this;simp only[Bool.not_true,Bool.false_or]at this;cases hf:Tryz.funcs[i]? with
 |none=>rw[hf]at this;cases this
 |some fn=>
  rw[hf]at this;simp only at this;cases tD:fn.body with
  |none=>rw[tD]at this;cases this
  |some c=>
   rw[tD]at this;simp only[Bool.and_eq_true,Bool.not_eq_true',beq_eq_false_iff_ne]at this;exact⟨fn,c,rfl,tD,this.1,this.2⟩
theorem DK {f:Nat} (h:S1 f=true):f<170\/f=JK\/f=JK+11:=by
 simp only[S1,Bool.or_eq_true,Bool.and_eq_true]at h;rcases h with(⟨h,_⟩|h)|h
 .exact .inl (by simpa using h)
 .exact .inr (.inl (Nat.eq_of_beq_eq_true h))
 .exact .inr (.inr (Nat.eq_of_beq_eq_true h))
theorem NW {f:Nat} (h1:170<=f) (h2:f≠JK) (h3:f≠JK+11):S1 f=false:=by
 cases h:S1 f with
 |false=>rfl
 |true=>rcases DK h with h|h|h<;>omega
theorem vh:ZP.funcs.size=169:=by rw[Tz.sg];unfold Tz.funcs;rw[Array.size_setIfInBounds,Tz.size]
theorem sY:ZP.globals.size=1:=by kernel_rfl
theorem DO:Closed ZP Tryz.funcs S1 JI where
 gZ:=Q0
 dK:=Jo
 Sg:=fun _=>by kernel_rfl
 size:=by rw[vh,Tz.size]
 x9:=fun f hf=>by
  rw[vh,sY];refine⟨fun _=>?_,fun _ a b h=>h⟩;have hJ:JK=1000000:=rfl;rcases DK hf with h|h|h<;>refine NW ?_ ?_ ?_<;>omega
 body:=fun f hf=>by
  have hJ:JK=1000000:=rfl;rcases DK hf with h|h|h
  .by_cases h9:f=169
   .subst h9;exact .inl ⟨Array.getElem?_eq_none (by rw[vh];omega),Array.getElem?_eq_none (by rw[Tz.size];omega)⟩
   .obtain⟨fn,c,h1,h2,h3,h4⟩:∃fn c,Tryz.funcs[f]? =some fn/\fn.body=some c/\codeOk ZP S1 c=true/\fn.name≠ "runtime.NumGoroutine" :=by
     by_cases l1:f<40
     .exact rX ZG (by omega) (by omega) hf
     .by_cases l2:f<100
      .exact rX ZH (by omega) (by omega) hf
      .exact rX ZI (by omega) (by omega) hf
    have te:10≠f:=fun e=>by subst e;cases hf
    exact .inr ⟨fn,fn,c,c,(Tz.same f te).trans h1,h1,h2,h2,.same h3 (.inr fun _ _ hh=>hh),h4,h4,rfl,rfl⟩
  .exact .inl ⟨Array.getElem?_eq_none (by rw[vh];omega),Array.getElem?_eq_none (by rw[Tz.size];omega)⟩
  .exact .inl ⟨Array.getElem?_eq_none (by rw[vh];omega),Array.getElem?_eq_none (by rw[Tz.size];omega)⟩
theorem Mi:S1 (ZP.funcs.size+ZP.globals.size)=false:=by rw[vh,sY];exact NW (by omega) (by decide) (by decide)
theorem Wv:ae ZP Tryz.funcs=Tryz.prog:=rfl
end Go.Proofs.Cz
