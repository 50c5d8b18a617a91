/- A part. Conditions: none. -/
import Derived.Test.YtboiakcocelkmaaGreatDoorT46
set_option linter.all false
set_option maxHeartbeats 8000000
set_option maxRecDepth 100000
namespace Go.Proofs.Cz
open Go.RowKit
variable {L l o r:List Int} {P:Program} {b:an} {k m n:Nat} {w:World} {x:Int}
theorem Hh (w:World) (v:Value) (b:an) (p:Int) (hb:aB w v b) (hv:Valid b) (hc:lq w) (hp:0<=p/\p<=b.places-1):Calls ZP 18 #[v,.int .i64 p] w (Cj w (bz b p)):=by
 have HB:=hid hb;have HV:Hid (Valid b):=hv;obtain⟨v2,v3,v4,rfl,⟨a2,c2,⟨rfl,_,_,_,_⟩,_⟩,⟨a3,c3,⟨rfl,_,_,_,_⟩,_⟩,⟨a4,c4,⟨rfl,_,_,_,_⟩,_⟩⟩:=hb;have jo:=hv.places;have fV:wrap64 (b.places-1)=b.places-1:=by unfold wrap64;omega
 have e1:(decide (0<=p)&&decide (p<=b.places-1))=true:=by simpa using hp
 have hC:=jF (w.alloc (.cells #[.int .i64 b.ap,.int .i64 b.places,.slice a2 b.parts.length c2,.slice a3 b.apart.length c3,.slice a4 b.aa.length c4] 26)) _ _ (HB.o.later (Kp.alloc w _)) hv (hc.later ((Below.refl _ _).alloc (Nat.le_refl _) _));clear hv hc hp;go_enter ZF18,Tryz.ntmps18
 go_wp2_with(first
  |(go_at_call 20
    refine hC.mono ?_;rintro e w1 ⟨⟨r,rfl,rfl⟩,bu⟩;have ew:Hid (Below (w.heap.size+1) _ w1):=bu.iH;obtain⟨s0,s1,s2,s3,s4⟩:=mr.DO ew.o)
  |(go_at_call 66;refine(bU _ _ _ _).mono ?_;rw[e1];rintro e w' ⟨rfl,rfl⟩)
  |(go_at_call 67
    refine(Km _ _ _ p (HB.o.later (Kp.boxed ew.o)) HV.o.parts.many.2).mono ?_;rintro e w2 ⟨⟨r,rfl,hr⟩,fk⟩))
 go_ret2;exact Cj.mk hr (Below.boxed (ew.o.trans (fk.mono (by have:=ew.o.size;simpa using this))))
theorem D3 (w:World) (v vl:Value) (b:an) (l:List Int) (hb:aB w v b) (hv:Valid b) (hc:lq w) (lQ:eC b l) (hl:ae w vl l):
 Calls ZP 81 #[v,vl] w (dU w (.tuple #[v,.agg (dC (ak l)),.int .i64 0])):=by
 have HB:=hid hb;have HV:Hid (Valid b):=hv;have HC:Hid (lq w):=hc;have L1:Hid (eC b l):=lQ;obtain⟨a2,c2,a3,c3,a4,c4,rfl⟩:=hb.dV;obtain⟨la,lc,⟨rfl,ll,lm,ln,lr⟩,le⟩:=hl;have HL:Hid (ae w (.slice la l.length lc) l):=⟨la,lc,⟨rfl,ll,lm,ln,lr⟩,le⟩
 clear ll lm ln lr le;have SA:l.length<=4:=by have:=lQ.len;have:=hv.places;omega
 obtain⟨A0,AU⟩:=ex1 (w.alloc (.cells #[.int .i64 b.ap,.int .i64 b.places,.slice a2 b.parts.length c2,.slice a3 b.apart.length c3,.slice a4 b.aa.length c4] 26));obtain⟨A1,bH⟩:=ex1 (A0.alloc (.cells #[.int .i64 0,.int .i64 0,.slice none 0 0,.slice none 0 0,.slice none 0 0] 66));obtain⟨A2,eQ⟩:=ex1 (A1.alloc (.cells #[.int .i64 0,.int .i64 0,.int .i64 0,.int .i64 0] 86));have OK:=snew AU;have j9:=snew2 bH OK
 have B0:Hid (aX A2 w.heap.size 26 #[.int .i64 b.ap,.int .i64 b.places,.slice a2 b.parts.length c2,.slice a3 b.apart.length c3,.slice a4 b.aa.length c4]):=by
  rw[<-eQ];refine(ac.alloc [] _ _).box ?_ (by simp);rw[<-bH];refine(ac.alloc [] _ _).box ?_ (by simp);rw[<-AU];exact aX.new _ _ _
 have B4:Hid (aX A2 (w.heap.size+1) 66 #[.int .i64 0,.int .i64 0,.slice none 0 0,.slice none 0 0,.slice none 0 0]):=by
  rw[<-eQ];refine(ac.alloc [] _ _).box ?_ (by simp);rw[<-bH,<-OK];exact aX.new _ _ _
 have B5:=bnew2 eQ j9;have HW:=wnew3 AU bH eQ;obtain⟨z0,z1,z2,z3,z4⟩:=B0.o.c5;have PC:=jF A2 _ b (HB.o.later (Kp.of HW.o)) hv (HC.o.later HW.o);clear hb hv hc lQ;go_enter ZF81,Tryz.ntmps81
 go_wp2_with fail
 refine PC.mono ?_;rintro e w1 ⟨⟨r,rfl,rfl⟩,bu⟩;have ew:=hid bu;have fP:=HW.t bu;clear bu PC z0 z1 z2 z3 z4 AU bH eQ OK j9;have BY:=B0.o.below ew.o B0.o.lt;obtain⟨z0,z1,z2,z3,z4⟩:=BY.c5;obtain⟨A3,nN⟩:=ex1 (w1.alloc (.cells #[.int .i64 b.ap,.int .i64 b.places,.slice a2 b.parts.length c2,.slice a3 b.apart.length c3,.slice a4 b.aa.length c4] 66));have B8:=bnew nN;have S0:=wnew nN;have Cr:=fP.t S0.o;have PN:=ew.t S0.o;have zeZ:w.heap.size+1+1<w1.heap.size:=(B5.o.below ew.o B5.o.lt).lt;have C4:=hidb B4 PN.o;have C5:=hidb B5 PN.o;have uo:=GJ A3 _ _ b l (HB.o.later (Kp.of Cr.o)) (HL.o.later (Kp.of Cr.o)) HV.o.parts.many HV.o.jg L1.o;obtain⟨y0,y1,y2,y3,y4⟩:=B8.o.c5;clear BY;go_wp2_with fail
 refine uo.mono ?_;rintro e w5 ⟨⟨r,rfl,rfl⟩,sx⟩;have YD:=hid sx;have PG:=Cr.t sx;clear sx uo z0 z1 z2 z3 z4 y0 y1 y2 y3 y4 nN
 have S3:Hid (∀W,Core A3 W (w.heap.size+1) (w.heap.size+1+1)->(fun W:World=>(W.cell? ⟨w1.heap.size,0,none⟩=some (.int .i64 b.ap)/\W.cell? ⟨w1.heap.size,1,none⟩=some (.int .i64 b.places)/\W.cell? ⟨w1.heap.size,2,none⟩=some (.slice a2 b.parts.length c2)/\W.cell? ⟨w1.heap.size,3,none⟩=some (.slice a3 b.apart.length c3)/\W.cell? ⟨w1.heap.size,4,none⟩=some (.slice a4 b.aa.length c4))/\(W.cell? ⟨w.heap.size+1,0,none⟩=some (cv W (w.heap.size+1) 0)/\W.frozen? ⟨w.heap.size+1,0,none⟩=false/\W.cell? ⟨w.heap.size+1,1,none⟩=some (cv W (w.heap.size+1) 1)/\W.frozen? ⟨w.heap.size+1,1,none⟩=false/\W.cell? ⟨w.heap.size+1,2,none⟩=some (cv W (w.heap.size+1) 2)/\W.frozen? ⟨w.heap.size+1,2,none⟩=false/\W.cell? ⟨w.heap.size+1,3,none⟩=some (cv W (w.heap.size+1) 3)/\W.frozen? ⟨w.heap.size+1,3,none⟩=false/\W.cell? ⟨w.heap.size+1,4,none⟩=some (cv W (w.heap.size+1) 4)/\W.frozen? ⟨w.heap.size+1,4,none⟩=false/\W.cell? ⟨w.heap.size+1+1,0,none⟩=some (cv W (w.heap.size+1+1) 0)/\W.frozen? ⟨w.heap.size+1+1,0,none⟩=false/\W.cell? ⟨w.heap.size+1+1,1,none⟩=some (cv W (w.heap.size+1+1) 1)/\W.frozen? ⟨w.heap.size+1+1,1,none⟩=false/\W.cell? ⟨w.heap.size+1+1,2,none⟩=some (cv W (w.heap.size+1+1) 2)/\W.frozen? ⟨w.heap.size+1+1,2,none⟩=false/\W.cell? ⟨w.heap.size+1+1,3,none⟩=some (cv W (w.heap.size+1+1) 3)/\W.frozen? ⟨w.heap.size+1+1,3,none⟩=false)/\Core A3 W (w.heap.size+1) (w.heap.size+1+1)) W):=fun W h=>by
  have h8:=h.1.box B8.o (by simp;omega);exact⟨⟨h8.cell 0 rfl,h8.cell 1 rfl,h8.cell 2 rfl,h8.cell 3 rfl,h8.cell 4 rfl⟩,⟨h.2.1.cv (by decide),h.2.1.bV 0,h.2.1.cv (by decide),h.2.1.bV 1,h.2.1.cv (by decide),h.2.1.bV 2,h.2.1.cv (by decide),h.2.1.bV 3,h.2.1.cv (by decide),h.2.1.bV 4,h.2.2.cv (by decide),h.2.2.bV 0,h.2.2.cv (by decide),h.2.2.bV 1,h.2.2.cv (by decide),h.2.2.bV 2,h.2.2.cv (by decide),h.2.2.bV 3⟩,h⟩
 have za2:Hid (∀W,(fun W:World=>(W.cell? ⟨w1.heap.size,0,none⟩=some (.int .i64 b.ap)/\W.cell? ⟨w1.heap.size,1,none⟩=some (.int .i64 b.places)/\W.cell? ⟨w1.heap.size,2,none⟩=some (.slice a2 b.parts.length c2)/\W.cell? ⟨w1.heap.size,3,none⟩=some (.slice a3 b.apart.length c3)/\W.cell? ⟨w1.heap.size,4,none⟩=some (.slice a4 b.aa.length c4))/\(W.cell? ⟨w.heap.size+1,0,none⟩=some (cv W (w.heap.size+1) 0)/\W.frozen? ⟨w.heap.size+1,0,none⟩=false/\W.cell? ⟨w.heap.size+1,1,none⟩=some (cv W (w.heap.size+1) 1)/\W.frozen? ⟨w.heap.size+1,1,none⟩=false/\W.cell? ⟨w.heap.size+1,2,none⟩=some (cv W (w.heap.size+1) 2)/\W.frozen? ⟨w.heap.size+1,2,none⟩=false/\W.cell? ⟨w.heap.size+1,3,none⟩=some (cv W (w.heap.size+1) 3)/\W.frozen? ⟨w.heap.size+1,3,none⟩=false/\W.cell? ⟨w.heap.size+1,4,none⟩=some (cv W (w.heap.size+1) 4)/\W.frozen? ⟨w.heap.size+1,4,none⟩=false/\W.cell? ⟨w.heap.size+1+1,0,none⟩=some (cv W (w.heap.size+1+1) 0)/\W.frozen? ⟨w.heap.size+1+1,0,none⟩=false/\W.cell? ⟨w.heap.size+1+1,1,none⟩=some (cv W (w.heap.size+1+1) 1)/\W.frozen? ⟨w.heap.size+1+1,1,none⟩=false/\W.cell? ⟨w.heap.size+1+1,2,none⟩=some (cv W (w.heap.size+1+1) 2)/\W.frozen? ⟨w.heap.size+1+1,2,none⟩=false/\W.cell? ⟨w.heap.size+1+1,3,none⟩=some (cv W (w.heap.size+1+1) 3)/\W.frozen? ⟨w.heap.size+1+1,3,none⟩=false)/\Core A3 W (w.heap.size+1) (w.heap.size+1+1)) W->Core A3 W (w.heap.size+1) (w.heap.size+1+1)):=fun W h=>h.2.2
 have HC0:Hid (∀W,Below A3.heap.size A3 W->Core A3 W (w.heap.size+1) (w.heap.size+1+1)):=fun W h=>
  ⟨ac.mono (O:=[]) (ac.of h) (by simp),⟨_,C4.o.below h C4.o.lt,rfl⟩,⟨_,C5.o.below h C5.o.lt,rfl⟩⟩
 go_wp2_with fail
 go_region_held3 (fun W:World=>(W.cell? ⟨w1.heap.size,0,none⟩=some (.int .i64 b.ap)/\W.cell? ⟨w1.heap.size,1,none⟩=some (.int .i64 b.places)/\W.cell? ⟨w1.heap.size,2,none⟩=some (.slice a2 b.parts.length c2)/\W.cell? ⟨w1.heap.size,3,none⟩=some (.slice a3 b.apart.length c3)/\W.cell? ⟨w1.heap.size,4,none⟩=some (.slice a4 b.aa.length c4))/\(W.cell? ⟨w.heap.size+1,0,none⟩=some (cv W (w.heap.size+1) 0)/\W.frozen? ⟨w.heap.size+1,0,none⟩=false/\W.cell? ⟨w.heap.size+1,1,none⟩=some (cv W (w.heap.size+1) 1)/\W.frozen? ⟨w.heap.size+1,1,none⟩=false/\W.cell? ⟨w.heap.size+1,2,none⟩=some (cv W (w.heap.size+1) 2)/\W.frozen? ⟨w.heap.size+1,2,none⟩=false/\W.cell? ⟨w.heap.size+1,3,none⟩=some (cv W (w.heap.size+1) 3)/\W.frozen? ⟨w.heap.size+1,3,none⟩=false/\W.cell? ⟨w.heap.size+1,4,none⟩=some (cv W (w.heap.size+1) 4)/\W.frozen? ⟨w.heap.size+1,4,none⟩=false/\W.cell? ⟨w.heap.size+1+1,0,none⟩=some (cv W (w.heap.size+1+1) 0)/\W.frozen? ⟨w.heap.size+1+1,0,none⟩=false/\W.cell? ⟨w.heap.size+1+1,1,none⟩=some (cv W (w.heap.size+1+1) 1)/\W.frozen? ⟨w.heap.size+1+1,1,none⟩=false/\W.cell? ⟨w.heap.size+1+1,2,none⟩=some (cv W (w.heap.size+1+1) 2)/\W.frozen? ⟨w.heap.size+1+1,2,none⟩=false/\W.cell? ⟨w.heap.size+1+1,3,none⟩=some (cv W (w.heap.size+1+1) 3)/\W.frozen? ⟨w.heap.size+1+1,3,none⟩=false)/\Core A3 W (w.heap.size+1) (w.heap.size+1+1))
  (first|(refine S3.o _ ?_;(repeat refine Core.set ?_ _ rfl (by simp) _);first|exact HC0.o _ (Below.drewN YD.o 1)|exact HC0.o _ KI.o))
  (first
    |(go_at_call 55
      refine(te _ _ l SA (HL.o.later (Kp.of (PG.o.trans ((Below.drewN (Below.refl w5.heap.size w5) 1).mono PG.o.size))))).mono ?_;rintro e w6 ⟨rfl,S4⟩;have KI:Hid (Below A3.heap.size A3 w6):=YD.o.trans (((Below.drewN (Below.refl w5.heap.size w5) 1).trans S4).mono YD.o.size);simp only[dC];clear S4))
 obtain⟨WF,KA⟩:=ex1 ((((((((((w6).setCell ⟨w.heap.size+1,0,none⟩ (.int .i64 b.ap)).setCell ⟨w.heap.size+1,1,none⟩ (.int .i64 b.places)).setCell ⟨w.heap.size+1,2,none⟩ (.slice a2 b.parts.length c2)).setCell ⟨w.heap.size+1,3,none⟩ (.slice a3 b.apart.length c3)).setCell ⟨w.heap.size+1,4,none⟩ (.slice a4 b.aa.length c4)).setCell ⟨w.heap.size+1+1,0,none⟩ (.int .i64 (ak l 0))).setCell ⟨w.heap.size+1+1,1,none⟩ (.int .i64 (ak l 1))).setCell ⟨w.heap.size+1+1,2,none⟩ (.int .i64 (ak l 2))).setCell ⟨w.heap.size+1+1,3,none⟩ (.int .i64 (ak l 3)));have D4:=C4.o.below KI.o C4.o.lt;have D5:=C5.o.below KI.o C5.o.lt;have me:∀(W:World) (i:Nat) (v:Value),ac [w.heap.size+1] W (W.setCell ⟨w.heap.size+1,i,none⟩ v):=fun W i v=>ac.set W (by simp) v;have PO:∀(W:World) (i:Nat) (v:Value),ac [w.heap.size+1+1] W (W.setCell ⟨w.heap.size+1+1,i,none⟩ v):=fun W i v=>ac.set W (by simp) v
 have F4:aX WF (w.heap.size+1) 66 #[.int .i64 b.ap,.int .i64 b.places,.slice a2 b.parts.length c2,.slice a3 b.apart.length c3,.slice a4 b.aa.length c4]:=by
  rw[<-KA];refine(PO _ 3 _).box ?_ (by simp);refine(PO _ 2 _).box ?_ (by simp);refine(PO _ 1 _).box ?_ (by simp);refine(PO _ 0 _).box ?_ (by simp);exact((((D4.set 0 _).set 1 _).set 2 _).set 3 _).set 4 _
 have F5:aX WF (w.heap.size+1+1) 86 #[.int .i64 (ak l 0),.int .i64 (ak l 1),.int .i64 (ak l 2),.int .i64 (ak l 3)]:=by
  rw[<-KA]
  have D5':aX ((((((w6).setCell ⟨w.heap.size+1,0,none⟩ (.int .i64 b.ap)).setCell ⟨w.heap.size+1,1,none⟩ (.int .i64 b.places)).setCell ⟨w.heap.size+1,2,none⟩ (.slice a2 b.parts.length c2)).setCell ⟨w.heap.size+1,3,none⟩ (.slice a3 b.apart.length c3)).setCell ⟨w.heap.size+1,4,none⟩ (.slice a4 b.aa.length c4)) (w.heap.size+1+1) 86 #[.int .i64 0,.int .i64 0,.int .i64 0,.int .i64 0]:=by
   refine(me _ 4 _).box ?_ (by simp);refine(me _ 3 _).box ?_ (by simp);refine(me _ 2 _).box ?_ (by simp);refine(me _ 1 _).box ?_ (by simp);refine(me _ 0 _).box ?_ (by simp);exact D5
  exact(((D5'.set 0 _).set 1 _).set 2 _).set 3 _
 have Uy:ac [w.heap.size+1,w.heap.size+1+1] w6 WF:=by
  rw[<-KA];refine ac.trans' ?_ (ac.set _ (by simp) _);refine ac.trans' ?_ (ac.set _ (by simp) _);refine ac.trans' ?_ (ac.set _ (by simp) _);refine ac.trans' ?_ (ac.set _ (by simp) _);refine ac.trans' ?_ (ac.set _ (by simp) _);refine ac.trans' ?_ (ac.set _ (by simp) _);refine ac.trans' ?_ (ac.set _ (by simp) _);refine ac.trans' ?_ (ac.set _ (by simp) _);refine ac.trans' ?_ (ac.set _ (by simp) _);exact ac.refl _ _
 have KC:Hid (Below w.heap.size w WF):=(Cr.o.trans (KI.o.mono Cr.o.size)).trans (Uy.below (by simp;omega) (by have:=KI.o.size;have:=Cr.o.size;omega));obtain⟨u0,u1,u2,u3,u4⟩:=F4.c5;obtain⟨x0,x1,x2,x3⟩:=F5.c4;rw[KA];clear KA D4 D5 me PO F4 F5 Uy;go_wp2
 refine bodyPost_ret (v:=.tuple #[.agg #[.int .i64 b.ap,.int .i64 b.places,.slice a2 b.parts.length c2,.slice a3 b.apart.length c3,.slice a4 b.aa.length c4],.agg #[.int .i64 (ak l 0),.int .i64 (ak l 1),.int .i64 (ak l 2),.int .i64 (ak l 3)],.int .i64 0]) ?_ rfl ⟨rfl,KC.o⟩;rw[kN rfl];go_simp
theorem uq (w:World) (v vl:Value) (b:an) (l:List Int) (hb:aB w v b) (hv:Valid b) (hc:lq w) (lQ:eC b l) (hl:ae w vl l):
 Calls ZP 26 #[v,vl] w (dU w (.tuple #[.int .i64 (iR b.places.toNat (ak l)),.int .i64 0]))/\
 Calls ZP 28 #[v,vl] w (dU w (.tuple #[.int .i64 (bY b (ak l) b.places.toNat),.int .i64 0])):=by
 have HB:=hid hb;have HV:Hid (Valid b):=hv;have HC:Hid (lq w):=hc;have L1:Hid (eC b l):=lQ;obtain⟨a2,c2,a3,c3,a4,c4,rfl⟩:=hb.dV;obtain⟨la,lc,⟨rfl,ll,lm,ln,lr⟩,le⟩:=hl;have HL:Hid (ae w (.slice la l.length lc) l):=⟨la,lc,⟨rfl,ll,lm,ln,lr⟩,le⟩
 clear ll lm ln lr le;obtain⟨N,hN⟩:∃N:Nat,b.places=N:=⟨b.places.toNat,by have:=hv.places;omega⟩
 have EC:1<=N/\N<=4:=by have:=hv.places;omega
 have hNn:b.places.toNat=N:=by omega
 have HN:=hid hN;rw[hNn];obtain⟨A0,AU⟩:=ex1 (w.alloc (.cells #[.int .i64 b.ap,.int .i64 b.places,.slice a2 b.parts.length c2,.slice a3 b.apart.length c3,.slice a4 b.aa.length c4] 26));have B0:=(bnew AU).o;have HW:=wnew AU;obtain⟨z0,z1,z2,z3,z4⟩:=B0.c5;have hA:=D3 A0 _ _ b l (HB.o.later (Kp.of HW.o)) hv (HC.o.later HW.o) lQ (HL.o.later (Kp.of HW.o));simp only[dC]at hA;clear hb hv hc lQ hN hNn B0;refine⟨?_,?_⟩
 all_goals
  first|go_enter ZF26,Tryz.ntmps26|go_enter ZF28,Tryz.ntmps28
  go_wp2_with fail
  refine hA.mono ?_;rintro e w1 ⟨rfl,bu⟩;have fP:=HW.t bu;clear bu hA AU z0 z1 z2 z3 z4;obtain⟨A1,bH⟩:=ex1 (w1.alloc (.cells #[.int .i64 b.ap,.int .i64 b.places,.slice a2 b.parts.length c2,.slice a3 b.apart.length c3,.slice a4 b.aa.length c4] 66));obtain⟨A2,eQ⟩:=ex1 (A1.alloc (.cells #[.int .i64 (ak l 0),.int .i64 (ak l 1),.int .i64 (ak l 2),.int .i64 (ak l 3)] 86));have j9:=snew bH;have D1:=(bnewk bH eQ).o;have D2:=(bnew2 eQ j9).o;have YE:=(wnew2 bH eQ).o;have OL:=fP.t YE;obtain⟨y0,y1,y2,y3,y4⟩:=D1.c5;obtain⟨x0,x1,x2,x3⟩:=D2.c4
 .have hC:=tg A2 (.slice a2 b.parts.length c2) (.slice a3 b.apart.length c3) (.slice a4 b.aa.length c4) b N HN.o EC (ak l);simp only[dC]at hC;clear D1 D2 YE;go_wp2_with(go_at_call 82;refine hC.mono ?_;rintro e w3 ⟨rfl,qv⟩)
  go_ret2;exact⟨rfl,OL.o.trans (qv.mono OL.o.size)⟩
 .have hC:=G9 A2 _ _ _ b (HB.o.later (Kp.of OL.o)) HV.o N HN.o (ak l) (fun i hi=>vU HV.o L1.o i (by have:=HN.o;omega));simp only[dC]at hC;clear D1 D2 YE;go_wp2_with(go_at_call 84;refine hC.mono ?_;rintro e w3 ⟨rfl,qv⟩)
  go_ret2;exact⟨rfl,OL.o.trans (qv.mono OL.o.size)⟩
theorem AV (w:World) (v1 v2:Value) (l1 l2:List Int) (h1:ae w v1 l1) (h2:ae w v2 l2):Calls ZP 116 #[v1,v2] w (lJ w (.bool (lexLt l1 l2))):=by
 obtain⟨a1,c1,h1,e1⟩:=h1;obtain⟨a2,c2,h2,e2⟩:=h2;have H1:Hid (bB w v1 l1.length a1 c1/\_):=⟨h1,e1⟩
 have H2:Hid (bB w v2 l2.length a2 c2/\_):=⟨h2,e2⟩
 obtain⟨rfl,k1,m1,n1,r1⟩:=h1;obtain⟨rfl,k2,m2,n2,r2⟩:=h2;unfold maxLen at m1 m2;clear e1 e2 n1 r1 n2 r2;go_enter ZF116,Tryz.ntmps116
 go_wp2
 go_loopw [5] (fun i w1=>∃k:Nat,k<=l1.length/\k<=l2.length/\i=.int .i64 k/\Hid (eV l1 l2 k)/\∃n,w1=w.drewN n) (fun i _=>l1.length-(intOf i).toNat)
 case atStart=>exact⟨0,Nat.zero_le _,Nat.zero_le _,rfl,eV.zero _ _,0,rfl⟩
 case round=>
  obtain⟨k,hk,Vh,rfl,hS,n0,rfl⟩:=hrel;by_cases az:k<l1.length
  .obtain⟨⟨blk,off,sp⟩,y,rfl,hy,y0⟩:=H1.o.1.elem H1.o.2 az;obtain rfl:sp=none:=y0.1;have g0:=y0.2;have HY:=hid hy;simp only at g0;clear y0 hy;have VB:(k:Int)<(l1.length:Int):=by omega
   by_cases rG:k<l2.length
   .obtain⟨⟨Yk,Yl,mJ⟩,y2,rfl,SE,y1⟩:=H2.o.1.elem H2.o.2 rG;obtain rfl:mJ=none:=y1.1;have g1:=y1.2;have PB:=hid SE;simp only at g1;clear y1 SE;have Oo:(k:Int)<(l2.length:Int):=by omega
    by_cases hc:y=y2
    .subst hc;go_wp2
     go_quiet (fail)
     go_wp2
     go_round
     case rel=>exact⟨k+1,by omega,by omega,by go_num,hS.o.succ HY.o PB.o,_,rfl⟩
     case measure=>simp[intOf];omega
    .have HNE:Hid (y≠y2):=hc;have TV:(y==y2)=false:=by simpa using hc
     go_wp2
     go_quiet (fail)
     go_wp2
     go_quiet (fail)
     go_wp2
     go_ret;exact lJ.of (nA hS.o HY.o PB.o HNE.o) (by simp only[World.drewN_drewN];exact⟨_,rfl⟩)
   .have e2:k=l2.length:=by omega
    subst e2;go_wp2
    go_ret;exact lJ.of ((rP hS.o (Nat.le_refl _)).trans (by simp;omega)) ⟨_,rfl⟩
  .have e:k=l1.length:=by omega
   subst e;go_wp2
   go_ret;exact lJ.of ((qu hS.o rfl).trans (by simp)) ⟨_,rfl⟩
theorem yN (w:World) (v1 v2:Value) (l1 l2:List Int) (h1:ae w v1 l1) (h2:ae w v2 l2):Calls ZP 80 #[v1,v2] w (lJ w (.bool (bZ l1 l2))):=by
 have hC:=AV w v1 v2 l1 l2 h1 h2;obtain⟨a1,c1,⟨rfl,k1,m1,_,_⟩,_⟩:=h1;obtain⟨a2,c2,⟨rfl,k2,m2,_,_⟩,_⟩:=h2;unfold maxLen at m1 m2;by_cases hl:l1.length<l2.length
 .have HR:Hid (bZ l1 l2=true):=(by unfold bZ;simp[hl]:bZ l1 l2=true)
  go_enter ZF80,Tryz.ntmps80
  go_wp2
  go_ret;exact lJ.of HR.o ⟨0,rfl⟩
 .by_cases he:l1.length=l2.length
  .have HR:Hid (bZ l1 l2=lexLt l1 l2):=(by unfold bZ;simp[he]:bZ l1 l2=lexLt l1 l2)
   have hb:((l1.length:Int)==(l2.length:Int))=true:=by rw[he];exact beq_self_eq_true _
   clear he;go_enter ZF80,Tryz.ntmps80
   go_wp2_with(go_at_call 116;refine hC.mono ?_;rintro e w1 ⟨rfl,n,rfl⟩)
   go_ret;exact lJ.of HR.o ⟨n,rfl⟩
  .have HR:Hid (bZ l1 l2=false):=(by unfold bZ;simp[hl,he]:bZ l1 l2=false)
   have hb:((l1.length:Int)==(l2.length:Int))=false:=by simp;omega
   go_enter ZF80,Tryz.ntmps80
   go_wp2
   go_ret;exact lJ.of HR.o ⟨0,rfl⟩
open Classical in
noncomputable def cG (b:an) (p:Int):Int:=if aK b=0 then(if 0<=p/\p<=b.places-1 then 0 else 6)else aK b
open Classical in
noncomputable def sb (b:an) (p:Int):List Int:=if cG b p=0 then bz b p else []
open Classical in
noncomputable def kO (b:an):Nat:=if aK b=0 then(aN b).length else 0
noncomputable def cX (b:an) (l:List Int):Int:=if aK b=0 then bp b l else aK b
def se (b:an) (r:List Int):Prop:=(aK b≠0->r=[])/\(aK b=0->aN b≠ []->r=[])/\(aK b=0->aN b=[]->∃m,DU b m/\r=aq m 4)
noncomputable def kP (b:an) (l:List Int):Int:=if cX b l=0 then((iR b.places.toNat (ak l):Nat):Int)else 0
noncomputable def kQ (b:an) (l:List Int):Int:=if cX b l=0 then bY b (ak l) b.places.toNat else 0
theorem gp (w:World):ae w (.slice none 0 0) []:=⟨none,0,⟨rfl,Nat.le_refl _,Nat.zero_le _,fun _=>rfl,fun b hb=>by cases hb⟩,fun b hb=>by cases hb⟩
theorem jK:cX b l=0↔Valid b/\eC b l:=by
 unfold cX;by_cases h:aK b=0
 .rw[if_pos h,ci,<-ck];exact⟨fun h2=>⟨h,h2⟩,fun h2=>h2.2⟩
 .rw[if_neg h,<-ck];exact⟨fun h2=>absurd h2 h,fun h2=>absurd h2.1 h⟩
abbrev book0:Value:=.agg #[.int .i64 0,.int .i64 0,.slice none 0 0,.slice none 0 0,.slice none 0 0]
abbrev Hi:Value:=.agg #[.int .i64 0,.int .i64 0,.int .i64 0,.int .i64 0]
theorem AW (w:World) (v:Value) (b:an) (p:Int) (hb:aB w v b) (hs:di b) (hc:lq w) (hn:cG b p≠0):Calls ZP 18 #[v,.int .i64 p] w (dU w (.tuple #[.slice none 0 0,.int .i64 (cG b p)])):=by
 have HB:=hid hb;obtain⟨a2,c2,a3,c3,a4,c4,rfl⟩:=hb.dV;obtain⟨A1,bH⟩:=ex1 (w.alloc (.cells #[.int .i64 b.ap,.int .i64 b.places,.slice a2 b.parts.length c2,.slice a3 b.apart.length c3,.slice a4 b.aa.length c4] 26));have B1:Hid (aX A1 w.heap.size 26 #[.int .i64 b.ap,.int .i64 b.places,.slice a2 b.parts.length c2,.slice a3 b.apart.length c3,.slice a4 b.aa.length c4]):=eW bH;have HW:Hid (Below w.heap.size w A1):=(cZ bH).below (by simp) (Nat.le_refl _);have z0:=B1.o.cell 0 rfl;have z1:=B1.o.cell 1 rfl;have z2:=B1.o.cell 2 rfl;have z3:=B1.o.cell 3 rfl;have z4:=B1.o.cell 4 rfl;have hC:=ff A1 _ b (HB.o.later (Kp.of HW.o)) hs (hc.later HW.o);obtain⟨q,hq⟩:=ex1 (cG b p);have HQ:Hid (cG b p=q/\q≠0):=⟨hq,by rw[<-hq];exact hn⟩
 obtain⟨s,j6⟩:=ex1 (aK b);have ls:=hid j6;rw[hq];rw[j6]at hC;clear hb hs hc j6 hq hn;go_enter ZF18,Tryz.ntmps18
 go_wp2_with fail
 refine hC.mono ?_;rintro e w1 ⟨⟨r,rfl,rfl⟩,bu⟩;have ew:=hid bu;have fP:=HW.t bu;clear bu bH z0 z1 z2 z3 z4 hC;by_cases h0:r=0
 .subst h0;have X1:=B1.o.below ew.o B1.o.lt;have z1:=X1.cell 1 rfl;have jo:=(ck.1 ls.o).places;have fV:wrap64 (b.places-1)=b.places-1:=by unfold wrap64;omega
  have Zh:¬(0<=p/\p<=b.places-1)/\q=6:=by
   have h:=HQ.o;unfold cG at h;rw[if_pos ls.o]at h;split at h
   .exact absurd h.1.symm h.2
   .exact⟨by assumption,h.1.symm⟩
  obtain⟨hp,rfl⟩:=Zh;have hI:Calls ZP 66 #[.int .i64 p,.int .i64 0,.int .i64 (b.places-1)] w1 (gG w1 (.bool false)):=(bU _ _ _ _).mono fun e w' h=>⟨by rw[h.1];simp;omega,h.2⟩
  clear X1 jo hp;go_wp2_with(go_at_call 66;refine hI.mono ?_;rintro e w2 ⟨rfl,rfl⟩)
  go_ret2;exact⟨rfl,fP.o⟩
 .have H0:Hid (q=r):=by
   have h:=HQ.o.1;unfold cG at h;rw[ls.o,if_neg h0]at h;exact h.symm
  go_wp2_with fail
  go_ret2;exact⟨congrArg (fun z=>Ending.returned (.tuple #[.slice none 0 0,.int .i64 z])) H0.o.symm,fP.o⟩
theorem D6 (w:World) (v:Value) (b:an) (p:Int) (hb:aB w v b) (hs:di b) (hc:lq w):
 Calls ZP 18 #[v,.int .i64 p] w (fun e w'=>(∃u,e=.returned (.tuple #[u,.int .i64 (cG b p)])/\ae w' u (sb b p))/\Below w.heap.size w w'):=by
 by_cases h0:cG b p=0
 .have h1:aK b=0/\0<=p/\p<=b.places-1:=by
   have h:=h0;unfold cG at h;by_cases hB:aK b=0
   .rw[if_pos hB]at h;split at h
    .exact⟨hB,by assumption⟩
    .cases h
   .rw[if_neg hB]at h;exact absurd h hB
  refine(Hh w v b p hb (ck.1 h1.1) hc h1.2).mono ?_;rintro e w' ⟨⟨u,rfl,hu⟩,hB⟩;exact⟨⟨u,by rw[h0],by unfold sb;rw[if_pos h0];exact hu⟩,hB⟩
 .refine(AW w v b p hb hs hc h0).mono fun e w' h=>⟨⟨_,h.1,by unfold sb;rw[if_neg h0];exact gp _⟩,h.2⟩
theorem pX (w:World) (v:Value) (b:an) (hb:aB w v b) (hs:di b) (hc:lq w) (h0:aK b≠0):Calls ZP 22 #[v] w (dU w (.tuple #[.int .i64 0,.int .i64 (aK b)])):=by
 have HB:=hid hb;obtain⟨a2,c2,a3,c3,a4,c4,rfl⟩:=hb.dV;obtain⟨A1,bH⟩:=ex1 (w.alloc (.cells #[.int .i64 b.ap,.int .i64 b.places,.slice a2 b.parts.length c2,.slice a3 b.apart.length c3,.slice a4 b.aa.length c4] 26));have B1:Hid (aX A1 w.heap.size 26 #[.int .i64 b.ap,.int .i64 b.places,.slice a2 b.parts.length c2,.slice a3 b.apart.length c3,.slice a4 b.aa.length c4]):=eW bH;have HW:Hid (Below w.heap.size w A1):=(cZ bH).below (by simp) (Nat.le_refl _);have z0:=B1.o.cell 0 rfl;have z1:=B1.o.cell 1 rfl;have z2:=B1.o.cell 2 rfl;have z3:=B1.o.cell 3 rfl;have z4:=B1.o.cell 4 rfl;have hC:=ff A1 _ b (HB.o.later (Kp.of HW.o)) hs (hc.later HW.o);obtain⟨s,j6⟩:=ex1 (aK b);rw[j6]at hC h0⊢;clear hb hs hc j6;go_enter ZF22,Tryz.ntmps22
 go_wp2_with fail
 refine hC.mono ?_;rintro e w1 ⟨⟨r,rfl,rfl⟩,bu⟩;have fP:=HW.t bu;clear bu bH z0 z1 z2 z3 z4 hC;go_wp2_with fail
 go_ret2;exact⟨rfl,fP.o⟩
theorem AX (w:World) (v:Value) (b:an) (hb:aB w v b) (hs:di b) (hc:lq w) (h0:aK b≠0):Calls ZP 24 #[v] w (dU w (.tuple #[.slice none 0 0,.int .i64 (aK b)])):=by
 have HB:=hid hb;obtain⟨a2,c2,a3,c3,a4,c4,rfl⟩:=hb.dV;obtain⟨A1,bH⟩:=ex1 (w.alloc (.cells #[.int .i64 b.ap,.int .i64 b.places,.slice a2 b.parts.length c2,.slice a3 b.apart.length c3,.slice a4 b.aa.length c4] 26));have B1:Hid (aX A1 w.heap.size 26 #[.int .i64 b.ap,.int .i64 b.places,.slice a2 b.parts.length c2,.slice a3 b.apart.length c3,.slice a4 b.aa.length c4]):=eW bH;have HW:Hid (Below w.heap.size w A1):=(cZ bH).below (by simp) (Nat.le_refl _);have z0:=B1.o.cell 0 rfl;have z1:=B1.o.cell 1 rfl;have z2:=B1.o.cell 2 rfl;have z3:=B1.o.cell 3 rfl;have z4:=B1.o.cell 4 rfl;have hC:=ff A1 _ b (HB.o.later (Kp.of HW.o)) hs (hc.later HW.o);obtain⟨s,j6⟩:=ex1 (aK b);rw[j6]at hC h0⊢;clear hb hs hc j6;go_enter ZF24,Tryz.ntmps24
 go_wp2_with fail
 refine hC.mono ?_;rintro e w1 ⟨⟨r,rfl,rfl⟩,bu⟩;have fP:=HW.t bu;clear bu bH z0 z1 z2 z3 z4 hC;go_wp2_with fail
 go_ret2;exact⟨rfl,fP.o⟩
theorem sf (w:World) (v:Value) (b:an) (hb:aB w v b) (hs:di b) (hc:lq w):Calls ZP 22 #[v] w (dU w (.tuple #[.int .i64 (kO b:Nat),.int .i64 (aK b)])):=by
 by_cases h0:aK b=0
 .refine(tc w v b hb (ck.1 h0) hc).mono fun e w' h=>⟨?_,h.2⟩
  have hm:kO b=(aN b).length:=by unfold kO;rw[if_pos h0]
  rw[h.1,h0,hm]
 .have hm:kO b=0:=by unfold kO;rw[if_neg h0]
  rw[hm];exact pX w v b hb hs hc h0
theorem D7 (w:World) (v:Value) (b:an) (hb:aB w v b) (hs:di b) (hc:lq w):
 Calls ZP 24 #[v] w (fun e w'=>(∃u r,e=.returned (.tuple #[u,.int .i64 (aK b)])/\ae w' u r/\se b r)/\Below w.heap.size w w'):=by
 by_cases h0:aK b=0
 .refine(GW w v b hb (ck.1 h0) hc).mono ?_;rintro e w' ⟨⟨hM,rfl⟩|⟨hM,u,m,rfl,hu,hw⟩,hB⟩
  .exact⟨⟨_,[],by rw[h0],gp _,fun _=>rfl,fun _ _=>rfl,fun _ h=>absurd h hM⟩,hB⟩
  .exact⟨⟨u,_,by rw[h0],hu,fun h=>absurd h0 h,fun _ h=>absurd hM h,fun _ _=>⟨m,hw,rfl⟩⟩,hB⟩
 .exact(AX w v b hb hs hc h0).mono fun e w' h=>⟨⟨_,[],h.1,gp _,fun _=>rfl,fun h=>absurd h h0,fun h=>absurd h h0⟩,h.2⟩
theorem vW (w:World) (v vl:Value) (b:an) (l:List Int) (hb:aB w v b) (hs:di b) (hc:lq w) (hl:ae w vl l) (hn:cX b l≠0):
 Calls ZP 81 #[v,vl] w (dU w (.tuple #[book0,Hi,.int .i64 (cX b l)])):=by
 have HB:=hid hb;obtain⟨a2,c2,a3,c3,a4,c4,rfl⟩:=hb.dV;obtain⟨la,lc,⟨rfl,ll,lm,ln,lr⟩,le⟩:=hl;have HL:Hid (ae w (.slice la l.length lc) l):=⟨la,lc,⟨rfl,ll,lm,ln,lr⟩,le⟩
 clear ll lm ln lr le;obtain⟨A0,AU⟩:=ex1 (w.alloc (.cells #[.int .i64 b.ap,.int .i64 b.places,.slice a2 b.parts.length c2,.slice a3 b.apart.length c3,.slice a4 b.aa.length c4] 26));obtain⟨A1,bH⟩:=ex1 (A0.alloc (.cells #[.int .i64 0,.int .i64 0,.slice none 0 0,.slice none 0 0,.slice none 0 0] 66));obtain⟨A2,eQ⟩:=ex1 (A1.alloc (.cells #[.int .i64 0,.int .i64 0,.int .i64 0,.int .i64 0] 86));have OK:=snew AU;have j9:=snew2 bH OK
 have B1:Hid (aX A2 w.heap.size 26 #[.int .i64 b.ap,.int .i64 b.places,.slice a2 b.parts.length c2,.slice a3 b.apart.length c3,.slice a4 b.aa.length c4]):=by
  rw[<-eQ];refine(ac.alloc [] _ _).box ?_ (by simp);rw[<-bH];refine(ac.alloc [] _ _).box ?_ (by simp);rw[<-AU];exact aX.new _ _ _
 have B4:Hid (aX A2 (w.heap.size+1) 66 #[.int .i64 0,.int .i64 0,.slice none 0 0,.slice none 0 0,.slice none 0 0]):=by
  rw[<-eQ];refine(ac.alloc [] _ _).box ?_ (by simp);rw[<-bH,<-OK];exact aX.new _ _ _
 have B5:=bnew2 eQ j9;have HW:=wnew3 AU bH eQ;have z0:=B1.o.cell 0 rfl;have z1:=B1.o.cell 1 rfl;have z2:=B1.o.cell 2 rfl;have z3:=B1.o.cell 3 rfl;have z4:=B1.o.cell 4 rfl;have hC:=ff A2 _ b (HB.o.later (Kp.of HW.o)) hs (hc.later HW.o);obtain⟨q,hq⟩:=ex1 (cX b l);have HQ:Hid (cX b l=q/\q≠0):=⟨hq,by rw[<-hq];exact hn⟩
 obtain⟨s,j6⟩:=ex1 (aK b);have ls:=hid j6;rw[hq];rw[j6]at hC;clear hb hs hc j6 hq hn;go_enter ZF81,Tryz.ntmps81
 go_wp2_with fail
 refine hC.mono ?_;rintro e w1 ⟨⟨r,rfl,rfl⟩,bu⟩;have ew:=hid bu;have fP:=HW.t bu;clear bu AU bH eQ OK j9 z0 z1 z2 z3 z4 hC;by_cases h0:r=0
 .subst h0;have HM:Hid (bp b l=q):=by have h:=HQ.o.1;unfold cX at h;rw[if_pos ls.o]at h;exact h
  have HV:Hid (Valid b):=ck.1 ls.o;have X1:=B1.o.below ew.o B1.o.lt;have z0:=X1.cell 0 rfl;have z1:=X1.cell 1 rfl;have z2:=X1.cell 2 rfl;have z3:=X1.cell 3 rfl;have z4:=X1.cell 4 rfl;obtain⟨A3,nN⟩:=ex1 (w1.alloc (.cells #[.int .i64 b.ap,.int .i64 b.places,.slice a2 b.parts.length c2,.slice a3 b.apart.length c3,.slice a4 b.aa.length c4] 66));have B8:Hid (aX A3 w1.heap.size 66 #[.int .i64 b.ap,.int .i64 b.places,.slice a2 b.parts.length c2,.slice a3 b.apart.length c3,.slice a4 b.aa.length c4]):=eW nN;have S0:Hid (Below w1.heap.size w1 A3):=(cZ nN).below (by simp) (Nat.le_refl _);have Cr:=fP.t S0.o;have PN:=ew.t S0.o;have uo:=oH A3 _ _ b l (HB.o.later (Kp.of Cr.o)) (HL.o.later (Kp.of Cr.o)) HV.o.parts.many HV.o.jg;rw[HM.o]at uo;have y0:=B8.o.cell 0 rfl;have y1:=B8.o.cell 1 rfl;have y2:=B8.o.cell 2 rfl;have y3:=B8.o.cell 3 rfl;have y4:=B8.o.cell 4 rfl;clear X1;go_wp2_with fail
  refine uo.mono ?_;rintro e w5 ⟨⟨r,rfl,rfl⟩,sx⟩;have KD:=PN.t sx;have PG:=Cr.t sx;have Nf:r≠0:=HQ.o.2;clear sx uo z0 z1 z2 z3 z4 y0 y1 y2 y3 y4 nN;have D4:=B4.o.below KD.o B4.o.lt;have D5:=B5.o.below KD.o B5.o.lt;have pc0:=D4.c1;have pf0:=D4.bV 0;have ps0:=D4.same (i:=0) (v:=.int .i64 0) rfl;obtain⟨-,pc1⟩:=D4.c2;have pf1:=D4.bV 1;have ps1:=D4.same (i:=1) (v:=.int .i64 0) rfl;obtain⟨-,-,pc2⟩:=D4.c3;have pf2:=D4.bV 2;have ps2:=D4.same (i:=2) (v:=.slice none 0 0) rfl;obtain⟨-,-,-,pc3⟩:=D4.c4;have pf3:=D4.bV 3;have ps3:=D4.same (i:=3) (v:=.slice none 0 0) rfl;obtain⟨-,-,-,-,pc4⟩:=D4.c5;have pf4:=D4.bV 4;have ps4:=D4.same (i:=4) (v:=.slice none 0 0) rfl;have qc0:=D5.c1;have qf0:=D5.bV 0;have qs0:=D5.same (i:=0) (v:=.int .i64 0) rfl;obtain⟨-,qc1⟩:=D5.c2;have qf1:=D5.bV 1;have qs1:=D5.same (i:=1) (v:=.int .i64 0) rfl;obtain⟨-,-,qc2⟩:=D5.c3;have qf2:=D5.bV 2;have qs2:=D5.same (i:=2) (v:=.int .i64 0) rfl;obtain⟨-,-,-,qc3⟩:=D5.c4;have qf3:=D5.bV 3;have qs3:=D5.same (i:=3) (v:=.int .i64 0) rfl;clear D4 D5;go_wp2_with fail
  refine bodyPost_ret (v:=.tuple #[book0,Hi,.int .i64 r]) ?_ rfl ⟨rfl,PG.o⟩;rw[kN rfl];go_simp
 .have H0:Hid (q=r):=by
   have h:=HQ.o.1;unfold cX at h;rw[ls.o,if_neg h0]at h;exact h.symm
  have D4:=B4.o.below ew.o B4.o.lt;have D5:=B5.o.below ew.o B5.o.lt;have pc0:=D4.c1;have pf0:=D4.bV 0;have ps0:=D4.same (i:=0) (v:=.int .i64 0) rfl;obtain⟨-,pc1⟩:=D4.c2;have pf1:=D4.bV 1;have ps1:=D4.same (i:=1) (v:=.int .i64 0) rfl;obtain⟨-,-,pc2⟩:=D4.c3;have pf2:=D4.bV 2;have ps2:=D4.same (i:=2) (v:=.slice none 0 0) rfl;obtain⟨-,-,-,pc3⟩:=D4.c4;have pf3:=D4.bV 3;have ps3:=D4.same (i:=3) (v:=.slice none 0 0) rfl;obtain⟨-,-,-,-,pc4⟩:=D4.c5;have pf4:=D4.bV 4;have ps4:=D4.same (i:=4) (v:=.slice none 0 0) rfl;have qc0:=D5.c1;have qf0:=D5.bV 0;have qs0:=D5.same (i:=0) (v:=.int .i64 0) rfl;obtain⟨-,qc1⟩:=D5.c2;have qf1:=D5.bV 1;have qs1:=D5.same (i:=1) (v:=.int .i64 0) rfl;obtain⟨-,-,qc2⟩:=D5.c3;have qf2:=D5.bV 2;have qs2:=D5.same (i:=2) (v:=.int .i64 0) rfl;obtain⟨-,-,-,qc3⟩:=D5.c4;have qf3:=D5.bV 3;have qs3:=D5.same (i:=3) (v:=.int .i64 0) rfl;clear D4 D5;go_wp2_with fail
  refine bodyPost_ret (v:=.tuple #[book0,Hi,.int .i64 r]) ?_ rfl ⟨by rw[H0.o],fP.o⟩;rw[kN rfl];go_simp
theorem pE (w:World) (v vl:Value) (b:an) (l:List Int) (hb:aB w v b) (hs:di b) (hc:lq w) (hl:ae w vl l) (hn:cX b l≠0):
 Calls ZP 26 #[v,vl] w (dU w (.tuple #[.int .i64 0,.int .i64 (cX b l)]))/\
 Calls ZP 28 #[v,vl] w (dU w (.tuple #[.int .i64 0,.int .i64 (cX b l)])):=by
 have HB:=hid hb;obtain⟨a2,c2,a3,c3,a4,c4,rfl⟩:=hb.dV;obtain⟨la,lc,⟨rfl,ll,lm,ln,lr⟩,le⟩:=hl;have HL:Hid (ae w (.slice la l.length lc) l):=⟨la,lc,⟨rfl,ll,lm,ln,lr⟩,le⟩
 clear ll lm ln lr le;obtain⟨A1,bH⟩:=ex1 (w.alloc (.cells #[.int .i64 b.ap,.int .i64 b.places,.slice a2 b.parts.length c2,.slice a3 b.apart.length c3,.slice a4 b.aa.length c4] 26));have B1:Hid (aX A1 w.heap.size 26 #[.int .i64 b.ap,.int .i64 b.places,.slice a2 b.parts.length c2,.slice a3 b.apart.length c3,.slice a4 b.aa.length c4]):=eW bH;have HW:Hid (Below w.heap.size w A1):=(cZ bH).below (by simp) (Nat.le_refl _);have z0:=B1.o.cell 0 rfl;have z1:=B1.o.cell 1 rfl;have z2:=B1.o.cell 2 rfl;have z3:=B1.o.cell 3 rfl;have z4:=B1.o.cell 4 rfl;have hC:=vW A1 _ _ b l (HB.o.later (Kp.of HW.o)) hs (hc.later HW.o) (HL.o.later (Kp.of HW.o)) hn;obtain⟨q,hq⟩:=ex1 (cX b l);rw[hq]at hn hC⊢;clear hb hs hc hq;refine⟨?_,?_⟩
 all_goals
  first|go_enter ZF26,Tryz.ntmps26|go_enter ZF28,Tryz.ntmps28
  go_wp2_with fail
  refine hC.mono ?_;rintro e w1 ⟨rfl,bu⟩;have fP:=HW.t bu;clear bu bH z0 z1 z2 z3 z4 hC;obtain⟨A2,eQ⟩:=ex1 (w1.alloc (.cells #[.int .i64 0,.int .i64 0,.slice none 0 0,.slice none 0 0,.slice none 0 0] 66));obtain⟨A3,nN⟩:=ex1 (A2.alloc (.cells #[.int .i64 0,.int .i64 0,.int .i64 0,.int .i64 0] 86));have j9:=snew eQ;have D4:=(bnewk eQ nN).o;have D5:=(bnew2 nN j9).o;have Cr:Hid (Below w.heap.size w A3):=by rw[<-nN,<-eQ];exact fP.o.trans (((ac.alloc [] _ _).rK _).below (by simp) fP.o.size)
  have pc0:=D4.c1;have pf0:=D4.bV 0;have ps0:=D4.same (i:=0) (v:=.int .i64 0) rfl;obtain⟨-,pc1⟩:=D4.c2;have pf1:=D4.bV 1;have ps1:=D4.same (i:=1) (v:=.int .i64 0) rfl;obtain⟨-,-,pc2⟩:=D4.c3;have pf2:=D4.bV 2;have ps2:=D4.same (i:=2) (v:=.slice none 0 0) rfl;obtain⟨-,-,-,pc3⟩:=D4.c4;have pf3:=D4.bV 3;have ps3:=D4.same (i:=3) (v:=.slice none 0 0) rfl;obtain⟨-,-,-,-,pc4⟩:=D4.c5;have pf4:=D4.bV 4;have ps4:=D4.same (i:=4) (v:=.slice none 0 0) rfl;have qc0:=D5.c1;have qf0:=D5.bV 0;have qs0:=D5.same (i:=0) (v:=.int .i64 0) rfl;obtain⟨-,qc1⟩:=D5.c2;have qf1:=D5.bV 1;have qs1:=D5.same (i:=1) (v:=.int .i64 0) rfl;obtain⟨-,-,qc2⟩:=D5.c3;have qf2:=D5.bV 2;have qs2:=D5.same (i:=2) (v:=.int .i64 0) rfl;obtain⟨-,-,-,qc3⟩:=D5.c4;have qf3:=D5.bV 3;have qs3:=D5.same (i:=3) (v:=.int .i64 0) rfl;clear D4 D5;go_wp2_with fail
  go_ret2;exact⟨rfl,Cr.o⟩
theorem AY (w:World) (v vl:Value) (b:an) (l:List Int) (hb:aB w v b) (hs:di b) (hc:lq w) (hl:ae w vl l):Calls ZP 26 #[v,vl] w (dU w (.tuple #[.int .i64 (kP b l),.int .i64 (cX b l)])):=by
 by_cases h0:cX b l=0
 .obtain⟨hv,lQ⟩:=jK.1 h0;have h1:kP b l=((iR b.places.toNat (ak l):Nat):Int):=by unfold kP;rw[if_pos h0]
  rw[h1,h0];exact(uq w v vl b l hb hv hc lQ hl).1
 .have h1:kP b l=0:=by unfold kP;rw[if_neg h0]
  rw[h1];exact(pE w v vl b l hb hs hc hl h0).1
theorem AZ (w:World) (v vl:Value) (b:an) (l:List Int) (hb:aB w v b) (hs:di b) (hc:lq w) (hl:ae w vl l):Calls ZP 28 #[v,vl] w (dU w (.tuple #[.int .i64 (kQ b l),.int .i64 (cX b l)])):=by
 by_cases h0:cX b l=0
 .obtain⟨hv,lQ⟩:=jK.1 h0;have h1:kQ b l=bY b (ak l) b.places.toNat:=by unfold kQ;rw[if_pos h0]
  rw[h1,h0];exact(uq w v vl b l hb hv hc lQ hl).2
 .have h1:kQ b l=0:=by unfold kQ;rw[if_neg h0]
  rw[h1];exact(pE w v vl b l hb hs hc hl h0).2
def lL (b:an) (L o:List Int):Prop:=
 ∃f:Nat->Int,(∀i,i<o.length->f i=ak o i)/\∀i,o.length<=i->i<L.length->f i∈bz b (ak L i)/\(0<i->ak L (i-1)+1=ak L i->¬Apart b.apart (f (i-1)) (f i))
def il (b:an) (L o:List Int) (x:Int):Prop:=¬(0<o.length/\ak L (o.length-1)+1=ak L o.length/\Apart b.apart (ak o (o.length-1)) x)
theorem kR {i:Nat} (h:i<o.length):ak (o++[x]) i=ak o i:=by
 unfold ak;rw[List.getElem?_append_left h]
theorem sg:ak (o++[x]) o.length=x:=by
 unfold ak;rw[List.getElem?_append_right (Nat.le_refl _),Nat.sub_self];rfl
theorem D9 (h:L.length<=o.length):lL b L o:=⟨ak o,fun _ _=>rfl,fun i h1 h2=>by omega⟩
theorem si (h:o.length<L.length):lL b L o↔∃x∈bz b (ak L o.length),il b L o x/\lL b L (o++[x]):=by
 constructor
 .rintro⟨f,h1,h2⟩;obtain⟨h3,h4⟩:=h2 o.length (Nat.le_refl _) h;refine⟨f o.length,h3,?_,f,fun i hi=>?_,fun i hi Oo=>?_⟩
  .rintro⟨h5,h6,h7⟩;refine h4 h5 h6 ?_;rw[h1 _ (by omega)];exact h7
  .rw[List.length_append,List.length_singleton]at hi;by_cases e:i=o.length
   .subst e;rw[sg]
   .rw[kR (by omega),h1 i (by omega)]
  .rw[List.length_append,List.length_singleton]at hi;exact h2 i (by omega) Oo
 .rintro⟨x,hx,hf,f,h1,h2⟩;have hlen:(o++[x]).length=o.length+1:=by simp
  have hfx:f o.length=x:=by rw[h1 _ (by omega),sg]
  refine⟨f,fun i hi=>by rw[h1 i (by omega),kR hi],fun i hi Oo=>?_⟩;by_cases e:i=o.length
  .subst e;refine⟨by rw[hfx];exact hx,fun h3 h4 h5=>hf ⟨h3,h4,?_⟩⟩;rw[hfx,h1 _ (by omega),kR (by omega)]at h5;exact h5
  .exact h2 i (by omega) Oo
theorem bits_nat:∀{n:Nat} {x:Int},x∈aq m n->∃q:Nat,x=(q:Int)/\q<n/\m.testBit q=true
 |0,x,h=>by simp[aq]at h
 |n+1,x,h=>by
  rw[aq,List.mem_append]at h;rcases h with h|h
  .obtain⟨q,h1,h2,h3⟩:=bits_nat h;exact⟨q,h1,by omega,h3⟩
  .split at h
   .rename_i hb;simp at h;exact⟨n,h,by omega,hb⟩
   .simp at h
theorem yO (m:Nat):∀n:Nat,(aq m n).Pairwise (·<·)
 |0=>List.Pairwise.nil
 |n+1=>by
  rw[aq,List.pairwise_append];refine⟨yO m n,?_,fun a ha c hc=>?_⟩
  .split
   .exact List.pairwise_singleton _ _
   .exact List.Pairwise.nil
  .obtain⟨q,rfl,h2,_⟩:=bits_nat ha;split at hc
   .simp at hc;omega
   .simp at hc
theorem Ea:lL b (aq m n) []↔∃f,Good b m.testBit 0 n f:=by
 have OM:=yO m n
 have uS:∀{i:Nat},i<(aq m n).length->∃q:Nat,(aq m n)[i]?=some (q:Int)/\ak (aq m n) i=(q:Int)/\q<n/\m.testBit q=true:=fun{i} hi=>by
  have e:(aq m n)[i]?=some ((aq m n)[i]'hi):=List.getElem?_eq_getElem hi;obtain⟨q,h1,h2,h3⟩:=bits_nat (List.getElem_mem hi);rw[h1]at e;exact⟨q,e,by unfold ak;rw[e];rfl,h2,h3⟩
 have Ml:∀q:Nat,q<n->m.testBit q=true->∃i,i<(aq m n).length/\(aq m n)[i]?=some (q:Int)/\(aq m n).idxOf (q:Int)=i/\ak (aq m n) i=q:=fun q h1 h2=>by
  have hm:(q:Int)∈aq m n:=(rT m n q).2 ⟨h1,h2⟩;have az:=List.idxOf_lt_length_of_mem hm
  have e:(aq m n)[(aq m n).idxOf (q:Int)]?=some (q:Int):=by
   rw[List.getElem?_eq_getElem az,List.getElem_idxOf az]
  exact⟨_,az,e,rfl,by unfold ak;rw[e];rfl⟩
 constructor
 .rintro⟨f,_,h2⟩;refine⟨fun q=>f ((aq m n).idxOf (q:Int)),fun q _ hq hb=>?_⟩;obtain⟨i,hi,e,hx,lS⟩:=Ml q (by omega) hb;obtain⟨h3,h4⟩:=h2 i (Nat.zero_le _) hi;simp only[hx];refine⟨by rw[<-lS];exact h3,fun h0 bu=>?_⟩;obtain⟨j,hj,e2,XP,KJ⟩:=Ml (q-1) (by omega) bu;rw[XP]
  have hji:j<i:=Decidable.byContradiction fun hn=>by
   by_cases e3:j=i
   .subst e3;rw[e]at e2;have:=Option.some.inj e2;omega
   .have:=nF OM e e2 (by omega);omega
  have Vp:j=i-1:=Decidable.byContradiction fun hn=>by
   obtain⟨r,e3,_,_,_⟩:=uS (i:=i-1) (by omega);have:=nF OM e2 e3 (by omega);have:=nF OM e3 e (by omega);omega
  subst Vp;exact h4 (by omega) (by rw[lS,KJ];omega)
 .rintro⟨g,h2⟩;refine⟨fun i=>g (ak (aq m n) i).toNat,fun i hi=>by simp at hi,fun i _ hi=>?_⟩;obtain⟨q,e,lS,hq,hb⟩:=uS hi;obtain⟨h3,h4⟩:=h2 q (Nat.zero_le _) (by omega) hb;simp only[lS,Int.toNat_natCast];refine⟨h3,fun h0 h5=>?_⟩;obtain⟨r,e2,KJ,hr,fk⟩:=uS (i:=i-1) (by omega);rw[KJ]at h5;rw[KJ,Int.toNat_natCast];have:r=q-1:=by omega
  subst this;exact h4 (by omega) fk
theorem nH:lL b (aq m b.places.toNat) []↔bj b m=false:=by
 rw[Ea];have h:=nC b m.testBit b.places.toNat 0 (fun _=>0)
 have h2:(∃f,Good b m.testBit 0 b.places.toNat f)↔mw b m≠ []:=by
  unfold mw;rw[h];exact⟨fun⟨f,hf⟩=>⟨f,fun q hq=>by omega,hf⟩,fun⟨f,_,hf⟩=>⟨f,hf⟩⟩
 rw[h2];unfold bj;rw[decide_eq_false_iff_not]
def fD (l:List Int):List (List Int):=l.foldl (fun out x=>out++out.map fun o=>o++[x]) [[]]
theorem Eb (l:List Int) (x:Int):fD (l++[x])=fD l++(fD l).map fun o=>o++[x]:=by
 unfold fD;rw[List.foldl_append];rfl
theorem oP (h:l[k]?=some x):fD (l.take (k+1))=fD (l.take k)++(fD (l.take k)).map fun o=>o++[x]:=by
 rw[List.take_add_one,h,Option.toList_some,Eb]
theorem sj (l:List Int):∀k,k<=l.length->(fD (l.take k)).length=2^k
 |0,_=>rfl
 |k+1,h=>by
  rw[oP (List.getElem?_eq_getElem (show k<l.length by omega)),List.length_append,List.length_map,sj l k (by omega),Nat.pow_succ];omega
theorem mA (l:List Int):∀k,k<=l.length->∀o∈fD (l.take k),o.length<=k
 |0,_,o,ho=>by
  simp[fD]at ho;subst ho;simp
 |k+1,h,o,ho=>by
  rw[oP (List.getElem?_eq_getElem (show k<l.length by omega)),List.mem_append,List.mem_map]at ho;rcases ho with ho|⟨o2,ho,rfl⟩
  .exact Nat.le_trans (mA l k (by omega) o ho) (by omega)
  .rw[List.length_append,List.length_singleton];have:=mA l k (by omega) o2 ho;omega
def cA (n:Nat):List Int:=(List.range n).map fun i:Nat=>(i:Int)
theorem yP (n:Nat):cA (n+1)=cA n++[(n:Int)]:=by
 unfold cA;rw[List.range_succ,List.map_append];rfl
theorem sk (n:Nat):(cA n).length=n:=by unfold cA;rw[List.length_map,List.length_range]
theorem Hj:∀n:Fin 5,fD (cA n.1)=(List.range (2^n.1)).map fun m=>aq m n.1:=by decide+kernel
theorem A5:∀n:Fin 5,aq (2^n.1-1) n.1=cA n.1:=by decide+kernel
theorem Ec:∀n:Fin 5,∀m:Fin 16,m.1<2^n.1->aq m.1 n.1=aq m.1 4:=by decide+kernel
theorem Ed:∀a c:Fin 16,bq a.1 c.1=false->bq c.1 a.1=false->a.1=c.1:=by decide+kernel
theorem KK (hv:Valid b) {m':Nat} (h:DU b m) (h':DU b m'):m=m':=by
 have hp:(2:Nat)^b.places.toNat<=2^4:=Nat.pow_le_pow_right (by omega) (by have:=hv.places;omega);have h1:=h.lt;have h2:=h'.lt;exact Ed ⟨m,by omega⟩ ⟨m',by omega⟩ (h'.least m h.lt h.none) (h.least m' h'.lt h'.none)
theorem vX (l:List Int):cM l (Lib.compact (ik l)):=by
 have h:=AT (l.map fun x=>fun _:Nat=>x) 0;unfold nE at h;rw[List.map_map]at h
 have e:l.map ((fun t:Nat->Int=>t 0)∘fun x=>fun _:Nat=>x)=l:=by
  conv=>rhs;rw[<-List.map_id l]
  rfl
 rwa [e]at h
theorem yQ (l:List Int):dd l.length (ak l)=l:=by
 refine List.ext_getElem? fun i=>?_;unfold dd;rw[List.getElem?_map];by_cases h:i<l.length
 .rw[List.getElem?_range h,List.getElem?_eq_getElem h];show some (ak l i)=_;unfold ak;rw[List.getElem?_eq_getElem h];rfl
 .rw[List.getElem?_eq_none (by simpa using h),List.getElem?_eq_none (by omega)];rfl
theorem yR (h:cM l r):iR l.length (ak l)=r.length:=by
 unfold iR;rw[yQ,(vX l).eq h]
theorem A6 (w:World) (v:Value) (b:an) (p:Int) (hb:aB w v b) (hs:di b):
 Calls ZP 19 #[v,.int .i64 p] w (fun e w'=>(∃u,e=.returned (.tuple #[u,.int .i64 (cG b p)])/\ae w' u (sb b p))/\Below w.heap.size w w'):=by
 have HB:=hid hb;obtain⟨a2,c2,a3,c3,a4,c4,rfl⟩:=hb.dV;obtain⟨A1,bH⟩:=ex1 (w.alloc (.cells #[.int .i64 b.ap,.int .i64 b.places,.slice a2 b.parts.length c2,.slice a3 b.apart.length c3,.slice a4 b.aa.length c4] 26));have B1:Hid (aX A1 w.heap.size 26 #[.int .i64 b.ap,.int .i64 b.places,.slice a2 b.parts.length c2,.slice a3 b.apart.length c3,.slice a4 b.aa.length c4]):=eW bH;have HW:Hid (Below w.heap.size w A1):=(cZ bH).below (by simp) (Nat.le_refl _);have z0:=B1.o.cell 0 rfl;have z1:=B1.o.cell 1 rfl;have z2:=B1.o.cell 2 rfl;have z3:=B1.o.cell 3 rfl;have z4:=B1.o.cell 4 rfl;have hC:=eG A1 _ b (HB.o.later (Kp.of HW.o)) hs;obtain⟨s,j6⟩:=ex1 (aK b);have ls:=hid j6;rw[j6]at hC;clear hb hs j6;go_enter ZF19,Tryz.ntmps19
 go_wp2_with fail
 refine hC.mono ?_;rintro e w1 ⟨⟨r,rfl,rfl⟩,bu⟩;have ew:=hid bu;have fP:=HW.t bu;clear bu bH z0 z1 z2 z3 z4 hC;by_cases h0:r=0
 .subst h0;have HV:Hid (Valid b):=ck.1 ls.o;have X1:=B1.o.below ew.o B1.o.lt;have z0:=X1.cell 0 rfl;have z1:=X1.cell 1 rfl;have z2:=X1.cell 2 rfl;have z3:=X1.cell 3 rfl;have z4:=X1.cell 4 rfl;clear X1;have jo:=HV.o.places;have fV:wrap64 (b.places-1)=b.places-1:=by unfold wrap64;omega
  have hI:=mj p 0 (b.places-1) w1;by_cases hp:0<=p/\p<=b.places-1
  .have HQ:Hid (cG b p=0):=by unfold Hid cG;rw[if_pos ls.o,if_pos hp]
   rw[decide_eq_true hp.1,decide_eq_true hp.2]at hI;have ly:=oL w1 _ b p (HB.o.later (Kp.of fP.o)) HV.o.parts.many.2;clear hp jo
   go_wp2_with(first
    |(go_at_call 68;refine hI.mono ?_;rintro e w' ⟨rfl,YF⟩;obtain rfl:w1=w':=YF.symm)
    |(go_at_call 69;refine ly.mono ?_;rintro e w2 ⟨⟨u,rfl,hu⟩,fk⟩))
   go_ret2;exact⟨⟨u,congrArg (fun z=>Ending.returned (.tuple #[u,.int .i64 z])) HQ.o.symm,by unfold sb;rw[if_pos HQ.o];exact hu⟩,fP.o.trans (fk.mono fP.o.size)⟩
  .have HQ:Hid (cG b p=6):=by unfold Hid cG;rw[if_pos ls.o,if_neg hp]
   have hf:(decide (0<=p)&&decide (p<=b.places-1))=false:=by
    cases h:(decide (0<=p)&&decide (p<=b.places-1))with
    |false=>rfl
    |true=>simp only[Bool.and_eq_true,decide_eq_true_eq]at h;exact absurd h hp
   rw[hf]at hI;clear hp hf jo;go_wp2_with(go_at_call 68;refine hI.mono ?_;rintro e w' ⟨rfl,YF⟩;obtain rfl:w1=w':=YF.symm)
   go_ret2;exact⟨⟨.slice none 0 0,congrArg (fun z=>Ending.returned (.tuple #[.slice none 0 0,.int .i64 z])) HQ.o.symm,by unfold sb;rw[if_neg (by rw[HQ.o];decide)];exact gp _⟩,fP.o⟩
 .have HQ:Hid (cG b p=r):=by unfold Hid cG;rw[ls.o,if_neg h0]
  have H0:Hid (¬r=0):=h0;go_wp2_with fail
  go_ret2;exact⟨⟨.slice none 0 0,congrArg (fun z=>Ending.returned (.tuple #[.slice none 0 0,.int .i64 z])) HQ.o.symm,by unfold sb;rw[if_neg (by rw[HQ.o];exact H0.o)];exact gp _⟩,fP.o⟩
theorem pY (w:World) (v:Value) (b:an) (hb:aB w v b) (hs:di b):Calls ZP 23 #[v] w (dU w (.tuple #[.int .i64 (kO b:Nat),.int .i64 (aK b)])):=by
 have HB:=hid hb;obtain⟨a2,c2,a3,c3,a4,c4,rfl⟩:=hb.dV;obtain⟨A1,bH⟩:=ex1 (w.alloc (.cells #[.int .i64 b.ap,.int .i64 b.places,.slice a2 b.parts.length c2,.slice a3 b.apart.length c3,.slice a4 b.aa.length c4] 26));have B1:Hid (aX A1 w.heap.size 26 #[.int .i64 b.ap,.int .i64 b.places,.slice a2 b.parts.length c2,.slice a3 b.apart.length c3,.slice a4 b.aa.length c4]):=eW bH;have HW:Hid (Below w.heap.size w A1):=(cZ bH).below (by simp) (Nat.le_refl _);have z0:=B1.o.cell 0 rfl;have z1:=B1.o.cell 1 rfl;have z2:=B1.o.cell 2 rfl;have z3:=B1.o.cell 3 rfl;have z4:=B1.o.cell 4 rfl;have hC:=eG A1 _ b (HB.o.later (Kp.of HW.o)) hs;obtain⟨s,j6⟩:=ex1 (aK b);have ls:=hid j6;rw[j6]at hC⊢;clear hb hs j6;go_enter ZF23,Tryz.ntmps23
 go_wp2_with fail
 refine hC.mono ?_;rintro e w1 ⟨⟨r,rfl,rfl⟩,bu⟩;have ew:=hid bu;have fP:=HW.t bu;clear bu bH z0 z1 z2 z3 z4 hC;by_cases h0:r=0
 .subst h0;have HV:Hid (Valid b):=ck.1 ls.o;have X1:=B1.o.below ew.o B1.o.lt;have z0:=X1.cell 0 rfl;have z1:=X1.cell 1 rfl;have z2:=X1.cell 2 rfl;have z3:=X1.cell 3 rfl;have z4:=X1.cell 4 rfl;clear X1;have HM:Hid (((a8 b b.places.toNat).length:Nat)=kO b):=by unfold Hid kO;rw[if_pos ls.o,rW,List.length_map]
  go_wp2_with(go_at_call 74
              refine(tf w1 _ b (HB.o.later (Kp.of fP.o)) HV.o).mono ?_;rintro e w2 ⟨⟨vp,rfl,hvp⟩,fk⟩;have jV:=fP.t fk;obtain⟨pa,pc,qV,_⟩:=hvp;obtain rfl:=qV.eq;have jo:=qV.le;clear fk qV z0 z1 z2 z3 z4)
  go_ret2;exact⟨congrArg (fun z:Nat=>Ending.returned (.tuple #[.int .i64 z,.int .i64 0])) HM.o,jV.o⟩
 .have HM:Hid (kO b=0):=by unfold Hid kO;rw[ls.o,if_neg h0]
  go_wp2_with fail
  go_ret2;exact⟨congrArg (fun z:Nat=>Ending.returned (.tuple #[.int .i64 z,.int .i64 r])) HM.o.symm,fP.o⟩
theorem kS (w:World) (v vm:Value) (b:an) (m:List Int) (hb:aB w v b) (hs:di b) (hm:ae w vm m):Calls ZP 83 #[v,vm] w (dU w (.int .i64 (cX b m))):=by
 have HB:=hid hb;have HM:=hid hm;obtain⟨ma,mn,mc,rfl⟩:=mz hm;obtain⟨a2,c2,a3,c3,a4,c4,rfl⟩:=hb.dV;obtain⟨A1,bH⟩:=ex1 (w.alloc (.cells #[.int .i64 b.ap,.int .i64 b.places,.slice a2 b.parts.length c2,.slice a3 b.apart.length c3,.slice a4 b.aa.length c4] 26));have B1:Hid (aX A1 w.heap.size 26 #[.int .i64 b.ap,.int .i64 b.places,.slice a2 b.parts.length c2,.slice a3 b.apart.length c3,.slice a4 b.aa.length c4]):=eW bH;have HW:Hid (Below w.heap.size w A1):=(cZ bH).below (by simp) (Nat.le_refl _);have z0:=B1.o.cell 0 rfl;have z1:=B1.o.cell 1 rfl;have z2:=B1.o.cell 2 rfl;have z3:=B1.o.cell 3 rfl;have z4:=B1.o.cell 4 rfl;have hC:=eG A1 _ b (HB.o.later (Kp.of HW.o)) hs;obtain⟨s,j6⟩:=ex1 (aK b);have ls:=hid j6;rw[j6]at hC;clear hb hs j6 hm;go_enter ZF83,Tryz.ntmps83
 go_wp2_with fail
 refine hC.mono ?_;rintro e w1 ⟨⟨r,rfl,rfl⟩,bu⟩;have ew:=hid bu;have fP:=HW.t bu;clear bu bH z0 z1 z2 z3 z4 hC;by_cases h0:r=0
 .subst h0;have HV:Hid (Valid b):=ck.1 ls.o;have X1:=B1.o.below ew.o B1.o.lt;have z0:=X1.cell 0 rfl;have z1:=X1.cell 1 rfl;have z2:=X1.cell 2 rfl;have z3:=X1.cell 3 rfl;have z4:=X1.cell 4 rfl;clear X1;have HQ:Hid (bp b m=cX b m):=by unfold Hid cX;rw[if_pos ls.o]
  have ly:=iG w1 _ _ b m (HB.o.later (Kp.of fP.o)) (HM.o.later (Kp.of fP.o));rw[HQ.o]at ly;go_wp2_with(go_at_call 56;refine ly.mono ?_;rintro e w2 ⟨⟨r,rfl,rfl⟩,fk⟩)
  go_ret;exact⟨rfl,fP.o.trans (fk.mono fP.o.size)⟩
 .have HQ:Hid (cX b m=r):=by unfold Hid cX;rw[ls.o,if_neg h0]
  go_wp2_with fail
  go_ret;exact⟨congrArg (fun z=>Ending.returned (.int .i64 z)) HQ.o.symm,fP.o⟩
theorem yS (w:World) (v vm:Value) (b:an) (m:List Int) (hb:aB w v b) (hs:di b) (hm:ae w vm m):Calls ZP 27 #[v,vm] w (dU w (.tuple #[.int .i64 (kP b m),.int .i64 (cX b m)])):=by
 have HB:=hid hb;have HM:=hid hm;obtain⟨ma,mn,mc,rfl⟩:=mz hm;obtain⟨a2,c2,a3,c3,a4,c4,rfl⟩:=hb.dV;obtain⟨A1,bH⟩:=ex1 (w.alloc (.cells #[.int .i64 b.ap,.int .i64 b.places,.slice a2 b.parts.length c2,.slice a3 b.apart.length c3,.slice a4 b.aa.length c4] 26));have B1:Hid (aX A1 w.heap.size 26 #[.int .i64 b.ap,.int .i64 b.places,.slice a2 b.parts.length c2,.slice a3 b.apart.length c3,.slice a4 b.aa.length c4]):=eW bH;have HW:Hid (Below w.heap.size w A1):=(cZ bH).below (by simp) (Nat.le_refl _);have z0:=B1.o.cell 0 rfl;have z1:=B1.o.cell 1 rfl;have z2:=B1.o.cell 2 rfl;have z3:=B1.o.cell 3 rfl;have z4:=B1.o.cell 4 rfl;have hC:=kS A1 _ _ b m (HB.o.later (Kp.of HW.o)) hs (HM.o.later (Kp.of HW.o));obtain⟨s,j6⟩:=ex1 (cX b m);have ls:=hid j6;rw[j6]at hC⊢;clear hb hs j6 hm;go_enter ZF27,Tryz.ntmps27
 go_wp2_with fail
 refine hC.mono ?_;rintro e w1 ⟨rfl,bu⟩;have ew:=hid bu;have fP:=HW.t bu;clear bu bH z0 z1 z2 z3 z4 hC;by_cases h0:s=0
 .subst h0;have HV:Hid (Valid b/\eC b m):=jK.1 ls.o;have GA:m.length=b.places.toNat:=by have:=HV.o.2.len;omega
  have jo:=HV.o.1.places;have X1:=B1.o.below ew.o B1.o.lt;have z0:=X1.cell 0 rfl;have z1:=X1.cell 1 rfl;have z2:=X1.cell 2 rfl;have z3:=X1.cell 3 rfl;have z4:=X1.cell 4 rfl;clear X1
  have ly:=AS w1 _ m (HM.o.later (Kp.of fP.o)) (by omega) (fun k r hr=>by
   have h1:=yR hr;have h2:=um (m.take k).length (ak (m.take k));have h3:(m.take k).length<=m.length:=by rw[List.length_take];omega
   omega)
  have HQ:Hid (∀r,cM m r->kP b m=((r.length:Nat):Int)):=fun r hr=>by unfold kP;rw[if_pos ls.o,<-GA,yR hr]
  clear GA jo
  go_wp2_with(go_at_call 51
              refine ly.mono ?_;rintro e w2 ⟨⟨v',r,rfl,mC,hr⟩,fk⟩;have HR:Hid (cM m r):=hr;have jV:=fP.t fk;obtain⟨pa,pc,qV,_⟩:=mC;obtain rfl:=qV.eq;have jo:=qV.le;clear fk qV hr ly)
  go_ret2;exact⟨congrArg (fun z=>Ending.returned (.tuple #[.int .i64 z,.int .i64 0])) (HQ.o _ HR.o).symm,jV.o⟩
 .have HQ:Hid (kP b m=0):=by unfold Hid kP;rw[ls.o,if_neg h0]
  go_wp2_with fail
  go_ret2;exact⟨congrArg (fun z=>Ending.returned (.tuple #[.int .i64 z,.int .i64 s])) HQ.o.symm,fP.o⟩
theorem A7 (w:World) (v vm:Value) (b:an) (m:List Int) (hb:aB w v b) (hv:Valid b) (hm:ae w vm m) (hl:m.length<=4) (rt:∀(j:Nat) (x:Int),m[j]?=some x->0<=x/\x<b.parts.length):
 Calls ZP 85 #[v,vm] w (dU w (.int .i64 (bY b (ak m) m.length))):=by
 have HV:Hid (Valid b):=hv;have GH:=hid rt;obtain⟨v2,v3,v4,rfl,⟨a2,c2,h2,f2⟩,⟨a3,c3,⟨rfl,_,_,_,_⟩,_⟩,⟨a4,c4,⟨rfl,_,_,_,_⟩,_⟩⟩:=hb;have H2:Hid (bB w v2 b.parts.length a2 c2/\_):=⟨h2,f2⟩
 obtain⟨rfl,l2,m2,n2,r2⟩:=h2;obtain⟨ma,mc,KL,hme⟩:=hm;obtain rfl:=KL.eq;have HM:Hid (bB w (.slice ma m.length mc) m.length ma mc/\∀d,ma=some d->∀(j:Nat) (x:Int),m[j]?=some x->At w d j (.int .i64 x)):=⟨KL,hme⟩
 have GA:=KL.le;unfold maxLen at m2;obtain⟨A1,bH⟩:=ex1 (w.alloc (.cells #[.int .i64 b.ap,.int .i64 b.places,.slice a2 b.parts.length c2,.slice a3 b.apart.length c3,.slice a4 b.aa.length c4] 26));have B1:Hid (aX A1 w.heap.size 26 #[.int .i64 b.ap,.int .i64 b.places,.slice a2 b.parts.length c2,.slice a3 b.apart.length c3,.slice a4 b.aa.length c4]):=eW bH;have HW:Hid (Below w.heap.size w A1):=(cZ bH).below (by simp) (Nat.le_refl _);clear hv rt n2 r2 f2 KL hme;go_enter ZF85,Tryz.ntmps85
 go_wp2
 clear bH;go_loopw [6,5] (fun i s wr=>∃k:Nat,k<=m.length/\i=.int .i64 k/\s=.int .i64 (bY b (ak m) k)/\Hid (Below A1.heap.size A1 wr)) (fun i _ _=>m.length-(intOf i).toNat)
 case atStart=>exact⟨0,Nat.zero_le _,rfl,rfl,Below.refl _ _⟩
 case round=>
  obtain⟨k,hk,rfl,rfl,hB⟩:=hrel;by_cases az:k<m.length
  .obtain⟨⟨mb,mo,sp⟩,y,rfl,hy,y0⟩:=HM.o.1.elem HM.o.2 az;obtain rfl:sp=none:=y0.1;have UJ:=GH.o k y hy;obtain⟨j,rfl⟩:∃j:Nat,y=(j:Int):=⟨y.toNat,by omega⟩
   have hj5:(j:Int)<(b.parts.length:Int):=UJ.2;obtain⟨⟨blk,off,sp⟩,x,rfl,hx,x0,x1,_⟩:=H2.o.1.elem H2.o.2 (show j<b.parts.length by omega);obtain rfl:sp=none:=x0.1;have Mc:=HW.t hB.o
   have Y1:∀X:ah wr,X.1.cell? ⟨blk,off+j*6+1,none⟩=some (.int .i64 x.cost):=fun X=>by
    have:=((x1.later (Kp.of Mc.o)).later X.kp).2;simpa only[<-Nat.add_assoc]using this
   have C2:∀X:ah wr,X.1.cell? ⟨mb,mo+k,none⟩=some (.int .i64 j):=fun X=>((y0.later (Kp.of Mc.o)).later X.kp).2;obtain⟨-,-,Z2⟩:=(hidb B1 hB.o).o.a3
   have HS:Hid (bY b (ak m) (k+1)=bY b (ak m) k+x.cost):=(by
    show bY b (ak m) k+(match b.parts[(ak m k).toNat]? with|some x=>x.cost|none=>0)=_;have e:ak m k=(j:Int):=by unfold ak;rw[hy];rfl
    rw[e,Int.toNat_natCast,hx]:bY b (ak m) (k+1)=bY b (ak m) k+x.cost)
   have Pd:=oO HV.o (ak m) k;have Mi:=(HV.o.parts.all _ x (by omega) hx).1.cost;have pR:(k:Int)<(m.length:Int):=by omega
   generalize Vi:x.cost=xc at*;generalize bY b (ak m) k=s at*;clear x0 x1 hx hy y0 UJ;go_wp2_with fail
   refine aj (by kernel_rfl) (by kernel_rfl) ?_;repeat(go_big_quiet_step (fail))
   refine wpQuiet_nil ?_;rintro _ ⟨X,rfl⟩;have HX:=hB.t X.2;clear Y1 C2 Z2;go_wp2
   refine⟨⟨k+1,by omega,by go_num,by rw[HS.o],HX⟩,by simp[intOf];omega⟩
  .have e:k=m.length:=by omega
   subst e;go_wp2
   go_ret;exact⟨rfl,HW.o.trans (hB.o.mono HW.o.size)⟩
theorem yT (w:World) (v vm:Value) (b:an) (m:List Int) (hb:aB w v b) (hs:di b) (hm:ae w vm m):Calls ZP 29 #[v,vm] w (dU w (.tuple #[.int .i64 (kQ b m),.int .i64 (cX b m)])):=by
 have HB:=hid hb;have HM:=hid hm;obtain⟨ma,mn,mc,rfl⟩:=mz hm;obtain⟨a2,c2,a3,c3,a4,c4,rfl⟩:=hb.dV;obtain⟨A1,bH⟩:=ex1 (w.alloc (.cells #[.int .i64 b.ap,.int .i64 b.places,.slice a2 b.parts.length c2,.slice a3 b.apart.length c3,.slice a4 b.aa.length c4] 26));have B1:Hid (aX A1 w.heap.size 26 #[.int .i64 b.ap,.int .i64 b.places,.slice a2 b.parts.length c2,.slice a3 b.apart.length c3,.slice a4 b.aa.length c4]):=eW bH;have HW:Hid (Below w.heap.size w A1):=(cZ bH).below (by simp) (Nat.le_refl _);have z0:=B1.o.cell 0 rfl;have z1:=B1.o.cell 1 rfl;have z2:=B1.o.cell 2 rfl;have z3:=B1.o.cell 3 rfl;have z4:=B1.o.cell 4 rfl;have hC:=kS A1 _ _ b m (HB.o.later (Kp.of HW.o)) hs (HM.o.later (Kp.of HW.o));obtain⟨s,j6⟩:=ex1 (cX b m);have ls:=hid j6;rw[j6]at hC⊢;clear hb hs j6 hm;go_enter ZF29,Tryz.ntmps29
 go_wp2_with fail
 refine hC.mono ?_;rintro e w1 ⟨rfl,bu⟩;have ew:=hid bu;have fP:=HW.t bu;clear bu bH z0 z1 z2 z3 z4 hC;by_cases h0:s=0
 .subst h0;have HV:Hid (Valid b/\eC b m):=jK.1 ls.o;have GA:m.length=b.places.toNat:=by have:=HV.o.2.len;omega
  have jo:=HV.o.1.places;have X1:=B1.o.below ew.o B1.o.lt;have z0:=X1.cell 0 rfl;have z1:=X1.cell 1 rfl;have z2:=X1.cell 2 rfl;have z3:=X1.cell 3 rfl;have z4:=X1.cell 4 rfl;clear X1
  have ly:=A7 w1 _ _ b m (HB.o.later (Kp.of fP.o)) HV.o.1 (HM.o.later (Kp.of fP.o)) (by omega) (fun j x hj=>by
   have h1:=HV.o.2.range j x (List.getElem?_eq_some_iff.1 hj).1 hj;omega)
  have HQ:Hid (kQ b m=bY b (ak m) m.length):=by unfold Hid kQ;rw[if_pos ls.o,GA]
  rw[<-HQ.o]at ly;clear GA jo;go_wp2_with(go_at_call 85;refine ly.mono ?_;rintro e w2 ⟨rfl,fk⟩)
  go_ret2;exact⟨rfl,fP.o.trans (fk.mono fP.o.size)⟩
 .have HQ:Hid (kQ b m=0):=by unfold Hid kQ;rw[ls.o,if_neg h0]
  go_wp2_with fail
  go_ret2;exact⟨congrArg (fun z=>Ending.returned (.tuple #[.int .i64 z,.int .i64 s])) HQ.o.symm,fP.o⟩
open Classical in
noncomputable def dI (b:an) (L o:List Int):Bool:=decide (lL b L o)
theorem gM:dI b L o=true↔lL b L o:=by
 classical
 unfold dI;exact decide_eq_true_iff
theorem iT:dI b L o=false↔¬lL b L o:=by
 classical
 unfold dI;exact decide_eq_false_iff_not
theorem Hk (h:o.length=0):il b L o x:=fun h2=>by
 have h3:=h2.1;rw[h]at h3;exact absurd h3 (Nat.lt_irrefl 0)
def mB (b:an) (L o C:List Int) (k:Nat):Prop:=∀(j:Nat) (x:Int),j<k->C[j]?=some x->¬(il b L o x/\lL b L (o++[x]))
theorem mB.succ {C:List Int} (h:mB b L o C k) (hx:C[k]?=some x) (hn:¬(il b L o x/\lL b L (o++[x]))):mB b L o C (k+1):=fun j y hj hy=>by
 by_cases e:j=k
 .subst e;rw[hx]at hy;cases hy;exact hn
 .exact h j y (by omega) hy
theorem Ee (hl:o.length<L.length) (h:mB b L o (bz b (ak L o.length)) (bz b (ak L o.length)).length):dI b L o=false:=by
 rw[iT,si hl];rintro⟨x,hx,hf⟩;obtain⟨j,hj⟩:=List.getElem?_of_mem hx;exact h j x (List.getElem?_eq_some_iff.1 hj).1 hj hf
theorem A8 (hl:o.length<L.length) (hx:(bz b (ak L o.length))[k]?=some x) (hf:il b L o x) (hg:dI b L (o++[x])=true):dI b L o=true:=by
 exact gM.2 ((si hl).2 ⟨x,List.mem_of_getElem? hx,hf,gM.1 hg⟩)
theorem th (b:an) (hv:Valid b) (L:List Int) (hL:L.length<=4) (YG:∀i,0<=ak L i/\ak L i<=100):∀(n:Nat) (w:World) (v vL vo:Value) (o:List Int),L.length=o.length+n->aB w v b->ae w vL L->ae w vo o->
 Calls ZP 78 #[v,vL,vo] w (dU w (.bool (dI b L o))):=by
 intro n;induction n with
 |zero=>
  intro w v vL vo o hn hb hl ho;obtain⟨a2,c2,a3,c3,a4,c4,rfl⟩:=hb.dV;obtain⟨la,lc,vV,_⟩:=hl;obtain rfl:=vV.eq;obtain⟨oa,oc,Cq,_⟩:=ho;obtain rfl:=Cq.eq;have Uv:=vV.le;have tx:=Cq.le;have HF:Hid (dI b L o=true):=gM.2 (D9 (by omega));obtain⟨A1,bH⟩:=ex1 (w.alloc (.cells #[.int .i64 b.ap,.int .i64 b.places,.slice a2 b.parts.length c2,.slice a3 b.apart.length c3,.slice a4 b.aa.length c4] 26));have HW:Hid (Below w.heap.size w A1):=(cZ bH).below (by simp) (Nat.le_refl _);have he:((o.length:Int)==(L.length:Int))=true:=by simp;omega
  clear vV Cq hb hn;go_enter ZF78,Tryz.ntmps78
  go_wp2_with fail
  go_ret;exact⟨congrArg (fun z=>Ending.returned (.bool z)) HF.o.symm,HW.o⟩
 |succ n ih=>
  intro w v vL vo o hn hb hl ho;have HB:=hid hb;have HV:Hid (Valid b):=hv;have HO:=hid ho;have HLL:=hid hl;have HLR:=hid YG;have HIH:=hid ih;obtain⟨a2,c2,a3,c3,a4,c4,rfl⟩:=hb.dV;obtain⟨la,lc,vV,hle⟩:=hl;obtain rfl:=vV.eq;have S5:Hid (bB w (.slice la L.length lc) L.length la lc/\∀d,la=some d->∀(j:Nat) (x:Int),L[j]?=some x->At w d j (.int .i64 x)):=⟨vV,hle⟩
  obtain⟨oa,oc,Cq,SV⟩:=ho;obtain rfl:=Cq.eq;have SO:Hid (bB w (.slice oa o.length oc) o.length oa oc/\∀d,oa=some d->∀(j:Nat) (x:Int),o[j]?=some x->At w d j (.int .i64 x)):=⟨Cq,SV⟩
  have Uv:=vV.le;have tx:=Cq.le;have az:o.length<L.length:=by omega
  obtain⟨⟨lb,lo,sp⟩,pl,rfl,jo,p0⟩:=vV.elem hle az;obtain rfl:sp=none:=p0.1;have YH:ak L o.length=pl:=by unfold ak;rw[jo];rfl
  have UK:=hid YH;have YI:=YG o.length;rw[YH]at YI;have Yu:Hid (∀X:World,Below w.heap.size w X->X.cell? ⟨lb,lo+o.length,none⟩=some (.int .i64 pl)):=fun X hX=>(p0.later (Kp.of hX)).2;obtain⟨A1,bH⟩:=ex1 (w.alloc (.cells #[.int .i64 b.ap,.int .i64 b.places,.slice a2 b.parts.length c2,.slice a3 b.apart.length c3,.slice a4 b.aa.length c4] 26));have B1:Hid (aX A1 w.heap.size 26 #[.int .i64 b.ap,.int .i64 b.places,.slice a2 b.parts.length c2,.slice a3 b.apart.length c3,.slice a4 b.aa.length c4]):=eW bH;have HW:Hid (Below w.heap.size w A1):=(cZ bH).below (by simp) (Nat.le_refl _);have he:((o.length:Int)==(L.length:Int))=false:=by simp;omega
  have hli:(o.length:Int)<(L.length:Int):=by omega
  have HS:Hid (∀X:World,Below A1.heap.size A1 X->(X.cell? ⟨w.heap.size,0,none⟩=some (.int .i64 b.ap)/\X.cell? ⟨w.heap.size,1,none⟩=some (.int .i64 b.places)/\X.cell? ⟨w.heap.size,2,none⟩=some (.slice a2 b.parts.length c2)/\X.cell? ⟨w.heap.size,3,none⟩=some (.slice a3 b.apart.length c3)/\X.cell? ⟨w.heap.size,4,none⟩=some (.slice a4 b.aa.length c4)/\X.cell? ⟨lb,lo+o.length,none⟩=some (.int .i64 pl))/\Below A1.heap.size A1 X):=fun X hX=>by
   have BX:=B1.o.below hX B1.o.lt;exact⟨⟨BX.cell 0 rfl,BX.cell 1 rfl,BX.cell 2 rfl,BX.cell 3 rfl,BX.cell 4 rfl,Yu.o X (HW.o.trans (hX.mono HW.o.size))⟩,hX⟩
  have yG:Hid (∀X:World,((X.cell? ⟨w.heap.size,0,none⟩=some (.int .i64 b.ap)/\X.cell? ⟨w.heap.size,1,none⟩=some (.int .i64 b.places)/\X.cell? ⟨w.heap.size,2,none⟩=some (.slice a2 b.parts.length c2)/\X.cell? ⟨w.heap.size,3,none⟩=some (.slice a3 b.apart.length c3)/\X.cell? ⟨w.heap.size,4,none⟩=some (.slice a4 b.aa.length c4)/\X.cell? ⟨lb,lo+o.length,none⟩=some (.int .i64 pl))/\Below A1.heap.size A1 X)->Below A1.heap.size A1 X):=fun _ h=>h.2;have YJ:Hid (∀X:World,Below A1.heap.size A1 X->Calls ZP 69 #[.agg #[.int .i64 b.ap,.int .i64 b.places,.slice a2 b.parts.length c2,.slice a3 b.apart.length c3,.slice a4 b.aa.length c4],.int .i64 pl] X (sZ X (bz b pl))):=fun X hX=>oL X _ b pl (HB.o.later (Kp.of (HW.o.trans (hX.mono HW.o.size)))) HV.o.parts.many.2;have nM:=hid az;have Av:=(HS.o A1 (Below.refl _ _)).1;obtain⟨z0,z1,z2,z3,z4,z5⟩:=Av;have LE:n<=3:=by omega
  have HN:=hid hn;clear vV hle Cq SV hb hn YH jo p0 ih hv YG;go_enter ZF78,Tryz.ntmps78
  go_wp2_with fail
  clear z0 z1 z2 z3 z4 z5 bH
  go_region_held3 (fun X:World=>(X.cell? ⟨w.heap.size,0,none⟩=some (.int .i64 b.ap)/\X.cell? ⟨w.heap.size,1,none⟩=some (.int .i64 b.places)/\X.cell? ⟨w.heap.size,2,none⟩=some (.slice a2 b.parts.length c2)/\X.cell? ⟨w.heap.size,3,none⟩=some (.slice a3 b.apart.length c3)/\X.cell? ⟨w.heap.size,4,none⟩=some (.slice a4 b.aa.length c4)/\X.cell? ⟨lb,lo+o.length,none⟩=some (.int .i64 pl))/\Below A1.heap.size A1 X)
   (first
     |with_reducible exact HS.o _ KM.o
     |exact HS.o _ (Below.drewN (Below.refl A1.heap.size A1) 1)
     |fail)
   (first
     |(go_at_call 69
       have hh:=yG.o _ (by assumption);refine(YJ.o _ hh).mono ?_;rintro e wq ⟨⟨vc,rfl,SN⟩,PP⟩;have KM:Hid (Below A1.heap.size A1 wq):=hh.trans (PP.mono hh.size);have HVC:=hid SN;clear PP hh SN))
  obtain⟨ca,cc,j7,eZ⟩:=HVC.o;obtain rfl:=j7.eq;have Me:Hid (bB wq (.slice ca (bz b pl).length cc) (bz b pl).length ca cc/\∀d,ca=some d->∀(j:Nat) (x:Int),(bz b pl)[j]?=some x->At wq d j (.int .i64 x)):=⟨j7,eZ⟩
  have Pd:=j7.le;have hc5:(bz b pl).length<=5:=Nat.le_trans (fO _ _ _) HV.o.parts.many.2;clear j7 eZ;go_wp2_with fail
  go_loopw [9] (fun i wr=>∃k:Nat,k<=(bz b pl).length/\i=.int .i64 k/\Hid (Below wq.heap.size wq wr/\mB b L o (bz b pl) k)) (fun i _=>(bz b pl).length-(intOf i).toNat)
  case atStart=>exact⟨0,Nat.zero_le _,rfl,Below.refl _ _,fun j x hj=>by omega⟩
  case round=>
   obtain⟨k,hk,rfl,hR⟩:=hrel;by_cases GZ:k<(bz b pl).length
   .obtain⟨⟨cb,co,sp⟩,x,rfl,hx,y0⟩:=Me.o.1.elem Me.o.2 GZ;obtain rfl:sp=none:=y0.1;have HX:=hid hx;have UG:(k:Int)<((bz b pl).length:Int):=by omega
    have PQ:=KM.t hR.o.1;have Mm:=HW.t PQ.o;have HCK:Hid (∀X:World,Below wr.heap.size wr X->X.cell? ⟨cb,co+k,none⟩=some (.int .i64 x)):=fun X hX=>(y0.later (Kp.of (hR.o.1.trans (hX.mono hR.o.1.size)))).2;have ti:=(HS.o wr PQ.o).1;have Z0:∀X:ah wr,X.1.cell? ⟨w.heap.size,0,none⟩=some (.int .i64 b.ap):=fun X=>X.cell ti.1;have Z1:∀X:ah wr,X.1.cell? ⟨w.heap.size,1,none⟩=some (.int .i64 b.places):=fun X=>X.cell ti.2.1;have Z2:∀X:ah wr,X.1.cell? ⟨w.heap.size,2,none⟩=some (.slice a2 b.parts.length c2):=fun X=>X.cell ti.2.2.1;have Z3:∀X:ah wr,X.1.cell? ⟨w.heap.size,3,none⟩=some (.slice a3 b.apart.length c3):=fun X=>X.cell ti.2.2.2.1;have Z4:∀X:ah wr,X.1.cell? ⟨w.heap.size,4,none⟩=some (.slice a4 b.aa.length c4):=fun X=>X.cell ti.2.2.2.2.1;have V0:∀X:ah wr,X.1.cell? ⟨lb,lo+o.length,none⟩=some (.int .i64 pl):=fun X=>X.cell ti.2.2.2.2.2;have V1:∀X:ah wr,X.1.cell? ⟨cb,co+k,none⟩=some (.int .i64 x):=fun X=>HCK.o X.1 X.2;clear ti y0 hx;go_upto_region 8 with fail
    go_cut [55]from 22 to 67 (fun t wx=>∃B:Bool,t=.bool B/\Hid (Below wr.heap.size wr wx)/\Hid ((B=true->¬il b L o x)/\(B=false->il b L o x)))
    case first=>
     by_cases Iu:o.length=0
     .have oN:Hid (il b L o x):=Hk Iu;have tz:decide (0<o.length)=false:=by rw[Iu];decide
      clear Iu;go_wp2_with fail
      refine aj (by kernel_rfl) (by kernel_rfl) ?_;repeat(go_big_quiet_step (fail))
      refine wpQuiet_nil ?_;rintro _ ⟨X,rfl⟩;go_wp2_with fail
      go_meet
      exact⟨false,rfl,X.2,(fun h=>by cases h),fun _=>oN.o⟩
     .have tz:decide (0<o.length)=true:=decide_eq_true (by omega);obtain⟨⟨lb2,lo2,sp⟩,y,uJ,hy,q0⟩:=S5.o.1.elem S5.o.2 (show o.length-1<L.length by have:=nM.o;omega);simp only[Option.some.injEq,Addr.mk.injEq]at uJ;obtain⟨rfl,rfl,rfl⟩:=uJ;have YK:ak L (o.length-1)=y:=by unfold ak;rw[hy];rfl
      have UJ:Hid (0<=y/\y<=100):=by have:=HLR.o (o.length-1);rw[YK]at this;exact this
      have V2:∀X:ah wr,X.1.cell? ⟨lb,lo+(o.length-1),none⟩=some (.int .i64 y):=fun X=>((q0.later (Kp.of Mm.o)).later X.kp).2;have lD:wrap64 ((o.length:Int)-1)=((o.length-1:Nat):Int):=by unfold wrap64;omega
      have me:((o.length-1:Nat):Int)<(L.length:Int):=by have:=nM.o;omega
      have hy1:wrap64 (y+1)=y+1:=by have:=UJ.o;unfold wrap64;omega
      have HMY:=hid YK;clear hy q0 YK;by_cases Hl:y+1=pl
      .have S6:(y+1==pl)=true:=by simp;omega
       obtain⟨⟨ob,oo,sp⟩,z,rfl,hz,r0⟩:=SO.o.1.elem SO.o.2 (show o.length-1<o.length by omega);obtain rfl:sp=none:=r0.1;have HMZ:Hid (ak o (o.length-1)=z):=(by unfold ak;rw[hz];rfl:ak o (o.length-1)=z)
       have V3:∀X:ah wr,X.1.cell? ⟨ob,oo+(o.length-1),none⟩=some (.int .i64 z):=fun X=>((r0.later (Kp.of Mm.o)).later X.kp).2;have PO:((o.length-1:Nat):Int)<(o.length:Int):=by omega
       have ji:∀X:ah wr,Calls ZP 109 #[.agg #[.int .i64 b.ap,.int .i64 b.places,.slice a2 b.parts.length c2,.slice a3 b.apart.length c3,.slice a4 b.aa.length c4],.int .i64 z,.int .i64 x] X.1 (fun e gI=>(∃r,e=.returned (.bool r)/\Tr r (Apart b.apart z x))/\∃Y:ah wr,gI=Y.1):=fun X=>
        (kG _ _ _ _ _ ((HB.o.later (Kp.of Mm.o)).later X.kp)).mono fun e w' h=>⟨h.1,X.on h.2⟩
       have HPO:Hid (0<o.length):=(by omega:0<o.length)
       have YL:Hid (y+1=pl):=Hl;clear hz r0 Hl;by_cases lI:Apart b.apart z x
       .have Mg:∀X:ah wr,Calls ZP 109 #[.agg #[.int .i64 b.ap,.int .i64 b.places,.slice a2 b.parts.length c2,.slice a3 b.apart.length c3,.slice a4 b.aa.length c4],.int .i64 z,.int .i64 x] X.1 (fun e gI=>e=.returned (.bool true)/\∃Y:ah wr,gI=Y.1):=fun X=>
         (ji X).mono fun e w' ⟨⟨r,h1,h2⟩,h3⟩=>⟨by rw[h1,h2.2 lI],h3⟩
        have Kj:Hid (¬il b L o x):=(fun h=>h ⟨HPO.o,by rw[HMY.o,UK.o];exact YL.o,by rw[HMZ.o];exact lI⟩:¬il b L o x)
        clear ji lI;go_wp2_with fail
        refine aj (by kernel_rfl) (by kernel_rfl) ?_;repeat(go_big_quiet_step (first|(go_at_call 109;exact Mg _)))
        refine wpQuiet_nil ?_;rintro _ ⟨X,rfl⟩;go_wp2_with fail
        go_meet
        exact⟨true,rfl,X.2,fun _=>Kj.o,fun h=>by cases h⟩
       .have Mg:∀X:ah wr,Calls ZP 109 #[.agg #[.int .i64 b.ap,.int .i64 b.places,.slice a2 b.parts.length c2,.slice a3 b.apart.length c3,.slice a4 b.aa.length c4],.int .i64 z,.int .i64 x] X.1 (fun e gI=>e=.returned (.bool false)/\∃Y:ah wr,gI=Y.1):=fun X=>
         (ji X).mono fun e w' ⟨⟨r,h1,h2⟩,h3⟩=>⟨by cases r with
           |false=>exact h1
           |true=>exact absurd h2.t lI,h3⟩
        have oN:Hid (il b L o x):=(fun h=>lI (by rw[<-HMZ.o];exact h.2.2):il b L o x)
        clear ji lI;go_wp2_with fail
        refine aj (by kernel_rfl) (by kernel_rfl) ?_;repeat(go_big_quiet_step (first|(go_at_call 109;exact Mg _)))
        refine wpQuiet_nil ?_;rintro _ ⟨X,rfl⟩;go_wp2_with fail
        go_meet
        exact⟨false,rfl,X.2,(fun h=>by cases h),fun _=>oN.o⟩
      .have S6:(y+1==pl)=false:=by simpa using Hl
       have oN:Hid (il b L o x):=(fun h=>Hl (by rw[<-HMY.o,<-UK.o];exact h.2.1):il b L o x)
       clear Hl;go_wp2_with fail
       refine aj (by kernel_rfl) (by kernel_rfl) ?_;repeat(go_big_quiet_step (fail))
       refine wpQuiet_nil ?_;rintro _ ⟨X,rfl⟩;go_wp2_with fail
       go_meet
       exact⟨false,rfl,X.2,(fun h=>by cases h),fun _=>oN.o⟩
    case rest=>
     obtain⟨B,rfl,Cn,IB⟩:=hcut;obtain⟨wx,Mh⟩:∃wx,wx=wc:=⟨wc,rfl⟩
     rw[<-Mh]at Cn⊢;clear Mh;clear Z0 Z1 Z2 Z3 Z4 V0 V1;have HRX:Hid (Below wq.heap.size wq wx):=hR.o.1.trans (Cn.o.mono hR.o.1.size);cases B with
     |true=>
      have YM:Hid (mB b L o (bz b pl) (k+1)):=hR.o.2.succ HX.o fun h=>IB.o.1 rfl h.1;go_wp2
      refine⟨⟨k+1,by omega,by go_num,HRX.o,YM.o⟩,by simp[intOf];omega⟩
     |false=>
      have oN:Hid (il b L o x):=IB.o.2 rfl;have HAX:=PQ.t Cn.o;have PR:=Mm.t Cn.o
      have ON:Hid (∀X:World,Below wx.heap.size wx X->(X.cell? ⟨w.heap.size,0,none⟩=some (.int .i64 b.ap)/\X.cell? ⟨w.heap.size,1,none⟩=some (.int .i64 b.places)/\X.cell? ⟨w.heap.size,2,none⟩=some (.slice a2 b.parts.length c2)/\X.cell? ⟨w.heap.size,3,none⟩=some (.slice a3 b.apart.length c3)/\X.cell? ⟨w.heap.size,4,none⟩=some (.slice a4 b.aa.length c4)/\X.cell? ⟨cb,co+k,none⟩=some (.int .i64 x))/\Below wx.heap.size wx X):=fun X hX=>by
       obtain⟨y0,y1,y2,y3,y4,_⟩:=(HS.o X (HAX.o.trans (hX.mono HAX.o.size))).1;exact⟨⟨y0,y1,y2,y3,y4,HCK.o X (Cn.o.trans (hX.mono Cn.o.size))⟩,hX⟩
      have UL:Hid (∀X:World,((X.cell? ⟨w.heap.size,0,none⟩=some (.int .i64 b.ap)/\X.cell? ⟨w.heap.size,1,none⟩=some (.int .i64 b.places)/\X.cell? ⟨w.heap.size,2,none⟩=some (.slice a2 b.parts.length c2)/\X.cell? ⟨w.heap.size,3,none⟩=some (.slice a3 b.apart.length c3)/\X.cell? ⟨w.heap.size,4,none⟩=some (.slice a4 b.aa.length c4)/\X.cell? ⟨cb,co+k,none⟩=some (.int .i64 x))/\Below wx.heap.size wx X)->Below wx.heap.size wx X):=fun _ h=>h.2;have UI:Hid (∀X:World,Below wx.heap.size wx X->ae X (.slice oa o.length oc) o):=fun X hX=>HO.o.later (Kp.of (PR.o.trans (hX.mono PR.o.size)))
      have S7:Hid (∀(X:World) (u:Value),Below wx.heap.size wx X->ae X u (o++[x])->Calls ZP 78 #[.agg #[.int .i64 b.ap,.int .i64 b.places,.slice a2 b.parts.length c2,.slice a3 b.apart.length c3,.slice a4 b.aa.length c4],.slice (some ⟨lb,lo,none⟩) L.length lc,u] X (dU X (.bool (dI b L (o++[x]))))):=fun X u hX hu=>
       HIH.o X _ _ u (o++[x]) (by have:=HN.o;simp;omega) (HB.o.later (Kp.of (PR.o.trans (hX.mono PR.o.size)))) (HLL.o.later (Kp.of (PR.o.trans (hX.mono PR.o.size)))) hu
      obtain⟨rr,O6⟩:=ex1 (dI b L (o++[x]));have HRR:=hid O6;rw[O6]at S7;obtain⟨i3,B3,yD,yE,yF⟩:=info_parts jh;have ze7:o.length<=4:=by have:=nM.o;omega
      clear O6;go_wp2_with fail
      go_region_held3 (fun X:World=>(X.cell? ⟨w.heap.size,0,none⟩=some (.int .i64 b.ap)/\X.cell? ⟨w.heap.size,1,none⟩=some (.int .i64 b.places)/\X.cell? ⟨w.heap.size,2,none⟩=some (.slice a2 b.parts.length c2)/\X.cell? ⟨w.heap.size,3,none⟩=some (.slice a3 b.apart.length c3)/\X.cell? ⟨w.heap.size,4,none⟩=some (.slice a4 b.aa.length c4)/\X.cell? ⟨cb,co+k,none⟩=some (.int .i64 x))/\Below wx.heap.size wx X)
       (first
         |exact ON.o _ (Below.drewN (Below.refl _ wx) 1)
         |exact ON.o _ uk.o
         |exact ON.o _ yH.o
         |exact ON.o _ AP.o
         |(have hh:=UL.o _ (by assumption);exact ON.o _ (hh.trans (((ac.alloc [] _ _).below (by simp) (Nat.le_refl _)).mono hh.size))))
       (first
         |(have hh:=UL.o _ (by assumption)
           refine bN rfl (.tmp 58) (.tmp 59) rfl wx.heap.size _ 0 [] rfl (jl (by first|exact eI rfl (by first|rfl|simp)|exact dD rfl (by first|rfl|simp)) (by first|exact Nat.le_refl _|exact Nat.le_succ _)) (.slice oa o.length oc) o rfl (UI.o _ hh) (by omega) hh.size ?_;intro v1 w1 qJ sW;have AP:Hid (Below wx.heap.size wx w1):=(ac.grow (O:=[]) (ac.of hh) sW (fun k hk=>by cases hk;first|exact Nat.le_refl _|exact Nat.le_succ _|simp)).below (by simp) (Nat.le_refl _);have qt:Hid (w1.ownsRow wx.heap.size 3 1 v1 o.length (o.map (Value.int .i64))):=(by simpa using qJ:w1.ownsRow wx.heap.size 3 1 v1 o.length (o.map (Value.int .i64)))
           clear qJ hh)
         |(have hh:=UL.o _ (by assumption)
           refine bX rfl (.tmp 60) (.tmp 65) 27 rfl wx.heap.size 3 i3 (.int .i64 0) 1 8 dt B3 yD yE yF rfl (by decide) _ o.length _ rfl (by first|exact qt.o|exact qt.o.alloc _) ⟨_,0,none⟩ 1 1 [.int .i64 x] rfl rfl
            (by first
              |exact eM (aX.new _ 3 _)
              |(refine eM (t:=3) ((sW.block _ ?bl ?bn).trans ?bx)
                case bx=>first|exact eI rfl (by first|rfl|simp)|exact dD rfl (by first|rfl|simp)
                case bl=>first|exact Nat.lt_succ_self _|exact Nat.lt_succ_of_lt (Nat.lt_succ_self _)|(simp<;>omega)
                case bn=>exact rS (by first|exact Nat.succ_ne_self _|exact(Nat.succ_ne_self _).symm|simp))) (gJ _) (by unfold maxLen;omega) (by omega) hh.size ?_
           intro v2 w2 qe zh;obtain⟨g2,k2,rfl⟩:=ownsRow_succ qe
           have qq:Hid (ae w2 (.slice (some ⟨g2,0,none⟩) (o.length+1) k2) (o++[x])):=(by
            have h:w2.ownsRow wx.heap.size 3 1 (.slice (some ⟨g2,0,none⟩) (o.length+1) k2) (o++[x]).length ((o++[x]).map (Value.int .i64)):=by rw[List.length_append,List.map_append];exact qe
            exact ae.dH h)
           have yH:Hid (Below wx.heap.size wx w2):=(ac.grow (O:=[]) (ac.of hh) zh (fun k hk=>(aH qt.o k hk).1)).below (by simp) (Nat.le_refl _);clear qe hh)
         |(go_at_call 78
           have hh:=UL.o _ (by assumption);refine(S7.o _ _ yH.o qq.o).mono ?_;rintro e w3 ⟨rfl,qv⟩;have uk:=yH.t qv;clear qv hh))
      all_goals
       have HQ3:=HRX.t uk.o;cases rr with
       |true=>
        have HY:Hid (dI b L o=true):=A8 nM.o (by rw[UK.o];exact HX.o) oN.o HRR.o;go_wp2_with fail
        go_ret;exact⟨congrArg (fun z=>Ending.returned (.bool z)) HY.o.symm,HW.o.trans ((KM.o.trans (HQ3.o.mono KM.o.size)).mono HW.o.size)⟩
       |false=>
        have YM:Hid (mB b L o (bz b pl) (k+1)):=hR.o.2.succ HX.o fun h=>by
         exact iT.1 HRR.o h.2
        go_wp2_with fail
        refine⟨⟨k+1,by omega,by go_num,HQ3.o,YM.o⟩,by simp[intOf];omega⟩
   .have e:k=(bz b pl).length:=by omega
    subst e;have HF:Hid (dI b L o=false):=Ee nM.o (by rw[UK.o];exact hR.o.2);go_wp2
    go_ret;exact⟨congrArg (fun z=>Ending.returned (.bool z)) HF.o.symm,HW.o.trans ((KM.o.trans (hR.o.1.mono KM.o.size)).mono HW.o.size)⟩
theorem vY {base:Nat} {t ty e:TypeId} {i:TypeInfo} {z:Value} {bytes:Nat} (ht:P.underlying t=some (.slice e)) (hi:P.info? e=some i) (hz:i.zero=some z)
 (jR:i.size=1) (L7:i.bytes=bytes) {v:Value} {xs:List Value} (bL:w.ownsRow base e 1 v n xs)
 {a:Addr} {c:Nat} {news:List Value} (hl:news.length=m*1) (kL:∀j u,news[j]?=some u->w.cell? (a.add j)=some u) (h1:∀u∈news,u.oneCell'=true)
 (hm:0<m) (L9:n+m<=maxLen) (jH:(n+m)*bytes<=140737488355328) {v':Value} {w':World} (aP:(Builtin.append_ #[t,t] ty #[v,.slice (some a) m c]).run P w=.ok v' w') (eu:w'.ownsRow base e 1 v' (n+m) (xs++news)):
 ∀g j u,v.ownBlock=some g->xs[j]?=some u->w'.cell? ⟨g,j,none⟩=some u:=by
 have px:∀(W:World) (g j:Nat) (u:Value),W.cell? ((⟨g,0,none⟩:Addr).add j)=some u->W.cell? ⟨g,j,none⟩=some u:=fun W g j u h=>by
  have e:(⟨g,0,none⟩:Addr).add j=⟨g,j,none⟩:=by unfold Addr.add;split<;>simp_all
  rwa [e]at h
 have S8:=bL;rw[<-jR]at bL hl;have OA:n+m<=9223372036854775807:=by simp only[maxLen]at L9;omega
 rcases bL.2 with⟨rfl,rfl⟩|⟨g,cap,cur,rfl,hbg,hg,Pb,hcm,j7,SC⟩
 .intro g j u hk;cases hk
 .by_cases pm:n+m<=cap
  .have kK:n*i.size+news.length<=cur.size:=by rw[hl,j7,<-Nat.add_mul];exact Nat.mul_le_mul_right _ pm
   have hr:=run_append_room (P:=P) w t ty e i ht hi g n cap cur hg a m c news hl kL h1 pm kK;rw[hr]at aP;cases aP;intro k j u hk hj;cases hk;exact px _ _ _ _ (eu.cells (g:=g) rfl j u (by rw[List.getElem?_append_left (List.getElem?_eq_some_iff.1 hj).1];exact hj))
  .have holds:∀j u,xs[j]?=some u->w.cell? ((⟨g,0,none⟩:Addr).add j)=some u:=bL.cells (g:=g) rfl;have hr:=run_append_grow (P:=P) w t ty e i z ht hi hz ⟨g,0,none⟩ n cap xs bL.1 holds a m c news hl kL (by omega) (by omega) (growslice_fits (by omega) (by rw[L7];exact jH));rw[hr]at aP;cases aP;intro k j u hk hj;cases hk;have h2:=px _ _ _ _ (S8.cells (g:=g) rfl j u hj);have YN:g<w.heap.size:=(Array.getElem?_eq_some_iff.1 hg).1;refine(World.cell?_of_block (w:=w) (a:=⟨g,j,none⟩) ?_).trans h2;exact(((ac.of (Below.drewN (Below.refl w.heap.size w) 1)).trans' (ac.alloc [] _ _)).block g YN (by simp))
theorem oQ {ops:Array Oper} {o:Oper} {a:Act} {K:Act->World->Prop} {Q:Exit->Act->World->Prop} {E:Prop} (If:o.guard=none) (s x:Operand) (t:TypeId)
 (ho:o.op=.call {callee:=.builtin .append,args:=#[s,x],argTypes:=#[t,t]})
 (base:Nat) (e:TypeId) (i:TypeInfo) (z:Value) (bytes:Nat) (ht:P.underlying t=some (.slice e)) (hi:P.info? e=some i) (hz:i.zero=some z)
 (jR:i.size=1) (L7:i.bytes=bytes) (Qv:z.cells.size=1)
 (v:Value) (n:Nat) (xs:List Value) (hs:a.eval s=v) (bL:w.ownsRow base e 1 v n xs)
 (ad:Addr) (m c:Nat) (news:List Value) (hx:a.eval x=.slice (some ad) m c) (hm:0<m) (hl:news.length=m*1) (kL:∀j u,news[j]?=some u->w.cell? (ad.add j)=some u) (h1:∀u∈news,u.oneCell'=true)
 (L9:n+m<=maxLen) (jH:(n+m)*bytes<=140737488355328) (i7:base<=w.heap.size)
 (h:∀v' w',w'.ownsRow base e 1 v' (n+m) (xs++news)->w.grownBy w' v.ownBlock->(∀g j u,v.ownBlock=some g->xs[j]?=some u->w'.cell? ⟨g,j,none⟩=some u)->K (a.put o.dst v') w'):
 if Region.wanted o (yielded ops a.tmps)=true then Oper.wp P o a w K Q else E:=by
 have hw:Region.wanted o (yielded ops a.tmps)=true:=by simp[Region.wanted,If]
 rw[if_pos hw];obtain⟨v',w',aP,r1,r2,r3⟩:=run_append_own (P:=P) w base t o.type e i z 1 bytes ht hi hz jR L7 Qv (by decide) v n xs bL ad m c news hl kL h1 L9 jH i7;have r4:=vY ht hi hz jR L7 bL hl kL h1 hm L9 jH aP r1;unfold Oper.wp execOp;simp only[ho,resolve,invoke,builtin,Sem.run_bind,Sem.run_pure,Result.andThen_ok,List.map_toArray,List.map_cons,List.map_nil,hs,hx,aP];exact h v' w' r1 r2 r4
theorem Ef (w:World) (N:Nat) (hN:N<=100):Calls ZP 77 #[.int .i64 (N:Int)] w (sZ w (cA N)):=by
 obtain⟨i0,hi,px,lH,oz⟩:=info_parts jh;go_enter ZF77,Tryz.ntmps77
 go_wp2
 go_loopw [3,4] (fun v i wr=>∃k:Nat,k<=N/\i=.int .i64 k/\Hid (wr.ownsRow w.heap.size 3 1 v (cA k).length ((cA k).map (Value.int .i64)))/\Hid (Below w.heap.size w wr)) (fun _ i _=>N-(intOf i).toNat)
 case atStart=>exact⟨0,Nat.zero_le _,rfl,World.ownsRow_nil _ _ _ _,Below.refl _ _⟩
 case round=>
  obtain⟨k,hk,rfl,hO,hB⟩:=hrel;by_cases az:k<N
  .have UG:(k:Int)<(N:Int):=by omega
   have hlen:=sk k;have bP:=hB.o.size;have HO:=hO;have fV:wrap64 ((k:Int)+1)=((k+1:Nat):Int):=by unfold wrap64;omega
   go_wp2_with(at_builtin;refine wpList_append_own _ rfl (.tmp 10) (.tmp 12) 27 rfl w.heap.size 3 i0 (.int .i64 0) 1 8 dt hi px lH oz rfl (by decide) _ _ _ rfl (HO.o.alloc _) ⟨_,0,none⟩ 1 1 [.int .i64 k] rfl rfl (qp _ _ _) (gJ _) (by unfold maxLen;omega) (by omega) (by simp;omega) ?_;intro v' w1 eu gm _)
   have qq:Hid (w1.ownsRow w.heap.size 3 1 v' (cA (k+1)).length ((cA (k+1)).map (Value.int .i64))):=by
    rw[yP,List.length_append,List.map_append];exact eu
   have jV:Hid (Below w.heap.size w w1):=Below.grown (Below.alloc hB.o bP _) gm (by simp;omega) (nz HO.o);clear eu gm;go_round
   case rel=>exact⟨k+1,by omega,by go_num,qq,jV⟩
   case measure=>simp[intOf];omega
  .have e:k=N:=by omega
   subst e;go_wp2
   go_ret;exact sZ.mk (ae.dH hO.o) hB.o
theorem yU (w:World) (v:Value) (l:List Int) (hl:ae w v l) (hn:l.length<=4):Calls ZP 79 #[v] w (fun e w'=>(∃v',e=.returned v'/\ei w' v' (fD l))/\Below w.heap.size w w'):=by
 obtain⟨la,lc,vV,hle⟩:=hl;obtain rfl:=vV.eq;have S5:Hid (bB w (.slice la l.length lc) l.length la lc/\∀d,la=some d->∀(j:Nat) (x:Int),l[j]?=some x->At w d j (.int .i64 x)):=⟨vV,hle⟩
 have Uv:=vV.le;obtain⟨i0,wS,px,lH,oz⟩:=info_parts GY;obtain⟨i3,B3,yD,yE,yF⟩:=info_parts jh;obtain⟨A1,bH⟩:=ex1 (w.alloc (.cells #[.slice none 0 0] 27));have HW:Hid (Below w.heap.size w A1):=(cZ bH).below (by simp) (Nat.le_refl _)
 have HN0:Hid (gC w (.slice (some ⟨w.heap.size,0,none⟩) 1 1) (fD (l.take 0)) A1):=⟨HW.o,[.slice none 0 0],⟨rfl,.inr ⟨w.heap.size,1,#[.slice none 0 0],rfl,Nat.le_refl _,eW bH,Nat.le_refl _,by unfold maxLen;omega,rfl,rfl⟩⟩,rfl,fun j o f hj hf=>by
  cases j with
  |zero=>
   simp[fD]at hj;simp at hf;subst hj;subst hf;exact World.ownsRow_nil _ _ _ _
  |succ j=>simp at hf⟩
 clear vV hle;go_enter ZF79,Tryz.ntmps79
 go_wp2
 clear bH;go_loopw [4,3,5,6] (fun i v _ _ wr=>∃p:Nat,p<=l.length/\i=.int .i64 p/\Hid (gC w v (fD (l.take p)) wr)) (fun i _ _ _ _=>l.length-(intOf i).toNat)
 case atStart=>exact⟨0,Nat.zero_le _,rfl,HN0.o⟩
 case round=>
  obtain⟨wo,rfl⟩:∃wo,wo=wr:=⟨wr,rfl⟩
  obtain⟨p,hp,rfl,hO⟩:=hrel;obtain⟨h1,fs0,h2,h3⟩:=hO.o;obtain⟨oa,oc,rfl⟩:=iQ h2
  have YO:(fD (l.take p)).length<=oc:=by
   obtain⟨_,⟨e,e2⟩|⟨g,cap,cur,e,_,_,hc,_⟩⟩:=h2
   .have:=sj l p hp;have:=Nat.two_pow_pos p;omega
   .cases e;exact hc
  have hM:(fD (l.take p)).length=2^p:=sj l p hp;have YP:(fD (l.take p)).length<=16:=by rw[hM];exact Nat.le_trans (Nat.pow_le_pow_right (by omega) (show p<=4 by omega)) (by decide)
  clear h1 h2 h3;by_cases az:p<l.length
  .obtain⟨⟨xb,xo,sp⟩,x,rfl,hx,x0⟩:=S5.o.1.elem S5.o.2 az;obtain rfl:sp=none:=x0.1;have HX:=hid hx;have PK:Hid (∀X:World,Below w.heap.size w X->X.cell? ⟨xb,xo+p,none⟩=some (.int .i64 x)):=fun X hX=>(x0.later (Kp.of hX)).2;have HXL:Hid (xb<w.heap.size):=x0.lt;have Vv:(p:Int)<(l.length:Int):=by omega
   have HMS:Hid (∀o∈fD (l.take p),o.length<=4):=fun o ho=>Nat.le_trans (mA l p hp o ho) (by omega);obtain⟨M,YQ⟩:=ex1 (fD (l.take p));have XY:=hid YQ;rw[YQ]at hO YO hM YP HMS⊢;clear x0 hx YQ hM;go_wp2_with fail
   go_loopw [6,3] (fun i v wr=>∃(k:Nat) (nv:Value),k<=M.length/\i=.int .i64 k/\nv=v/\Hid (gC w nv (M++(M.take k).map fun o=>o++[x]) wr)) (fun i _ _=>M.length-(intOf i).toNat)
   case atStart=>exact⟨0,_,Nat.zero_le _,rfl,rfl,by rw[List.take_zero,List.map_nil,List.append_nil];exact hO⟩
   case round=>
    obtain⟨k,nv,hk,rfl,rfl,Iz⟩:=hrel;by_cases GZ:k<M.length
    .have UG:(k:Int)<(M.length:Int):=by omega
     obtain⟨L2,yx⟩:=ex1 ((M++(M.take k).map fun o=>o++[x]));have UM:L2[k]?=some M[k]:=by rw[<-yx,List.getElem?_append_left GZ,List.getElem?_eq_getElem GZ]
     have ze9:L2.length<=32:=by rw[<-yx,List.length_append,List.length_map,List.length_take];omega
     have zfa:M.length<=L2.length:=by rw[<-yx,List.length_append];omega
     have UB:Hid ((M++(M.take (k+1)).map fun o=>o++[x])=L2++[M[k]++[x]]):=by
      unfold Hid;rw[<-yx,List.take_add_one,List.getElem?_eq_getElem GZ,Option.toList_some,List.map_append,List.append_assoc];rfl
     rw[yx]at Iz;have tx:M[k].length<=4:=HMS.o _ (List.getElem_mem GZ);obtain⟨o,ho⟩:=ex1 (M[k]);rw[ho]at UM UB tx;obtain⟨h1,fs,h2,h3⟩:=Iz.o;have H1:=hid h1;have IC:=hid h2;have Yx:=hid h3;obtain⟨ra,rc,FQ,TH⟩:=ei.dH h2 h3;obtain⟨⟨gb,go,sp⟩,o',rfl,Bq,vf,e0,ef⟩:=FQ.elem TH (show k<L2.length by omega);obtain rfl:o=o':=by rw[UM]at Bq;exact Option.some.inj Bq
     obtain rfl:=FQ.eq;obtain rfl:sp=none:=e0.1
     obtain rfl:go=0:=by
      obtain⟨_,⟨e,_⟩|⟨g,cap,cur,e,_⟩⟩:=h2
      .cases e
      .cases e;rfl
     have YR:w.heap.size<=gb:=(aH h2 gb rfl).1;have S9:gb<wr.heap.size:=(aH h2 gb rfl).2;have OO:wr.cell? ⟨gb,k,none⟩=some vf:=by have h:=e0.2;simp only[Nat.zero_add]at h;exact h
     have HFK:Hid (fs[k]?=some vf):=by
      have y9:k<fs.length:=by rw[h3.1];omega
      have h5:fs[k]?=some (fs[k]'y9):=List.getElem?_eq_getElem y9;have h6:=h2.cells (g:=gb) rfl k _ h5;have e:(⟨gb,0,none⟩:Addr).add k=⟨gb,k,none⟩:=by unfold Addr.add;split<;>simp_all
      rw[e,OO]at h6;unfold Hid;rw[h5,<-Option.some.inj h6]
     have qa:wr.cell? ⟨xb,xo+p,none⟩=some (.int .i64 x):=PK.o wr h1;have YS:xb<wr.heap.size:=Nat.lt_of_lt_of_le HXL.o h1.size;have Bl:xb≠gb:=by have:=HXL.o;omega
     have EA:Hid (∀X:World,ac [gb] wr X->ac [] wr X->(X.cell? ⟨gb,k,none⟩=some vf/\X.cell? ⟨xb,xo+p,none⟩=some (.int .i64 x))/\ac [gb] wr X/\(X.heap.size<=wr.heap.size+2->ac [] wr X)):=fun X h5 h6=>
      ⟨⟨(World.cell?_of_block (w:=wr) (a:=⟨gb,k,none⟩) (h6.block gb S9 (by simp))).trans OO,(World.cell?_of_block (w:=wr) (a:=⟨xb,xo+p,none⟩) (h6.block xb YS (by simp))).trans qa⟩,h5,fun _=>h6⟩
     have ON:Hid (∀X:World,ac [gb] wr X->wr.heap.size+3<=X.heap.size->X.cell? ⟨gb,k,none⟩=some vf->(X.cell? ⟨gb,k,none⟩=some vf/\X.cell? ⟨xb,xo+p,none⟩=some (.int .i64 x))/\ac [gb] wr X/\(X.heap.size<=wr.heap.size+2->ac [] wr X)):=fun X h5 h6 h7=>
      ⟨⟨h7,(World.cell?_of_block (w:=wr) (a:=⟨xb,xo+p,none⟩) (h5.block xb YS (by simpa using Bl))).trans qa⟩,h5,fun h=>absurd h (by omega)⟩
     have HSA:Hid (∀(X:World) (ob:Obj),((X.cell? ⟨gb,k,none⟩=some vf/\X.cell? ⟨xb,xo+p,none⟩=some (.int .i64 x))/\ac [gb] wr X/\(X.heap.size<=wr.heap.size+2->ac [] wr X))->(((X.alloc ob).cell? ⟨gb,k,none⟩=some vf/\(X.alloc ob).cell? ⟨xb,xo+p,none⟩=some (.int .i64 x))/\ac [gb] wr (X.alloc ob)/\((X.alloc ob).heap.size<=wr.heap.size+2->ac [] wr (X.alloc ob)))):=fun X ob h=>by
      obtain⟨⟨h5,h6⟩,h7,h8⟩:=h;have hz:=h7.size;refine⟨⟨(World.cell?_of_block (w:=X) (a:=⟨gb,k,none⟩) ((ac.alloc [] X ob).block gb (Nat.lt_of_lt_of_le S9 hz) (by simp))).trans h5,(World.cell?_of_block (w:=X) (a:=⟨xb,xo+p,none⟩) ((ac.alloc [] X ob).block xb (Nat.lt_of_lt_of_le YS hz) (by simp))).trans h6⟩,h7.trans (ac.alloc [] _ _) (by simp),fun h9=>(h8 (Nat.le_trans (Nat.le_succ _) (by simpa using h9))).trans' (ac.alloc [] _ _)⟩
     have yG:Hid (∀X:World,((X.cell? ⟨gb,k,none⟩=some vf/\X.cell? ⟨xb,xo+p,none⟩=some (.int .i64 x))/\ac [gb] wr X/\(X.heap.size<=wr.heap.size+2->ac [] wr X))->ac [gb] wr X/\(X.heap.size<=wr.heap.size+2->ac [] wr X)):=fun X h=>h.2
     have PI:Hid (∀X:World,ac [gb] wr X->ae X vf o):=fun X h=>by
      have h5:wr.ownsRow 0 3 1 vf o.length (o.map (Value.int .i64)):=h3.2 k o vf UM HFK.o;refine ae.dH (cV h5 fun j e=>h.block j (aH h5 j e).2 fun hm=>?_);obtain rfl:j=gb:=by simpa using hm
      obtain⟨_,⟨e2,_⟩|⟨g,cap,cur,e2,_,hg,_⟩⟩:=h5
      .rw[e2]at e;cases e
      .rw[e2]at e;obtain rfl:g=j:=by simpa [Value.ownBlock]using e
       obtain⟨_,⟨e3,_⟩|⟨g',jW,zfc,e3,_,zm,_⟩⟩:=h2
       .cases e3
       .cases e3;rw[hg]at zm;cases zm
     have zfd:=h1.size;have hkL:(k:Int)<(L2.length:Int):=by omega
     clear h1 h2 h3 FQ TH Bq e0 ef OO qa yx Iz ho UM;go_wp2_with fail
     go_region_held3 (fun X:World=>(X.cell? ⟨gb,k,none⟩=some vf/\X.cell? ⟨xb,xo+p,none⟩=some (.int .i64 x))/\ac [gb] wr X/\(X.heap.size<=wr.heap.size+2->ac [] wr X))
      (first
        |exact EA.o _ (ac.of (Below.drewN (Below.refl _ wr) 1)) (ac.of (Below.drewN (Below.refl _ wr) 1))
        |exact EA.o _ (ac.trans' (ac.alloc _ _ _) (ac.of (Below.drewN (Below.refl _ _) 1))) (ac.trans' (ac.alloc _ _ _) (ac.of (Below.drewN (Below.refl _ _) 1)))
        |exact EA.o _ (ac.trans' (ac.trans' (ac.alloc _ _ _) (ac.alloc _ _ _)) (ac.of (Below.drewN (Below.refl _ _) 1))) (ac.trans' (ac.trans' (ac.alloc _ _ _) (ac.alloc _ _ _)) (ac.of (Below.drewN (Below.refl _ _) 1)))
        |exact ON.o _ uk.o SQ.o HV3.o
        |exact EA.o _ yH.o.1 yH.o.2
        |exact EA.o _ AP.o.1 AP.o.2
        |exact HSA.o _ _ (by assumption))
      (first
        |(have hh:=yG.o _ (by assumption)
          refine bN rfl (.tmp 22) (.tmp 26) rfl wr.heap.size _ 0 [] rfl (jl (by first|exact eI rfl (by first|rfl|simp)|exact dD rfl (by first|rfl|simp)) (by first|exact Nat.le_refl _|exact Nat.le_succ _)) vf o rfl (PI.o _ hh.1) (by omega) hh.1.size ?_;intro v1 w1 qJ sW;have oU:=hh.2 (by first|exact Nat.le_succ _|exact Nat.le_refl _|(simp<;>omega));have AP:Hid (ac [gb] wr w1/\ac [] wr w1):=⟨ac.grow hh.1 sW (fun k hk=>by cases hk;first|exact Nat.le_refl _|exact Nat.le_succ _|simp),ac.grow oU sW (fun k hk=>by cases hk;first|exact Nat.le_refl _|exact Nat.le_succ _|simp)⟩
          have qt:Hid (w1.ownsRow wr.heap.size 3 1 v1 o.length (o.map (Value.int .i64))):=(by simpa using qJ:w1.ownsRow wr.heap.size 3 1 v1 o.length (o.map (Value.int .i64)))
          clear qJ hh oU)
        |(have hh:=yG.o _ (by assumption)
          refine bX rfl (.tmp 27) (.tmp 32) 27 rfl wr.heap.size 3 i3 (.int .i64 0) 1 8 dt B3 yD yE yF rfl (by decide) _ o.length _ rfl (by first|exact qt.o|exact qt.o.alloc _) ⟨_,0,none⟩ 1 1 [.int .i64 x] rfl rfl
           (by first
             |exact eM (aX.new _ 3 _)
             |(refine eM (t:=3) ((sW.block _ ?bl ?bn).trans ?bx)
               case bx=>first|exact eI rfl (by first|rfl|simp)|exact dD rfl (by first|rfl|simp)
               case bl=>first|exact Nat.lt_succ_self _|exact Nat.lt_succ_of_lt (Nat.lt_succ_self _)|(simp<;>omega)
               case bn=>exact rS (by first|exact Nat.succ_ne_self _|exact(Nat.succ_ne_self _).symm|simp))) (gJ _) (by unfold maxLen;omega) (by omega) hh.1.size ?_
          intro v2 w2 qe zh;obtain⟨g2,k2,rfl⟩:=ownsRow_succ qe;have qq:=hid qe;have yH:Hid (ac [gb] wr w2/\ac [] wr w2):=⟨ac.grow hh.1 zh (fun k hk=>(aH qt.o k hk).1),ac.grow (by first|exact AP.o.2|exact AP.o.2.trans (ac.alloc [] _ _) (by simp)) zh (fun k hk=>(aH qt.o k hk).1)⟩
          have SS:Hid (wr.heap.size+2<=w2.heap.size):=(by have h1:=sW.size;have h2:=zh.size;simp at h1 h2;omega:wr.heap.size+2<=w2.heap.size)
          clear qe hh)
        |(refine oQ rfl (.tmp 21) (.tmp 34) 68 rfl w.heap.size 27 i0 (.slice none 0 0) 24 yC wS px lH oz rfl _ L2.length fs rfl ((cV IC.o (fun k e=>yH.o.2.block k (aH IC.o k e).2 (by simp))).alloc _) ⟨_,0,none⟩ 1 1 [.slice (some ⟨g2,0,none⟩) (o.length+1) k2] rfl (by decide) rfl
           (eM (aX.new _ 27 _)) (fun u hu=>by simp at hu;subst hu;rfl) (by unfold maxLen;omega) (by omega) (by have:=SS.o;simp;omega) ?_
          intro v3 w3 DX G5 hv3;have G6:Hid (w3.ownsRow w.heap.size 27 1 v3 (L2.length+1) (fs++[.slice (some ⟨g2,0,none⟩) (o.length+1) k2])):=DX;have uk:Hid (ac [gb] wr w3):=(yH.o.1.trans (ac.alloc [] _ _) (by simp)).trans' (ac.grown G5 fun k hk=>by cases hk;simp);have SQ:Hid (wr.heap.size+3<=w3.heap.size):=(by have h1:=SS.o;have h2:=G5.size;simp at h2;omega:wr.heap.size+3<=w3.heap.size)
          have HV3:Hid (w3.cell? ⟨gb,k,none⟩=some vf):=by exact hv3 gb k vf rfl HFK.o
          have Ky:Hid (w3.ownsRow 0 3 1 (.slice (some ⟨g2,0,none⟩) (o.length+1) k2) (o.length+1) (o.map (Value.int .i64)++[.int .i64 x])):=(by
           refine gL (cV qq.o fun k e=>?_) (Nat.zero_le _);have h1:=aH qq.o k e;refine(G5.block k (by simp;omega) fun e2=>?_).trans ((ac.alloc [] w2 _).block k h1.2 (by simp));have:=(aH IC.o k e2.symm).2;omega:w3.ownsRow 0 3 1 (.slice (some ⟨g2,0,none⟩) (o.length+1) k2) (o.length+1) (o.map (Value.int .i64)++[.int .i64 x]))
          clear DX hv3))
     all_goals
      have G7:Hid (gC w v3 (L2++[o++[x]]) w3):=(by
       refine⟨H1.o.trans (uk.o.below (fun k hk=>by rw[List.mem_singleton.1 hk];exact YR) H1.o.size),_,by rw[List.length_append];exact G6.out,fC.snoc (Yx.o.on fun k cur e=>uk.o.block k (Array.getElem?_eq_some_iff.1 e).1 fun hm=>?_) (by rw[List.length_append,List.map_append];exact Ky.o)⟩;obtain rfl:k=gb:=by simpa using hm
       obtain⟨_,⟨e2,_⟩|⟨g,cap,Yy,e2,_,hg,_⟩⟩:=IC.o
       .cases e2
       .cases e2;rw[hg]at e;exact absurd e (by simp):gC w v3 (L2++[o++[x]]) w3)
      clear uk SQ Ky G6 HV3;go_wp2
      refine⟨⟨k+1,_,by omega,by go_num,rfl,by rw[UB.o];exact G7⟩,by simp[intOf];omega⟩
    .have e:k=M.length:=by omega
     subst e;rw[List.take_length]at Iz;have YT:Hid (fD (l.take (p+1))=M++M.map fun o=>o++[x]):=by unfold Hid;rw[oP HX.o,XY.o]
     go_wp2
     refine⟨⟨p+1,by omega,by go_num,by rw[YT.o];exact Iz⟩,by simp[intOf];omega⟩
  .have e:p=l.length:=by omega
   subst e;rw[List.take_length]at hO;go_wp2
   go_ret;rw[List.take_length];obtain⟨h1,fs,h2,h3⟩:=hO.o;exact⟨⟨_,rfl,ei.dH h2 h3⟩,h1⟩
theorem se.eq {r':List Int} (h:se b r) (h':se b r'):r=r':=by
 by_cases h0:aK b=0
 .by_cases hm:aN b=[]
  .obtain⟨m,h1,rfl⟩:=h.2.2 h0 hm;obtain⟨m',h2,rfl⟩:=h'.2.2 h0 hm;rw[KK (ck.1 h0) h1 h2]
  .rw[h.2.1 h0 hm,h'.2.1 h0 hm]
 .rw[h.1 h0,h'.1 h0]
theorem sn:bj b (2^b.places.toNat-1)=true↔aN b=[]:=by
 unfold bj;rw[decide_eq_true_iff];unfold mw aN;exact Iff.rfl
theorem A9 (m n:Nat) (hn:n<=4):∀i,0<=ak (aq m n) i/\ak (aq m n) i<=100:=fun i=>by
 unfold ak;by_cases h:i<(aq m n).length
 .rw[List.getElem?_eq_getElem h];obtain⟨q,h1,h2,_⟩:=bits_nat (List.getElem_mem h);simp only[Option.getD_some];omega
 .rw[List.getElem?_eq_none (by omega)];simp
theorem yV {N:Nat} (hN:b.places.toNat=N):dI b (aq k N) []=!bj b k:=by
 subst hN;cases h:bj b k with
 |false=>exact gM.2 (nH.2 h)
 |true=>exact iT.2 fun h2=>by rw[nH.1 h2]at h;cases h
theorem Ba (w:World) (v:Value) (b:an) (hb:aB w v b) (hs:di b):
 Calls ZP 25 #[v] w (fun e w'=>(∃u r,e=.returned (.tuple #[u,.int .i64 (aK b)])/\ae w' u r/\se b r)/\Below w.heap.size w w'):=by
 have HB:=hid hb;obtain⟨a2,c2,a3,c3,a4,c4,rfl⟩:=hb.dV;obtain⟨A1,bH⟩:=ex1 (w.alloc (.cells #[.int .i64 b.ap,.int .i64 b.places,.slice a2 b.parts.length c2,.slice a3 b.apart.length c3,.slice a4 b.aa.length c4] 26));have B1:Hid (aX A1 w.heap.size 26 #[.int .i64 b.ap,.int .i64 b.places,.slice a2 b.parts.length c2,.slice a3 b.apart.length c3,.slice a4 b.aa.length c4]):=eW bH;have HW:Hid (Below w.heap.size w A1):=(cZ bH).below (by simp) (Nat.le_refl _);have z0:=B1.o.cell 0 rfl;have z1:=B1.o.cell 1 rfl;have z2:=B1.o.cell 2 rfl;have z3:=B1.o.cell 3 rfl;have z4:=B1.o.cell 4 rfl;have hC:=eG A1 _ b (HB.o.later (Kp.of HW.o)) hs;obtain⟨s,j6⟩:=ex1 (aK b);have ls:=hid j6;rw[j6]at hC⊢;clear hb hs j6;go_enter ZF25,Tryz.ntmps25
 go_wp2_with fail
 refine hC.mono ?_;rintro e w1 ⟨⟨r,rfl,rfl⟩,bu⟩;have ew:=hid bu;have fP:=HW.t bu;clear bu bH z0 z1 z2 z3 z4 hC;by_cases h0:r=0
 .subst h0;have HV:Hid (Valid b):=ck.1 ls.o;obtain⟨N,hN⟩:∃N:Nat,b.places=N:=⟨b.places.toNat,by have:=HV.o.places;omega⟩
  have EC:1<=N/\N<=4:=by have:=HV.o.places;omega
  have GF:Hid (b.places.toNat=N):=(by omega:b.places.toNat=N)
  have EF:(2:Nat)^N<=16:=Nat.le_trans (Nat.pow_le_pow_right (by omega) EC.2) (by decide);have Iu:=Nat.two_pow_pos N;have HFL:Hid (cA N=aq (2^N-1) N):=(A5 ⟨N,by omega⟩).symm;have HF4:Hid (∀k,k<2^N->aq k N=aq k 4):=fun k hk=>Ec ⟨N,by omega⟩ ⟨k,by omega⟩ hk;have HCH:Hid (fD (cA N)=(List.range (2^N)).map fun m=>aq m N):=Hj ⟨N,by omega⟩
  have HZ:Hid (∀X:World,Below A1.heap.size A1 X->X.cell? ⟨w.heap.size,0,none⟩=some (.int .i64 b.ap)/\X.cell? ⟨w.heap.size,1,none⟩=some (.int .i64 b.places)/\X.cell? ⟨w.heap.size,2,none⟩=some (.slice a2 b.parts.length c2)/\X.cell? ⟨w.heap.size,3,none⟩=some (.slice a3 b.apart.length c3)/\X.cell? ⟨w.heap.size,4,none⟩=some (.slice a4 b.aa.length c4)):=fun X hX=>by
   have BX:=B1.o.below hX B1.o.lt;exact⟨BX.cell 0 rfl,BX.cell 1 rfl,BX.cell 2 rfl,BX.cell 3 rfl,BX.cell 4 rfl⟩
  have PI:Hid (∀(X:World) (u:Value) (k:Nat),Below w.heap.size w X->ae X u (aq k N)->Calls ZP 78 #[.agg #[.int .i64 b.ap,.int .i64 b.places,.slice a2 b.parts.length c2,.slice a3 b.apart.length c3,.slice a4 b.aa.length c4],u,.slice none 0 0] X (dU X (.bool (!bj b k)))):=fun X u k hX hu=>by
   rw[<-yV GF.o];exact th b HV.o (aq k N) (Nat.le_trans (ii k N) EC.2) (A9 k N EC.2) _ X _ u _ [] (by simp;rfl) (HB.o.later (Kp.of hX)) hu (gp X)
  obtain⟨z0,z1,z2,z3,z4⟩:=HZ.o w1 ew.o;rw[hN]at z1;have hF:=Ef w1 N (by omega);have HBN:=hid hN;clear hN;go_wp2_with fail
  refine hF.mono ?_;rintro e w2 ⟨⟨v5,rfl,hv5⟩,fk⟩;have jV:=ew.t fk;have OL:=HW.t jV.o;have Td:=hid hv5;clear fk z0 z1 z2 z3 z4 hF hv5;obtain⟨z0,z1,z2,z3,z4⟩:=HZ.o w2 jV.o;have hF:=PI.o w2 v5 (2^N-1) OL.o (by rw[<-HFL.o];exact Td.o);obtain⟨em,PY⟩:=ex1 (bj b (2^N-1));have HEM:=hid PY;rw[PY]at hF;clear PY;go_wp2_with fail
  refine hF.mono ?_;rintro e w3 ⟨rfl,qv⟩;have iP:=jV.t qv;have Cr:=HW.t iP.o;have Td:Hid (ae w3 v5 (cA N)):=Td.o.later (Kp.of qv);clear qv z0 z1 z2 z3 z4 hF;cases em with
  |false=>
   have HR:Hid (se b []):=⟨fun _=>rfl,fun _ _=>rfl,fun _ h=>by
    have h2:=sn.2 h;rw[GF.o,HEM.o]at h2;cases h2⟩
   go_wp2_with fail
   go_ret2;exact⟨⟨.slice none 0 0,[],rfl,gp _,HR.o⟩,Cr.o⟩
  |true=>
   have HME:Hid (aN b=[]):=sn.1 (by rw[GF.o];exact HEM.o);have hF:=yU w3 v5 (cA N) Td.o (by rw[sk];omega);go_wp2_with fail
   refine hF.mono ?_;rintro e wq ⟨⟨v6,rfl,hv6⟩,PP⟩;have KM:=iP.t PP;have HWq:=HW.t KM.o;have YU:Hid (ae wq v5 (aq (2^N-1) 4)):=by rw[<-HF4.o _ (by omega),<-HFL.o];exact Td.o.later (Kp.of PP)
   obtain⟨ca,cc,j7,eZ⟩:=hv6;obtain rfl:=j7.eq;have Me:Hid (bB wq (.slice ca (fD (cA N)).length cc) (fD (cA N)).length ca cc/\∀d,ca=some d->∀(j:Nat) (l:List Int),(fD (cA N))[j]?=some l->∃vf,At wq d j vf/\ae wq vf l):=⟨j7,eZ⟩
   have Pd:=j7.le;have hlen:(fD (cA N)).length=2^N:=by rw[HCH.o,List.length_map,List.length_range]
   obtain⟨T,hT⟩:=ex1 ((2:Nat)^N);have HT:=hid hT
   have YV:Hid (∀(k:Nat) (l:List Int),(fD (cA N))[k]?=some l->l=aq k N):=fun k l h=>by
    have h2:=(List.getElem?_eq_some_iff.1 h).1;rw[HCH.o,List.getElem?_map,List.getElem?_range (by rw[hlen]at h2;exact h2)]at h;exact(Option.some.inj h).symm
   have oF:Hid ((fD (cA N)).length=T):=hlen.trans hT;rw[hlen,hT]at Pd⊢;have zff:T<=16:=by omega
   have Ph:1<=T:=by omega
   clear PP j7 eZ hF hlen hT EF Iu;go_wp2_with fail
   go_loopw [7,5] (fun i u wr=>∃(k:Nat) (vb:Value),k<=T/\i=.int .i64 k/\vb=u/\Hid (Below wq.heap.size wq wr/\∃bm,jk b (T-1) k bm/\ae wr vb (aq bm 4))) (fun i _ _=>T-(intOf i).toNat)
   case atStart=>exact⟨0,_,Nat.zero_le _,rfl,rfl,Below.refl _ _,T-1,⟨Nat.le_refl _,.inl rfl,fun m hm=>by omega⟩,by rw[<-HT.o];exact YU.o⟩
   case round=>
    obtain⟨k,vb,hk,rfl,rfl,hR0⟩:=hrel;obtain⟨JN,bm,Iv,hvb⟩:=hR0.o;have hR:Hid (Below wq.heap.size wq wr/\jk b (T-1) k bm/\ae wr vb (aq bm 4)):=⟨JN,Iv,hvb⟩
    have PQ:=KM.t JN;have Mm:=HW.t PQ.o;clear hR0 JN Iv hvb;by_cases GZ:k<T
    .obtain⟨⟨gb,go,sp⟩,l,rfl,hl,vf,e0,ef⟩:=Me.o.1.elem Me.o.2 (show k<(fD (cA N)).length by rw[oF.o];exact GZ);obtain rfl:sp=none:=e0.1;obtain rfl:=YV.o k l hl;have UG:(k:Int)<(T:Int):=by omega
     have Mf:Hid (∀X:World,Below wr.heap.size wr X->X.cell? ⟨gb,go+k,none⟩=some vf/\ae X vf (aq k N)):=fun X hX=>by
      have h:=Kp.of (hR.o.1.trans (hX.mono hR.o.1.size));exact⟨(e0.later h).2,ef.later h⟩
     have H4:Hid (aq k N=aq k 4):=HF4.o k (by rw[HT.o];exact GZ);have ti:=HZ.o wr PQ.o;have V0:∀X:ah wr,X.1.cell? ⟨gb,go+k,none⟩=some vf:=fun X=>(Mf.o X.1 X.2).1;have Z0:∀X:ah wr,X.1.cell? ⟨w.heap.size,0,none⟩=some (.int .i64 b.ap):=fun X=>X.cell ti.1;have Z1:∀X:ah wr,X.1.cell? ⟨w.heap.size,1,none⟩=some (.int .i64 b.places):=fun X=>X.cell ti.2.1;have Z2:∀X:ah wr,X.1.cell? ⟨w.heap.size,2,none⟩=some (.slice a2 b.parts.length c2):=fun X=>X.cell ti.2.2.1;have Z3:∀X:ah wr,X.1.cell? ⟨w.heap.size,3,none⟩=some (.slice a3 b.apart.length c3):=fun X=>X.cell ti.2.2.2.1;have Z4:∀X:ah wr,X.1.cell? ⟨w.heap.size,4,none⟩=some (.slice a4 b.aa.length c4):=fun X=>X.cell ti.2.2.2.2
     have Bb:∀X:ah wr,Calls ZP 80 #[vf,vb] X.1 (fun e gI=>e=.returned (.bool (bq k bm))/\∃Y:ah wr,gI=Y.1):=fun X=>
      (yN X.1 vf vb (aq k 4) (aq bm 4) (by rw[<-H4.o];exact(Mf.o X.1 X.2).2) (hR.o.2.2.later X.kp)).mono fun e w' h=>⟨h.1,by obtain⟨n,hn⟩:=h.2;exact X.on (by rw[hn];exact Below.drewN (Below.refl _ _) n)⟩
     have Eg:∀X:ah wr,Calls ZP 78 #[.agg #[.int .i64 b.ap,.int .i64 b.places,.slice a2 b.parts.length c2,.slice a3 b.apart.length c3,.slice a4 b.aa.length c4],vf,.slice none 0 0] X.1 (fun e gI=>e=.returned (.bool (!bj b k))/\∃Y:ah wr,gI=Y.1):=fun X=>
      (PI.o X.1 vf k (Mm.o.trans (X.2.mono Mm.o.size)) (Mf.o X.1 X.2).2).mono fun e w' h=>⟨h.1,X.on h.2⟩
     obtain⟨sm,EY⟩:=ex1 (bq k bm);have OE:=hid EY;obtain⟨ek,YW⟩:=ex1 (bj b k);have HEK:=hid YW;rw[EY]at Bb;rw[YW]at Eg;clear hl e0 ef ti EY YW;cases sm with
     |false=>
      go_wp2_with fail
      refine aj (by kernel_rfl) (by kernel_rfl) ?_;repeat(go_big_quiet_step (first|(go_at_call 80;exact Bb _)))
      refine wpQuiet_nil ?_;rintro _ ⟨X,rfl⟩;have Te:Hid (Below wq.heap.size wq X.1):=hR.o.1.trans (X.2.mono hR.o.1.size);clear Z0 Z1 Z2 Z3 Z4;clear V0 Bb Eg;go_wp2_with fail
      refine⟨⟨k+1,_,by omega,by go_num,rfl,Te.o,bm,hR.o.2.1.skip (.inl OE.o),hR.o.2.2.later X.kp⟩,by simp[intOf];omega⟩
     |true=>
      cases ek with
      |false=>
       go_wp2_with fail
       refine aj (by kernel_rfl) (by kernel_rfl) ?_;repeat(go_big_quiet_step (first|(go_at_call 80;exact Bb _)|(go_at_call 78;exact Eg _)))
       refine wpQuiet_nil ?_;rintro _ ⟨X,rfl⟩;have Te:Hid (Below wq.heap.size wq X.1):=hR.o.1.trans (X.2.mono hR.o.1.size);clear Z0 Z1 Z2 Z3 Z4;clear V0 Bb Eg;go_wp2_with fail
       refine⟨⟨k+1,_,by omega,by go_num,rfl,Te.o,bm,hR.o.2.1.skip (.inr HEK.o),hR.o.2.2.later X.kp⟩,by simp[intOf];omega⟩
      |true=>
       go_wp2_with fail
       refine aj (by kernel_rfl) (by kernel_rfl) ?_;repeat(go_big_quiet_step (first|(go_at_call 80;exact Bb _)|(go_at_call 78;exact Eg _)))
       refine wpQuiet_nil ?_;rintro _ ⟨X,rfl⟩;have Te:Hid (Below wq.heap.size wq X.1):=hR.o.1.trans (X.2.mono hR.o.1.size);clear Z0 Z1 Z2 Z3 Z4;have cR:=V0 X;clear V0 Bb Eg;go_wp2_with fail
       refine⟨⟨k+1,_,by omega,by go_num,rfl,Te.o,k,hR.o.2.1.take (by omega) (by omega) OE.o HEK.o,by rw[<-H4.o];exact(Mf.o X.1 X.2).2⟩,by simp[intOf];omega⟩
    .have e:k=T:=by omega
     subst e;have HWM:Hid (DU b bm):=rR HV.o HME.o (by rw[GF.o,HT.o];exact hR.o.2.1);go_wp2
     go_ret2;exact⟨⟨_,_,rfl,hR.o.2.2,fun h=>absurd ls.o h,fun _ h=>absurd HME.o h,fun _ _=>⟨bm,HWM.o,rfl⟩⟩,Mm.o⟩
 .have H0:Hid (¬r=0):=h0;have HR:Hid (se b []):=⟨fun _=>rfl,fun h=>absurd (ls.o.symm.trans h) h0,fun h=>absurd (ls.o.symm.trans h) h0⟩
  go_wp2_with fail
  go_ret2;exact⟨⟨.slice none 0 0,[],rfl,gp _,HR.o⟩,fP.o⟩
end Go.Proofs.Cz
