/- A part. Conditions: none. -/
import Derived.Test.YtehbindidbgacaaGreatDoorT22
import Derived.Test.YtehbindidbgacaaGreatDoorT46
set_option linter.all false
set_option maxHeartbeats 8000000
set_option maxRecDepth 100000
namespace Go.Proofs.Cz
open Go.RowKit
theorem iB (w:World):Calls ZP 7 #[] w (iw w (.bool true)):=by
 go_enter ZF7,Tz.ntmps7
 unfold Tz.stub;go_wp2
 go_ret;exact⟨rfl,Below.refl _ _⟩
def sumTo (f:Int->Nat) (l:List Int) (n:Nat):Nat:=((l.take n).map f).sum
theorem sumTo_le (f:Int->Nat) (l:List Int) (n:Nat):sumTo f l n<=(l.map f).sum:=by
 have h:l.map f=(l.take n).map f++(l.drop n).map f:=by rw[<-List.map_append,List.take_append_drop]
 rw[h,List.sum_append];exact Nat.le_add_right _ _
end Go.Proofs.Cz
namespace Go.Proofs.Cz
open Go.RowKit Go.Shelf
theorem Tm (w:World) (v:Value) (b:aW) (p:Int) (hp0:0<=p) (hp1:p<256) (hb:az w v b) (hc:m8 w):Calls ZP 4 #[v,.int .u8 p] w fun e _=>e=.returned (.bool true):=by
 have HB:Hid (az w v b):=hb;have HC:Hid (m8 w):=hc;obtain⟨a2,c2,a3,c3,a4,c4,rfl⟩:=hb.kL;obtain⟨A1,dE⟩:∃A,w.alloc (.cells #[.int .i64 b.ap,.int .i64 b.places,.slice a2 b.parts.length c2,.slice a3 b.apart.length c3,.slice a4 b.ah.length c4] 26)=A:=⟨_,rfl⟩
 have B1:Hid (bc A1 w.heap.size 26 #[.int .i64 b.ap,.int .i64 b.places,.slice a2 b.parts.length c2,.slice a3 b.apart.length c3,.slice a4 b.ah.length c4]):=iQ dE;have HW:Hid (Below w.heap.size w A1):=(eR dE).below (by simp) (Nat.le_refl _)
 have HZ:Hid (∀X:World,Below A1.heap.size A1 X->X.cell? ⟨w.heap.size,0,none⟩=some (.int .i64 b.ap)/\X.cell? ⟨w.heap.size,1,none⟩=some (.int .i64 b.places)/\X.cell? ⟨w.heap.size,2,none⟩=some (.slice a2 b.parts.length c2)/\X.cell? ⟨w.heap.size,3,none⟩=some (.slice a3 b.apart.length c3)/\X.cell? ⟨w.heap.size,4,none⟩=some (.slice a4 b.ah.length c4)):=fun X hX=>by
  have BX:=B1.out.below hX B1.out.lt;exact⟨BX.cell 0 rfl,BX.cell 1 rfl,BX.cell 2 rfl,BX.cell 3 rfl,BX.cell 4 rfl⟩
 obtain⟨z0,z1,z2,z3,z4⟩:=HZ.out A1 (Below.refl _ _);have hF:=FM A1 _ b (HB.out.later (Kp.of HW.out));clear hc hb;go_enter ZF4,Tryz.ntmps4
 go_wp2_with fail
 refine hF.mono ?_;rintro e w1 ⟨⟨r,rfl,hr⟩,cO⟩;have nK:Hid (Below A1.heap.size A1 w1):=cO;have Ig:Hid (Below w.heap.size w w1):=HW.out.trans (cO.mono HW.out.size);clear cO dE z0 z1 z2 z3 z4 hF;cases r with
 |false=>
  clear hr;go_wp2_with(go_at_call 7;refine(iB _).mono ?_;rintro e w2 ⟨rfl,_⟩)
  go_ret;rfl
 |true=>
  obtain⟨_,hv⟩:=hr rfl;have HV:Hid (Valid b):=hv;have Sz:=hv.parts.many;obtain⟨q,hq⟩:∃q:Nat,p%(b.parts.length:Int)=(q:Int):=⟨(p%b.parts.length).toNat,by have:=Int.emod_nonneg p (show(b.parts.length:Int)≠0 by omega);omega⟩
  have Yk:(q:Int)<b.parts.length:=by rw[<-hq];exact Int.emod_lt_of_pos p (by omega)
  have Kw:(bU b (aO b)).length<=1024:=iy hv _;obtain⟨L,vJ⟩:∃L,bU b (aO b)=L:=⟨_,rfl⟩
  have HA:=Ge w1 _ b (HB.out.later (Kp.of Ig.out)) hv (HC.out.later Ig.out)
  have Vr:Hid (∀X:World,Below w.heap.size w X->Calls ZP 10 #[.agg #[.int .i64 b.ap,.int .i64 b.places,.slice a2 b.parts.length c2,.slice a3 b.apart.length c3,.slice a4 b.ah.length c4]] X (td X L)):=fun X hX=>by
   have h:=kg X _ b (HB.out.later (Kp.of hX)) HV.out (HC.out.later hX);rw[vJ]at h;exact h
  have Vs:Hid (∀(X:World) (i:Nat),Below w.heap.size w X->i<b.parts.length->Calls ZP 26 #[.agg #[.int .i64 b.ap,.int .i64 b.places,.slice a2 b.parts.length c2,.slice a3 b.apart.length c3,.slice a4 b.ah.length c4],.int .i64 i] X (iA X L i)):=fun X i hX hi=>by
   have h:=xK X _ b i (HB.out.later (Kp.of hX)) HV.out (HC.out.later hX) hi;rw[vJ]at h;exact h
  rw[vJ]at Kw HA;unfold Du at HA;obtain⟨k,hk⟩:∃k,(bJ L b.parts.length).1=k:=⟨_,rfl⟩
  obtain⟨left,im⟩:∃left:Nat,(bJ L b.parts.length).2=left:=⟨_,rfl⟩
  rw[hk,im]at HA;obtain⟨k1,k2,k3,k4,k5⟩:=vy (L:=L) (n:=b.parts.length) (by omega) (k:=k) (left:=(left:Int)) hk.symm (by rw[im]);have NZ:Hid ((k<0->(left:Int)=L.length)/\(0<=k->(left:Int)<L.length/\(left:Int)=(cw L k.toNat:Nat))):=⟨k3,k4⟩
  have Zn:Hid (∀i:Nat,i<b.parts.length->(left:Int)<=(cw L i:Nat)/\(0<=k->(i:Int)<k->(left:Int)<(cw L i:Nat))):=k5;obtain⟨z0,z1,z2,z3,z4⟩:=HZ.out w1 nK.out;have HQ:Hid (p%(b.parts.length:Int)=(q:Int)):=hq;clear hr hv vJ hk im k5 k3 k4 hq
  go_upto_region 4 with(go_at_call 25
                        refine HA.mono ?_;rintro e w2 ⟨⟨hL,rfl⟩|⟨hL,rfl⟩,iW⟩
                        all_goals
                         have iz:Hid (Below A1.heap.size A1 w2):=nK.out.trans (iW.mono nK.out.size);have yV:Hid (Below w.heap.size w w2):=HW.out.trans (iz.out.mono HW.out.size);clear iW HA z0 z1 z2 z3 z4;obtain⟨z0,z1,z2,z3,z4⟩:=HZ.out w2 iz.out)
  .subst hL
   go_wp2_with(first
    |(go_at_call 10
      refine(Vr.out w2 yV.out).mono ?_;rintro e w3 ⟨rfl,Kq⟩;clear Kq z0 z1 z2 z3 z4)
    |(go_at_call 7;refine(iB _).mono ?_;rintro e w4 ⟨rfl,_⟩))
   go_ret;rfl
  .have eV:0<L.length:=List.length_pos_iff.2 hL;have Vt:(0:Int)<(L.length:Int):=by omega
   go_upto_region 9 with(go_at_call 10
                         refine(Vr.out w2 yV.out).mono ?_;rintro e w3 ⟨rfl,Kq⟩;have xB:Hid (Below A1.heap.size A1 w3):=iz.out.trans (Kq.mono iz.out.size);have Zo:Hid (Below w.heap.size w w3):=HW.out.trans (xB.out.mono HW.out.size);clear Kq z0 z1 z2 z3 z4;obtain⟨z0,z1,z2,z3,z4⟩:=HZ.out w3 xB.out)
   have pT:=kH k (-1) ((b.parts.length:Int)-1) w3;rw[decide_eq_true k1,decide_eq_true k2,Bool.true_and]at pT;have Kj:=Zn.out q (by omega);have Lr:=Vs.out w3 q Zo.out (by omega);obtain⟨mq,Pw⟩:∃mq,cw L q=mq:=⟨_,rfl⟩
   rw[Pw]at Kj;unfold iA at Lr;rw[Pw]at Lr;have tA:=Kj.1;have Lc:=Kj.2
   have J7:mq<=1024:=by
    subst Pw;rcases(vr L q).2 with e|⟨c,e⟩
    .omega
    .have:(cv L q c).length<=L.length:=List.length_filter_le _ _;omega
   clear Kj Pw;by_cases pg:0<=k
   .obtain⟨kn,rfl⟩:∃kn:Nat,k=(kn:Int):=⟨k.toNat,by omega⟩
    obtain⟨k6,k7⟩:=NZ.out.2 pg;rw[Int.toNat_natCast]at k7;have pv:kn<b.parts.length:=by omega
    have Tn:Hid (∀X:World,Below w.heap.size w X->Calls ZP 26 #[.agg #[.int .i64 b.ap,.int .i64 b.places,.slice a2 b.parts.length c2,.slice a3 b.apart.length c3,.slice a4 b.ah.length c4],.int .i64 kn] X (iA X L kn)):=fun X hX=>Vs.out X kn hX pv;have Zp:Hid (cw L kn=left):=(by omega:cw L kn=left)
    have k8:¬(kn:Int)<0:=by omega
    have k9:¬(L.length:Int)<=(left:Int):=by omega
    have m1:¬(mq:Int)<(left:Int):=by omega
    have Zq:Hid ((mq:Int)=(left:Int)->¬(q:Int)<(kn:Int)):=fun h1 h2=>by have:=Lc pg h2;omega
    clear k7 Lc tA;go_upto_region 12 with(go_at_call 20;refine pT.mono ?_;rintro e w' ⟨rfl,To⟩;obtain rfl:w3=w':=To.symm)
    rw[HQ.out]
    go_upto_region 13 with(go_at_call 26
                           refine Lr.mono ?_;rintro e w4 ⟨⟨Tp,rfl⟩|⟨_,rfl⟩,qK⟩
                           .exact absurd Tp hL
                           have Pr:Hid (Below A1.heap.size A1 w4):=xB.out.trans (qK.mono xB.out.size);have Zr:Hid (Below w.heap.size w w4):=HW.out.trans (Pr.out.mono HW.out.size);clear qK z0 z1 z2 z3 z4 Lr pT;obtain⟨z0,z1,z2,z3,z4⟩:=HZ.out w4 Pr.out)
    have AE:=Tn.out w4 Zr.out;unfold iA at AE;rw[Zp.out]at AE;by_cases he:(mq:Int)=(left:Int)
    .have h5:=Zq.out he;have h6:(0:Int)<=(kn:Int):=pg
     go_wp2_with(first
      |(go_at_call 26
        refine AE.mono ?_;rintro e w5 ⟨⟨NS,rfl⟩|⟨_,rfl⟩,xt⟩
        .exact absurd NS hL
        clear xt z0 z1 z2 z3 z4 AE)
      |(go_at_call 7;refine(iB _).mono ?_;rintro e w6 ⟨rfl,_⟩))
     go_ret;rfl
    .go_wp2_with(first
      |(go_at_call 26
        refine AE.mono ?_;rintro e w5 ⟨⟨NS,rfl⟩|⟨_,rfl⟩,xt⟩
        .exact absurd NS hL
        clear xt z0 z1 z2 z3 z4 AE)
      |(go_at_call 7;refine(iB _).mono ?_;rintro e w6 ⟨rfl,_⟩))
     go_ret;rfl
   .have k8:k<0:=by omega
    have k9:=NZ.out.1 k8;have UC:¬0<=k:=pg;have m1:¬(mq:Int)<(left:Int):=by omega
    clear Lc tA pg;go_upto_region 12 with(go_at_call 20;refine pT.mono ?_;rintro e w' ⟨rfl,To⟩;obtain rfl:w3=w':=To.symm)
    rw[HQ.out]
    go_wp2_with(first
     |(go_at_call 26
       refine Lr.mono ?_;rintro e w4 ⟨⟨Tp,rfl⟩|⟨_,rfl⟩,qK⟩
       .exact absurd Tp hL
       clear qK z0 z1 z2 z3 z4 Lr pT)
     |(go_at_call 7;refine(iB _).mono ?_;rintro e w6 ⟨rfl,_⟩))
    all_goals
     go_ret;rfl
end Go.Proofs.Cz
namespace Go.Proofs.Cz
open Go.Conc Go.aB
def S1 (n:Nat):Bool:=(Nat.blt n 168&&!([0,1,2,3,7,37,11,85,46,139,140,141,142,143,144,145,146,147,148,149,150,151,152,153,154,163,164,165].contains n))||Nat.beq n JK||Nat.beq n (JK+8)
theorem KJ:au ZP:=fun t i v h1 h2=>Cw.fy t i v h1 h2
theorem Dw:ai ZP:=fun t i u h=>Cw.cR t i u h
noncomputable def lA (lo n:Nat):Bool:=(List.range n).all fun i=>!S1 (lo+i)||(match Tryz.funcs[lo+i]? with
 |some fn=>(match fn.body with|some c=>codeOk ZP S1 c&&!(fn.name== "runtime.NumGoroutine")|none=>false)
 |none=>false)
theorem Q6:lA 0 40=true:=by kernel_rfl
theorem Q7:lA 40 60=true:=by kernel_rfl
theorem Q8:lA 100 67=true:=by kernel_rfl
theorem oJ {lo n i:Nat} (h:lA lo n=true) (h1:lo<=i) (h2:i<lo+n) (hs:S1 i=true):∃fn c,Tryz.funcs[i]? =some fn/\fn.body=some c/\codeOk ZP S1 c=true/\fn.name≠ "runtime.NumGoroutine" :=by
 have:=List.all_eq_true.1 h (i-lo) (by simp;omega);rw[show lo+(i-lo)=i by omega,hs]at this;simp only[Bool.not_true,Bool.false_or]at this;cases hf:Tryz.funcs[i]? with
 |none=>rw[hf]at this;cases this
 |some fn=>
  rw[hf]at this;simp only at this;cases pJ:fn.body with
  |none=>rw[pJ]at this;cases this
  |some c=>
   rw[pJ]at this;simp only[Bool.and_eq_true,Bool.not_eq_true',beq_eq_false_iff_ne]at this;exact⟨fn,c,rfl,pJ,this.1,this.2⟩
theorem yX {f:Nat} (h:S1 f=true):f<168\/f=JK\/f=JK+8:=by
 simp only[S1,Bool.or_eq_true,Bool.and_eq_true]at h;rcases h with(⟨h,_⟩|h)|h
 .exact .inl (by simpa using h)
 .exact .inr (.inl (Nat.eq_of_beq_eq_true h))
 .exact .inr (.inr (Nat.eq_of_beq_eq_true h))
theorem Ih {f:Nat} (h1:168<=f) (h2:f≠JK) (h3:f≠JK+8):S1 f=false:=by
 cases h:S1 f with
 |false=>rfl
 |true=>rcases yX h with h|h|h<;>omega
theorem re:ZP.funcs.size=167:=by rw[Tz.oP];unfold Tz.funcs;rw[Array.size_setIfInBounds,Tz.size]
theorem pf:ZP.globals.size=1:=by kernel_rfl
theorem yY:Closed ZP Tryz.funcs S1 DR where
 fy:=KJ
 cR:=Dw
 LB:=fun _=>by kernel_rfl
 size:=by rw[re,Tz.size]
 AM:=fun f hf=>by
  rw[re,pf];refine⟨fun _=>?_,fun _ a b h=>h⟩;have hJ:JK=1000000:=rfl;rcases yX hf with h|h|h<;>refine Ih ?_ ?_ ?_<;>omega
 body:=fun f hf=>by
  have hJ:JK=1000000:=rfl;rcases yX hf with h|h|h
  .by_cases h9:f=167
   .subst h9;exact .inl ⟨Array.getElem?_eq_none (by rw[re];omega),Array.getElem?_eq_none (by rw[Tz.size];omega)⟩
   .obtain⟨fn,c,h1,h2,h3,h4⟩:∃fn c,Tryz.funcs[f]? =some fn/\fn.body=some c/\codeOk ZP S1 c=true/\fn.name≠ "runtime.NumGoroutine" :=by
     by_cases l1:f<40
     .exact oJ Q6 (by omega) (by omega) hf
     .by_cases l2:f<100
      .exact oJ Q7 (by omega) (by omega) hf
      .exact oJ Q8 (by omega) (by omega) hf
    have nj:7≠f:=fun e=>by subst e;cases hf
    exact .inr ⟨fn,fn,c,c,(Tz.same f nj).trans h1,h1,h2,h2,.same h3 (.inr fun _ _ hh=>hh),h4,h4,rfl,rfl⟩
  .exact .inl ⟨Array.getElem?_eq_none (by rw[re];omega),Array.getElem?_eq_none (by rw[Tz.size];omega)⟩
  .exact .inl ⟨Array.getElem?_eq_none (by rw[re];omega),Array.getElem?_eq_none (by rw[Tz.size];omega)⟩
theorem Gg:S1 (ZP.funcs.size+ZP.globals.size)=false:=by rw[re,pf];exact Ih (by omega) (by decide) (by decide)
theorem Oa:aa ZP Tryz.funcs=Tryz.prog:=rfl
end Go.Proofs.Cz
