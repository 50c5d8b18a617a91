/- A part. Conditions: none. -/
import Derived.Test.YtehbindidbgacaaGreatDoorT20
import Derived.Test.YtehbindidbgacaaGreatDoorT41
set_option linter.all false
set_option maxHeartbeats 8000000
set_option maxRecDepth 100000
namespace Go.Proofs.Cz
open Go.RowKit
def Ms (w:World) (L:List (Nat->Int)) (e:Ending) (w':World):Prop:=e=.returned (.tuple #[.int .i64 L.length,.int .i64 0])/\Below w.heap.size w w'
theorem QU (w:World) (a b:Int):Calls ZP 41 #[.int .i64 a,.int .i64 b] w (cD w (.agg #[.int .i64 a,.int .i64 b])):=by
 obtain⟨A1,ba⟩:∃A,w.alloc (.cells #[.int .i64 a,.int .i64 b] 43)=A:=⟨_,rfl⟩
 have B1:=gq ba;have HW:Hid (Below w.heap.size w A1):=(dV ba).below (by simp) (Nat.le_refl _);have z0:A1.cell? ⟨w.heap.size,0,none⟩=some (.int .i64 a):=B1.cell 0 rfl;have z1:A1.cell? ⟨w.heap.size,1,none⟩=some (.int .i64 b):=B1.cell 1 rfl;clear B1;go_enter ZF41,Tryz.ntmps41
 go_wp2
 refine bodyPost_ret (v:=.agg #[.int .i64 a,.int .i64 b]) ?_ rfl ⟨rfl,HW.out⟩;rw[dA rfl];go_simp
theorem tZ (w:World) (v:Value) (b:an) (hb:ap w v b) (hv:Valid b) (hc:Chk w):Calls ZP 10 #[v] w (Ms w (aD b (aF b))):=by
 have HB:Hid (ap w v b):=hb;have HV:Hid (Valid b):=hv;have HC:Hid (Chk w):=hc;have tV:Hid (gW w v (aF b)):=fk hb hv;obtain⟨a2,c2,a3,c3,a4,c4,rfl⟩:=hb.et;obtain⟨A1,ba⟩:∃A,w.alloc (.cells #[.int .i64 b.ah,.int .i64 b.places,.slice a2 b.parts.length c2,.slice a3 b.apart.length c3,.slice a4 b.aa.length c4] 26)=A:=⟨_,rfl⟩
 have B1:Hid (aC A1 w.heap.size 26 #[.int .i64 b.ah,.int .i64 b.places,.slice a2 b.parts.length c2,.slice a3 b.apart.length c3,.slice a4 b.aa.length c4]):=gq ba;have HW:Hid (Below w.heap.size w A1):=(dV ba).below (by simp) (Nat.le_refl _);have z0:=B1.out.cell 0 rfl;have z1:=B1.out.cell 1 rfl;have z2:=B1.out.cell 2 rfl;have z3:=B1.out.cell 3 rfl;have z4:=B1.out.cell 4 rfl;clear hb hv hc;go_enter ZF10,Tryz.ntmps10
 go_wp2_with(first
  |(go_at_call 44
    refine(nf A1 _ b (HB.out.later (Kp.of HW.out)) HV.out (HC.out.later HW.out)).mono ?_;rintro e w1 ⟨⟨r,rfl,rfl⟩,bi⟩;have db:Hid (Below A1.heap.size A1 w1):=bi;have tT:Hid (Below w.heap.size w w1):=HW.out.trans (bi.mono HW.out.size);clear bi z0 z1 z2 z3 z4;have X1:=B1.out.below db.out B1.out.lt;have z0:=X1.cell 0 rfl;have z1:=X1.cell 1 rfl;have z2:=X1.cell 2 rfl;have z3:=X1.cell 3 rfl;have z4:=X1.cell 4 rfl;clear X1)
  |(go_at_call 45
    refine(wS _ b a2 c2 _ _ (aF b) (HB.out.later (Kp.of tT.out)) HV.out (fun X t hX=>tV.out X t (tT.out.trans (hX.mono tT.out.size)))).mono ?_;rintro e w2 ⟨⟨r,rfl,hr⟩,fP⟩;obtain⟨a,cap,rfl⟩:=dM hr;have gE:Hid (Below w.heap.size w w2):=tT.out.trans (fP.mono tT.out.size);clear hr fP))
 go_ret2;exact⟨rfl,gE.out⟩
end Go.Proofs.Cz
namespace Go.Proofs.Cz
open Go.Conc Go.av
def S1 (n:Nat):Bool:=(Nat.blt n 168&&!([0,1,2,7,37,85,46,139,140,141,142,143,144,145,146,147,148,149,150,151,152,153,154,163,164,165].contains n))||Nat.beq n JK||Nat.beq n (JK+8)
theorem QW:bc ZP:=fun t i v h1 h2=>Cw.hQ t i v h1 h2
theorem Jm:aL ZP:=fun t i u h=>Cw.dt t i u h
noncomputable def nX (lo n:Nat):Bool:=(List.range n).all fun i=>!S1 (lo+i)||Nat.beq (lo+i) 11||(match Tryz.funcs[lo+i]? with
 |some fn=>(match fn.body with|some c=>codeOk ZP S1 c&&!(fn.name== "runtime.NumGoroutine")|none=>false)
 |none=>false)
theorem ZD:nX 0 40=true:=by kernel_rfl
theorem ZE:nX 40 60=true:=by kernel_rfl
theorem ZF:nX 100 67=true:=by kernel_rfl
theorem rV {lo n i:Nat} (h:nX lo n=true) (h1:lo<=i) (h2:i<lo+n) (hs:S1 i=true) (qr:i≠11):∃fn c,Tryz.funcs[i]? =some fn/\fn.body=some c/\codeOk ZP S1 c=true/\fn.name≠ "runtime.NumGoroutine" :=by
 have:=List.all_eq_true.1 h (i-lo) (by simp;omega);rw[show lo+(i-lo)=i by omega,hs,show Nat.beq i 11=false by cases hq:Nat.beq i 11 with|false=>rfl|true=>exact absurd (Nat.eq_of_beq_eq_true hq) qr]at this;simp only[Bool.not_true,Bool.false_or]at this;cases hf:Tryz.funcs[i]? with
 |none=>rw[hf]at this;cases this
 |some fn=>
  rw[hf]at this;simp only at this;cases tF:fn.body with
  |none=>rw[tF]at this;cases this
  |some c=>
   rw[tF]at this;simp only[Bool.and_eq_true,Bool.not_eq_true',beq_eq_false_iff_ne]at this;exact⟨fn,c,rfl,tF,this.1,this.2⟩
theorem DK {f:Nat} (h:S1 f=true):f<168\/f=JK\/f=JK+8:=by
 simp only[S1,Bool.or_eq_true,Bool.and_eq_true]at h;rcases h with(⟨h,_⟩|h)|h
 .exact .inl (by simpa using h)
 .exact .inr (.inl (Nat.eq_of_beq_eq_true h))
 .exact .inr (.inr (Nat.eq_of_beq_eq_true h))
theorem N6 {f:Nat} (h1:168<=f) (h2:f≠JK) (h3:f≠JK+8):S1 f=false:=by
 cases h:S1 f with
 |false=>rfl
 |true=>rcases DK h with h|h|h<;>omega
theorem vr:ZP.funcs.size=167:=by rw[Tz.od];unfold Tz.funcs;rw[Array.size_setIfInBounds,Array.size_setIfInBounds,Tz.size]
theorem sO:ZP.globals.size=1:=by kernel_rfl
def X1:Code->Code|.seq a _=>a|_=>.skip
def X2:Code->Code|.seq _ b=>b|_=>.skip
noncomputable def dP:Code:=(Tryz.f11.body).getD .skip
theorem FK:dP=.seq (X1 dP) (.seq (X1 (X2 dP)) (.seq (X1 (X2 (X2 dP))) (.seq (X1 (X2 (X2 (X2 dP)))) (X2 (X2 (X2 (X2 dP))))))):=rfl
theorem Jn:Tz.cut (.refuse "") dP=.seq (X1 dP) (.seq (X1 (X2 dP)) (.seq (X1 (X2 (X2 dP))) (.seq (X1 (X2 (X2 (X2 dP)))) (.refuse "")))):=rfl
theorem Mt:(codeOk ZP S1 (X1 dP)&&codeOk ZP S1 (X1 (X2 dP))&&codeOk ZP S1 (X1 (X2 (X2 dP)))&&codeOk ZP S1 (X1 (X2 (X2 (X2 dP)))))=true:=by kernel_rfl
theorem zb1 {H:Code->Code->Prop} (hn:∀a b,¬H a b):CR ZP S1 H (Tz.cut (.refuse "") dP) dP:=by
 have h:=Mt;simp only[Bool.and_eq_true]at h;obtain⟨⟨⟨h1,h2⟩,h3⟩,h4⟩:=h;rw[Jn];refine cast (congrArg (CR ZP S1 H _) FK.symm) ?_;exact .seq (.same h1 (.inr hn)) (.seq (.same h2 (.inr hn)) (.seq (.same h3 (.inr hn)) (.seq (.same h4 (.inr hn)) (.refuse _ _ hn))))
theorem DO:Closed ZP Tryz.funcs S1 JJ where
 hQ:=QW
 dt:=Jm
 SD:=fun _=>by kernel_rfl
 size:=by rw[vr,Tz.size]
 xi:=fun f hf=>by
  rw[vr,sO];refine⟨fun _=>?_,fun _ a b h=>h⟩;have hJ:JK=1000000:=rfl;rcases DK hf with h|h|h<;>refine N6 ?_ ?_ ?_<;>omega
 body:=fun f hf=>by
  have hJ:JK=1000000:=rfl;rcases DK hf with h|h|h
  .by_cases h9:f=167
   .subst h9;exact .inl ⟨Array.getElem?_eq_none (by rw[vr];omega),Array.getElem?_eq_none (by rw[Tz.size];omega)⟩
   .by_cases qr:f=11
    .subst qr;exact .inr ⟨Tz.f11,Tryz.f11,_,dP,ZF11,Tryz.func11,rfl,rfl,zb1 fun _ _ hh=>hh,by decide,by decide,rfl,rfl⟩
    obtain⟨fn,c,h1,h2,h3,h4⟩:∃fn c,Tryz.funcs[f]? =some fn/\fn.body=some c/\codeOk ZP S1 c=true/\fn.name≠ "runtime.NumGoroutine" :=by
     by_cases l1:f<40
     .exact rV ZD (by omega) (by omega) hf qr
     .by_cases l2:f<100
      .exact rV ZE (by omega) (by omega) hf qr
      .exact rV ZF (by omega) (by omega) hf qr
    have qq:7≠f:=fun e=>by subst e;cases hf
    exact .inr ⟨fn,fn,c,c,(Tz.same f ⟨qq,Ne.symm qr⟩).trans h1,h1,h2,h2,.same h3 (.inr fun _ _ hh=>hh),h4,h4,rfl,rfl⟩
  .exact .inl ⟨Array.getElem?_eq_none (by rw[vr];omega),Array.getElem?_eq_none (by rw[Tz.size];omega)⟩
  .exact .inl ⟨Array.getElem?_eq_none (by rw[vr];omega),Array.getElem?_eq_none (by rw[Tz.size];omega)⟩
theorem Mw:S1 (ZP.funcs.size+ZP.globals.size)=false:=by rw[vr,sO];exact N6 (by omega) (by decide) (by decide)
theorem VK:ae ZP Tryz.funcs=Tryz.prog:=rfl
end Go.Proofs.Cz
