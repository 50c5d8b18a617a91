/- A part. Conditions: none. -/
import Derived.Test.YtehbindidbgacaaGreatDoorT16
import Derived.Test.YtehbindidbgacaaGreatDoorT17
import Derived.Test.YtehbindidbgacaaGreatDoorT18
import Derived.Test.YtehbindidbgacaaGreatDoorT19
import Derived.Test.YtehbindidbgacaaGreatDoorT20
set_option linter.all false
namespace Go.Proofs.Cw
open Go.Ev
variable {H:Hp} {T:List Value} {cs:List Frame} {k:List Item} {m0:Machine}
set_option maxRecDepth 1000000
def CH (k:Nat):Bool:=Nat.beq k 14||Nat.beq k 16
noncomputable def sF:Nat->Bool
 |0=>true
 |n+1=>sF n&&dv WP Sb (bk n) (CH n)
theorem Ae:sF 21=true:=by kernel_rfl
theorem qL:∀(n k:Nat),sF n=true->k<n->dv WP Sb (bk k) (CH k)=true
 |0,k,_,h=>by omega
 |n+1,k,h,hk=>by
  simp only[sF,Bool.and_eq_true]at h;by_cases e:k=n
  .subst e;exact h.2
  .exact qL n k h.1 (by omega)
theorem Af:(dv WP Sb CE false&&dv WP Sb CF true&&dv WP Sb CG false)=true:=by kernel_rfl
noncomputable def mt:Frame:=Frame.enter WP 7 #[] .normal
def iM (cs:List Frame) (m0:Machine) (c:Code) (k:List Item) (T:List Value) (H:Hp):Prop:=
 (∃tm w,Steps WP m0 (lone (a8 mt tm [] (.code c::k)) cs w)/\Sf WP Sb H T tm w)\/fp WP uM mt [] cs m0
theorem iM.O7 {id:Nat} {ops:Array Oper} {d:Bool} {T1:List Value} {n1:Nat} {l1:List (Nat×Obj)} (h:iM cs m0 (.region id ops d) k T H) (hs:dv WP Sb ops d=true) (hc:lz (ba WP (lD 2000) ops d T H) T1 n1 l1=true):
 (∃tm w,Steps WP m0 (lone (a8 mt tm [] k) cs w)/\Sf WP Sb (fq n1 l1) T1 tm w)\/fp WP uM mt [] cs m0:=by
 rcases h with⟨tm,w,h1,h2⟩|h
 .rcases Qs sx (JW 2000) hs hc h2 id mt k cs with⟨br,w',h3,h4⟩|h
  .exact .inl ⟨br,w',h1.trans h3,h4⟩
  .exact .inr (.of_steps h1 h)
 .exact .inr h
theorem iM.seq {a b:Code} (h:iM cs m0 (.seq a b) k T H):iM cs m0 a (.code b::k) T H:=by
 rcases h with⟨tm,w,h1,h2⟩|h
 .exact .inl ⟨tm,w,h1.trans (.one cV),h2⟩
 .exact .inr h
theorem iM.next {cs:List Frame} {m0:Machine} {k:Nat} {T T1:List Value} {H:Hp} {n1:Nat} {l1:List (Nat×Obj)} {id:Nat} {d:Bool} (h:iM cs m0 (av k) [] T H) (e:av k=.seq (.region id (bk k) d) (av (k+1))) (hs:dv WP Sb (bk k) d=true)
 (hc:lz (ba WP (lD 2000) (bk k) d T H) T1 n1 l1=true):iM cs m0 (av (k+1)) [] T1 (fq n1 l1):=by
 rw[e]at h;exact h.seq.O7 hs hc
theorem e0:av 0=.seq (.region 0 (bk 0) false) (av 1):=by kernel_rfl
theorem e1:av 1=.seq (.region 1 (bk 1) false) (av 2):=by kernel_rfl
theorem e2:av 2=.seq (.region 2 (bk 2) false) (av 3):=by kernel_rfl
theorem e3:av 3=.seq (.region 3 (bk 3) false) (av 4):=by kernel_rfl
theorem e4:av 4=.seq (.region 4 (bk 4) false) (av 5):=by kernel_rfl
theorem e5:av 5=.seq (.region 5 (bk 5) false) (av 6):=by kernel_rfl
theorem e6:av 6=.seq (.region 6 (bk 6) false) (av 7):=by kernel_rfl
theorem e7:av 7=.seq (.region 7 (bk 7) false) (av 8):=by kernel_rfl
theorem e8:av 8=.seq (.region 8 (bk 8) false) (av 9):=by kernel_rfl
theorem e9:av 9=.seq (.region 9 (bk 9) false) (av 10):=by kernel_rfl
theorem lO:av 10=.seq (.region 10 (bk 10) false) (av 11):=by kernel_rfl
theorem yI:av 11=.seq (.region 11 (bk 11) false) (av 12):=by kernel_rfl
theorem XT:av 12=.seq (.region 12 (bk 12) false) (av 13):=by kernel_rfl
theorem XU:av 13=.seq (.region 13 (bk 13) false) (av 14):=by kernel_rfl
theorem XV:av 14=.seq (.region 14 (bk 14) true) (av 15):=by kernel_rfl
theorem XW:av 15=.seq (.region 15 (bk 15) false) (av 16):=by kernel_rfl
theorem XX:av 16=.seq (.region 16 (bk 16) true) (av 17):=by kernel_rfl
theorem XY:av 17=.seq (.region 17 (bk 17) false) (av 18):=by kernel_rfl
theorem XZ:av 18=.seq (.region 18 (bk 18) false) (av 19):=by kernel_rfl
theorem X5:av 19=.seq (.region 19 (bk 19) false) (av 20):=by kernel_rfl
theorem X6:av 20=.seq (.region 20 (bk 20) false) (av 21):=by kernel_rfl
theorem Sp (h:iM cs m0 (av 0) [] T0 (fq n0 l0)):iM cs m0 (av 21) [] O5 (fq n21 O6):=by
 have r:=fun k hk=>qL 21 k Ae hk;have h:=h.next e0 (r 0 (by omega)) c0;have h:=h.next e1 (r 1 (by omega)) c1;have h:=h.next e2 (r 2 (by omega)) c2;have h:=h.next e3 (r 3 (by omega)) c3;have h:=h.next e4 (r 4 (by omega)) c4;have h:=h.next e5 (r 5 (by omega)) c5;have h:=h.next e6 (r 6 (by omega)) c6;have h:=h.next e7 (r 7 (by omega)) c7;have h:=h.next e8 (r 8 (by omega)) c8;have h:=h.next e9 (r 9 (by omega)) c9;have h:=h.next lO (r 10 (by omega)) XI;have h:=h.next yI (r 11 (by omega)) XJ;have h:=h.next XT (r 12 (by omega)) XK;have h:=h.next XU (r 13 (by omega)) XL;have h:=h.next XV (r 14 (by omega)) XM;have h:=h.next XW (r 15 (by omega)) XN;have h:=h.next XX (r 16 (by omega)) XO;have h:=h.next XY (r 17 (by omega)) XP;have h:=h.next XZ (r 18 (by omega)) XQ;have h:=h.next X5 (r 19 (by omega)) XR;exact h.next X6 (r 20 (by omega)) XS
noncomputable def JX:Code:=match UM with|.seq _ (.cond _ a _)=>a|_=>.skip
noncomputable def JY:Code:=match UN with|.seq _ (.cond _ a _)=>a|_=>.skip
theorem Fz:av 21=.seq (.seq (.region 21 CE false) (.cond (.tmp 202) JX .skip)) (.seq (.seq (.region 23 CF true) (.cond (.tmp 258) JY .skip)) (.seq (.region 25 CG false) .ret)):=by kernel_rfl
theorem JZ:nz 3 (gN Nr 202) (.bool false)=true:=by kernel_rfl
theorem J0:nz 3 (gN Ns 258) (.bool false)=true:=by kernel_rfl
noncomputable def Hq:Bool:=match an WP (results Tryz.f7 UK.toArray) (fq n24 UL)with
 |some (.bool true,_,_,_)=>true
 |_=>false
theorem CI:Hq=true:=by kernel_rfl
theorem iM.cond {cs:List Frame} {m0:Machine} {t:Nat} {a:Code} {k:List Item} {T:List Value} {H:Hp} (h:iM cs m0 (.cond (.tmp t) a .skip) k T H) (ht:bt T t=.bool false):
 (∃tm w,Steps WP m0 (lone (a8 mt tm [] k) cs w)/\Sf WP Sb H T tm w)\/fp WP uM mt [] cs m0:=by
 rcases h with⟨tm,w,h1,p,h2,h3⟩|h
 .have hv:tm.getD t undef=.bool false:=jQ (by have:=h2.tr t;rwa [ht]at this);exact .inl ⟨tm,w,h1.trans (.head (jM (t:=false) hv) (.one nD)),p,h2,h3⟩
 .exact .inr h
theorem iM.in {c:Code} (h:(∃tm w,Steps WP m0 (lone (a8 mt tm [] (.code c::k)) cs w)/\Sf WP Sb H T tm w)\/fp WP uM mt [] cs m0):iM cs m0 c k T H:=h
theorem built {w:World} {fz:Nat×Nat} (h0:w.heap[0]?=some (.cells #[tw 155,tw 156,tw 157,tw 158] 136 fz)):
 Calls WP 7 #[] w fun e w'=>e=.returned (.bool true)\/∃chain,e=.panicked chain/\uM chain w':=by
 intro cs;let m0:Machine:=lone (Frame.enter WP 7 #[] .normal) cs w
 have ao:0<w.heap.size:=(Array.getElem?_eq_some_iff.1 h0).1
 have start:iM cs m0 (av 0) [] T0 (fq n0 l0):=by
  refine .inl ⟨Array.replicate 288 undef,w,?_,⟨fun r r'=>r=0/\r'=0,fun _ _=>False⟩,⟨by simp;rfl,⟨fun r _ o ho=>?_,fun r s r' _ _ _ _ x y=>x.1.trans y.1.symm,fun r r' x=>by rw[x.2];exact ao,fun r k x=>x.elim,⟨fun r r' s s' x y _=>?_,fun r r' x=>?_,fun r r' s' x y=>x.2.trans y.2.symm⟩,by rw[ck];omega⟩,fun x=>?_,.nil,fun g hg _=>?_,by rw[ck];exact Nat.le_refl 1⟩,fun r hr r' x=>?_⟩
  .have hb:Tryz.f7.body=some (av 0):=by
    show Tryz.f7.body=some CD;rfl
   have O4:Tryz.f7.ntmps=288:=Tw.ntmps7
   have:Frame.enter WP 7 #[] .normal=a8 mt (Array.replicate 288 undef) [] [.code (av 0)]:=by
    unfold mt;simp only[a8,Frame.enter,Tw.func7,Option.map_some,Option.getD_some,Option.bind_some,hb,O4];simp
   show Steps _ (lone (Frame.enter WP 7 #[] .normal) cs w) _;rw[this];exact .refl _ _
  .have hm:=ep ho;simp only[l0,List.mem_cons,List.not_mem_nil,or_false,Prod.mk.injEq]at hm;obtain⟨rfl,rfl⟩:=hm;have O8:∀f,Sb f=true->Ev.VR Sb ⟨fun r r'=>r=0/\r'=0,fun _ _=>False⟩ (tw f) (tw f):=fun f hf=>.func hf rfl rfl (fun i v v' h=>by simp at h) fun i v v' h=>by simp at h
   have K1:Ev.AR Sb ⟨fun r r'=>r=0/\r'=0,fun _ _=>False⟩ #[tw 155,tw 156,tw 157,tw 158] #[tw 155,tw 156,tw 157,tw 158]:=
    (((Ev.AR.one (O8 155 (by decide))).push (O8 156 (by decide))).push (O8 157 (by decide))).push (O8 158 (by decide))
   refine⟨0,_,⟨rfl,rfl⟩,h0,.cU 136 (0,4) fz (Nat.le_refl 4) (.inl ⟨rfl,Nat.le_refl 4⟩) (fun i v' hi iD=>?_) K1.2,fun k x=>x.elim,.inr fun _ _ _ _ _ _ a b=>by cases a;cases b;rfl⟩;have h4:=(Array.getElem?_eq_some_iff.1 iD).1;have hi:4<=i:=hi;have h4:i<4:=h4;omega
  .constructor<;>intro<;>omega
  .rw[ck];constructor<;>intro<;>omega
  .have e:bt T0 x=undef:=by
    have:T0=List.replicate 288 undef:=by rfl
    rw[this];have:=mS [] 288 x;rw[List.nil_append]at this;rw[this];rfl
   rw[e]
   have:(Array.replicate 288 undef).getD x undef=undef:=by
    rw[Array.getD_eq_getD_getElem?,Array.getElem?_replicate];split<;>rfl
   rw[this];exact Ev.VR.undef
  .rw[ck]at hg;exact⟨by omega,by omega⟩
  .have hr:1<=r:=hr;have:=x.1;omega
 have UO:=Sp start;rw[Fz]at UO;have O9:=Af;simp only[Bool.and_eq_true]at O9;have X7:bt Nr 202=.bool false:=by rw[<-dG];exact jO 3 _ _ JZ
 have X8:bt Ns 258=.bool false:=by rw[<-dG];exact jO 3 _ _ J0
 have g1:=UO.seq.seq.O7 O9.1.1 XF;have g2:=(iM.in g1).cond X7;have g3:=(iM.in g2).seq.seq.O7 O9.1.2 XG;have g4:=(iM.in g3).cond X8;have g5:=(iM.in g4).seq.O7 O9.2 XH;rcases g5 with⟨tm,w',h1,p,h2,h3⟩|⟨tm,todo,chain,w1,h1,h2⟩
 .have hr:=CI;unfold Hq at hr;split at hr
  .rename_i H' R' W' er;obtain⟨v',w2,q,a1,a2,_,_⟩:=eP (Fp:=fun _=>True) (Ev.SR.results (fn:=Tryz.f7) (gq:=Tryz.f7) rfl (eY h2.sz h2.tr)) er h2.rl h2.hg (fun r x _=>h3 r x) (fun _ _=>trivial);have hw:=aK.results Tryz.f7 tm WP w' v' w2 a1;subst hw;have hv:v'=.bool true:=jQ a2;subst hv;exact⟨.returned (.bool true),w2,pN mt tm [] [.code .ret],.inl rfl,h1.trans (.one (jx (j:=some .ret) rfl ⟨_,rfl⟩ rfl)),rfl,rfl,rfl,rfl,Tryz.f7,Tw.func7,a1⟩
  .cases hr
 .exact⟨.panicked chain,w1,(a8 mt tm [] todo).raise chain,.inr ⟨chain,rfl,h2⟩,h1,rfl,rfl,rfl,Tryz.f7,Tw.func7⟩
end Go.Proofs.Cw
