/- A part. Conditions: none. -/
import Derived.Test.YtehbindidbgacaaGreatDoorT14
import Derived.Test.YtehbindidbgacaaGreatDoorT15
import Derived.Test.YtehbindidbgacaaGreatDoorT16
import Derived.Test.YtehbindidbgacaaGreatDoorT17
import Derived.Test.YtehbindidbgacaaGreatDoorT18
set_option linter.all false
namespace Go.Proofs.Cw
open Go.aC
variable {H:Hp} {T:List Value} {cs:List Frame} {k:List Item} {m0:Machine}
set_option maxRecDepth 1000000
def J4 (k:Nat):Bool:=Nat.beq k 14||Nat.beq k 16
noncomputable def xM:Nat->Bool
 |0=>true
 |n+1=>xM n&&eU WP Sb (bu n) (J4 n)
theorem GC:xM 21=true:=by kernel_rfl
theorem vN:∀(n k:Nat),xM n=true->k<n->eU WP Sb (bu k) (J4 k)=true
 |0,k,_,h=>by omega
 |n+1,k,h,hk=>by
  simp only[xM,zAE]at h;by_cases e:k=n
  .subst e;exact h.2
  .exact vN n k h.1 (by omega)
theorem GD:(eU WP Sb JZ false&&eU WP Sb J0 true&&eU WP Sb J2 false)=true:=by kernel_rfl
noncomputable def pO:Frame:=Frame.enter WP 7 #[] .normal
def ku (cs:List Frame) (m0:Machine) (c:Code) (k:List Item) (T:List Value) (H:Hp):Prop:=
 (∃tm w,Steps WP m0 (lone (bh pO tm [] (.code c::k)) cs w)/\Sf WP Sb H T tm w)\/ig WP Al pO [] cs m0
theorem ku.ZX {id:Nat} {ops:Array Oper} {d:Bool} {T1:List Value} {n1:Nat} {l1:List (Nat×Obj)} (h:ku cs m0 (.region id ops d) k T H) (hs:eU WP Sb ops d=true) (hc:oH (bj WP (oL 2000) ops d T H) T1 n1 l1=true):
 (∃tm w,Steps WP m0 (lone (bh pO tm [] k) cs w)/\Sf WP Sb (ii n1 l1) T1 tm w)\/ig WP Al pO [] cs m0:=by
 rcases h with⟨tm,w,h1,h2⟩|h
 .rcases seg xF (SM 2000) hs hc h2 id pO k cs with⟨bF,w',h3,h4⟩|h
  .exact .inl ⟨bF,w',h1.trans h3,h4⟩
  .exact .inr (.of_steps h1 h)
 .exact .inr h
theorem ku.seq {a b:Code} (h:ku cs m0 (.seq a b) k T H):ku cs m0 a (.code b::k) T H:=by
 rcases h with⟨tm,w,h1,h2⟩|h
 .exact .inl ⟨tm,w,h1.trans (.one dU),h2⟩
 .exact .inr h
theorem ku.next {cs:List Frame} {m0:Machine} {k:Nat} {T T1:List Value} {H:Hp} {n1:Nat} {l1:List (Nat×Obj)} {id:Nat} {d:Bool} (h:ku cs m0 (aJ k) [] T H) (e:aJ k=.seq (.region id (bu k) d) (aJ (k+1))) (hs:eU WP Sb (bu k) d=true)
 (hc:oH (bj WP (oL 2000) (bu k) d T H) T1 n1 l1=true):ku cs m0 (aJ (k+1)) [] T1 (ii n1 l1):=by
 rw[e]at h;exact h.seq.ZX hs hc
theorem e0:aJ 0=.seq (.region 0 (bu 0) false) (aJ 1):=by kernel_rfl
theorem e1:aJ 1=.seq (.region 1 (bu 1) false) (aJ 2):=by kernel_rfl
theorem e2:aJ 2=.seq (.region 2 (bu 2) false) (aJ 3):=by kernel_rfl
theorem e3:aJ 3=.seq (.region 3 (bu 3) false) (aJ 4):=by kernel_rfl
theorem e4:aJ 4=.seq (.region 4 (bu 4) false) (aJ 5):=by kernel_rfl
theorem e5:aJ 5=.seq (.region 5 (bu 5) false) (aJ 6):=by kernel_rfl
theorem e6:aJ 6=.seq (.region 6 (bu 6) false) (aJ 7):=by kernel_rfl
theorem e7:aJ 7=.seq (.region 7 (bu 7) false) (aJ 8):=by kernel_rfl
theorem e8:aJ 8=.seq (.region 8 (bu 8) false) (aJ 9):=by kernel_rfl
theorem e9:aJ 9=.seq (.region 9 (bu 9) false) (aJ 10):=by kernel_rfl
theorem pm:aJ 10=.seq (.region 10 (bu 10) false) (aJ 11):=by kernel_rfl
theorem EQ:aJ 11=.seq (.region 11 (bu 11) false) (aJ 12):=by kernel_rfl
theorem e12:aJ 12=.seq (.region 12 (bu 12) false) (aJ 13):=by kernel_rfl
theorem e13:aJ 13=.seq (.region 13 (bu 13) false) (aJ 14):=by kernel_rfl
theorem e14:aJ 14=.seq (.region 14 (bu 14) true) (aJ 15):=by kernel_rfl
theorem e15:aJ 15=.seq (.region 15 (bu 15) false) (aJ 16):=by kernel_rfl
theorem e16:aJ 16=.seq (.region 16 (bu 16) true) (aJ 17):=by kernel_rfl
theorem e17:aJ 17=.seq (.region 17 (bu 17) false) (aJ 18):=by kernel_rfl
theorem e18:aJ 18=.seq (.region 18 (bu 18) false) (aJ 19):=by kernel_rfl
theorem e19:aJ 19=.seq (.region 19 (bu 19) false) (aJ 20):=by kernel_rfl
theorem e20:aJ 20=.seq (.region 20 (bu 20) false) (aJ 21):=by kernel_rfl
theorem zcV (h:ku cs m0 (aJ 0) [] T0 (ii n0 l0)):ku cs m0 (aJ 21) [] ZV (ii n21 ZW):=by
 have r:=λk hk=>vN 21 k GC hk;have h:=h.next e0 (r 0 (by omega)) c0;have h:=h.next e1 (r 1 (by omega)) c1;have h:=h.next e2 (r 2 (by omega)) c2;have h:=h.next e3 (r 3 (by omega)) c3;have h:=h.next e4 (r 4 (by omega)) c4;have h:=h.next e5 (r 5 (by omega)) c5;have h:=h.next e6 (r 6 (by omega)) c6;have h:=h.next e7 (r 7 (by omega)) c7;have h:=h.next e8 (r 8 (by omega)) c8;have h:=h.next e9 (r 9 (by omega)) c9;have h:=h.next pm (r 10 (by omega)) c10;have h:=h.next EQ (r 11 (by omega)) c11;have h:=h.next e12 (r 12 (by omega)) c12;have h:=h.next e13 (r 13 (by omega)) c13;have h:=h.next e14 (r 14 (by omega)) c14;have h:=h.next e15 (r 15 (by omega)) c15;have h:=h.next e16 (r 16 (by omega)) c16;have h:=h.next e17 (r 17 (by omega)) c17;have h:=h.next e18 (r 18 (by omega)) c18;have h:=h.next e19 (r 19 (by omega)) c19;exact h.next e20 (r 20 (by omega)) c20
noncomputable def SN:Code:=match p21 with|.seq _ (.cond _ a _)=>a|_=>.skip
noncomputable def SO:Code:=match p23 with|.seq _ (.cond _ a _)=>a|_=>.skip
theorem NS:aJ 21=.seq (.seq (.region 21 JZ false) (.cond (.tmp 202) SN .skip)) (.seq (.seq (.region 23 J0 true) (.cond (.tmp 258) SO .skip)) (.seq (.region 25 J2 false) .ret)):=by kernel_rfl
theorem SP:rm 3 (jq Xh 202) (.bool false)=true:=by kernel_rfl
theorem SQ:rm 3 (jq Xi 258) (.bool false)=true:=by kernel_rfl
noncomputable def PZ:Bool:=match aE WP (results Tryz.f7 T24.toArray) (ii n24 l24)with
 |some (.bool true,_,_,_)=>true
 |_=>false
theorem J5:PZ=true:=by kernel_rfl
theorem ku.cond {cs:List Frame} {m0:Machine} {t:Nat} {a:Code} {k:List Item} {T:List Value} {H:Hp} (h:ku cs m0 (.cond (.tmp t) a .skip) k T H) (ht:bG T t=.bool false):
 (∃tm w,Steps WP m0 (lone (bh pO tm [] k) cs w)/\Sf WP Sb H T tm w)\/ig WP Al pO [] cs m0:=by
 rcases h with⟨tm,w,h1,p,h2,h3⟩|h
 .have hv:tm.getD t undef=.bool false:=mw (by have:=h2.tr t;rwa [ht]at this);exact .inl ⟨tm,w,h1.trans (.head (mq (t:=false) hv) (.one rE)),p,h2,h3⟩
 .exact .inr h
theorem ku.in {c:Code} (h:(∃tm w,Steps WP m0 (lone (bh pO tm [] (.code c::k)) cs w)/\Sf WP Sb H T tm w)\/ig WP Al pO [] cs m0):ku cs m0 c k T H:=h
theorem built {w:World} {fz:Nat×Nat} (h0:w.heap[0]?=some (.cells #[yW 155,yW 156,yW 157,yW 158] 136 fz)):
 Calls WP 7 #[] w λe w'=>e=.returned (.bool true)\/∃chain,e=.panicked chain/\Al chain w':=by
 intro cs;let m0:Machine:=lone (Frame.enter WP 7 #[] .normal) cs w
 have az:0<w.heap.size:=(zAD.1 h0).1
 have start:ku cs m0 (aJ 0) [] T0 (ii n0 l0):=by
  refine .inl ⟨Array.replicate 288 undef,w,?_,⟨λr r'=>r=0/\r'=0,λ_ _=>False,true⟩,⟨by simp;rfl,⟨λr _ o ho=>?_,λr s r' _ _ _ _ x y=>x.1.trans y.1.symm,λr r' x=>by rw[x.2];exact az,λr k x=>x.elim,⟨λr r' s s' x y _=>?_,λr r' x=>?_,λr r' s' x y=>x.2.trans y.2.symm,λh=>by cases h⟩,by rw[cV];omega,rfl⟩,λx=>?_,.nil,λg hg _=>?_,by rw[cV];exact zAC 1⟩,λr hr r' x=>?_⟩
  .have hb:Tryz.f7.body=some (aJ 0):=by
    show Tryz.f7.body=some JY;rfl
   have ZU:Tryz.f7.ntmps=288:=Tw.ntmps7
   have:Frame.enter WP 7 #[] .normal=bh pO (Array.replicate 288 undef) [] [.code (aJ 0)]:=by
    unfold pO;simp only[bh,Frame.enter,Tw.func7,zBJ,zAB,zDJ,hb,ZU];simp
   show Steps _ (lone (Frame.enter WP 7 #[] .normal) cs w) _;rw[this];exact .refl _ _
  .have hm:=fQ ho;simp only[l0,zAS,zCE,or_false,zAF]at hm;obtain⟨rfl,rfl⟩:=hm;have ZY:∀f,Sb f=true->aC.VR Sb ⟨λr r'=>r=0/\r'=0,λ_ _=>False,true⟩ (yW f) (yW f):=λf hf=>.func hf rfl rfl (λi v v' h=>by simp at h) λi v v' h=>by simp at h
   have Uw:aC.AR Sb ⟨λr r'=>r=0/\r'=0,λ_ _=>False,true⟩ #[yW 155,yW 156,yW 157,yW 158] #[yW 155,yW 156,yW 157,yW 158]:=
    (((aC.AR.one (ZY 155 (by decide))).push (ZY 156 (by decide))).push (ZY 157 (by decide))).push (ZY 158 (by decide))
   refine⟨0,_,⟨rfl,rfl⟩,h0,.cq rfl 136 (0,4) fz (zAC 4) (.inl ⟨rfl,zAC 4⟩) (λi v' hi nQ=>?_) Uw.2,λk x=>x.elim,.inr λ_ _ _ _ _ _ a b=>by cases a;cases b;rfl⟩;have h4:=(zAD.1 nQ).1;have hi:4<=i:=hi;have h4:i<4:=h4;omega
  .constructor<;>intro<;>omega
  .rw[cV];constructor<;>intro<;>omega
  .have e:bG T0 x=undef:=by
    have:T0=List.replicate 288 undef:=by rfl
    rw[this];have:=qx [] 288 x;rw[zDS]at this;rw[this];rfl
   rw[e]
   have:(Array.replicate 288 undef).getD x undef=undef:=by
    rw[zBD,zDU];split<;>rfl
   rw[this];exact aC.VR.undef
  .rw[cV]at hg;exact⟨by omega,by omega⟩
  .have hr:1<=r:=hr;have:=x.1;omega
 have h21:=zcV start;rw[NS]at h21;have P0:=GD;simp only[zAE]at P0;have s21:bG Xh 202=.bool false:=by rw[<-fk];exact mt 3 _ _ SP
 have s23:bG Xi 258=.bool false:=by rw[<-fk];exact mt 3 _ _ SQ
 have g1:=h21.seq.seq.ZX P0.1.1 c21;have g2:=(ku.in g1).cond s21;have g3:=(ku.in g2).seq.seq.ZX P0.1.2 c23;have g4:=(ku.in g3).cond s23;have g5:=(ku.in g4).seq.ZX P0.2 c25;rcases g5 with⟨tm,w',h1,p,h2,h3⟩|⟨tm,todo,chain,w1,h1,h2⟩
 .have hr:=J5;unfold PZ at hr;split at hr
  .rename_i H' R' W' er;obtain⟨v',w2,q,a1,a2,_,_⟩:=gN (Fp:=λ_=>True) (aC.SR.results (fn:=Tryz.f7) (lh:=Tryz.f7) rfl (gZ h2.sz h2.tr)) er h2.rl h2.hg (λr x _=>h3 r x) (λ_ _=>trivial);have hw:=aT.results Tryz.f7 tm WP w' v' w2 a1;subst hw;have hv:v'=.bool true:=mw a2;subst hv;exact⟨.returned (.bool true),w2,uC pO tm [] [.code .ret],.inl rfl,h1.trans (.one (lJ (j:=some .ret) rfl ⟨_,rfl⟩ rfl)),rfl,rfl,rfl,rfl,Tryz.f7,Tw.func7,a1⟩
  .cases hr
 .exact⟨.panicked chain,w1,(bh pO tm [] todo).raise chain,.inr ⟨chain,rfl,h2⟩,h1,rfl,rfl,rfl,Tryz.f7,Tw.func7⟩
end Go.Proofs.Cw
