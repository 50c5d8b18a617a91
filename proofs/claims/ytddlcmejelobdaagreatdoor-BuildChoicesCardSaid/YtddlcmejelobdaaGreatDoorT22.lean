/- A part. Conditions: none. -/
import Derived.Test.YtddlcmejelobdaaGreatDoorT15
import Derived.Great.BuildSlice
import Derived.Laws.Append
set_option linter.all false
namespace Go.Proofs.Cw
open Go.aD
set_option maxRecDepth 1000000
def c13:rj (bI WP (rp 2000) (bR 13) false T13 (jk n13 l13)) T14 n14 l14=true:=by kernel_rfl
def c14:rj (bI WP (rp 2000) (bR 14) true T14 (jk n14 l14)) T15 n15 l15=true:=by kernel_rfl
def c15:rj (bI WP (rp 2000) (bR 15) false T15 (jk n15 l15)) T16 n16 l16=true:=by kernel_rfl
def c16:rj (bI WP (rp 2000) (bR 16) true T16 (jk n16 l16)) T17 n17 l17=true:=by kernel_rfl
def c17:rj (bI WP (rp 2000) (bR 17) false T17 (jk n17 l17)) T18 n18 l18=true:=by kernel_rfl
def c18:rj (bI WP (rp 2000) (bR 18) false T18 (jk n18 l18)) T19 n19 l19=true:=by kernel_rfl
def c19:rj (bI WP (rp 2000) (bR 19) false T19 (jk n19 l19)) T20 n20 l20=true:=by kernel_rfl
def c20:rj (bI WP (rp 2000) (bR 20) false T20 (jk n20 l20)) T21 n21 l21=true:=by kernel_rfl
end Go.Proofs.Cw

namespace Go.Proofs.Cw
open Go.aD
set_option maxRecDepth 1000000
def c0:rj (bI WP (rp 2000) (bR 0) false T0 (jk n0 l0)) T1 n1 l1=true:=by kernel_rfl
def c1:rj (bI WP (rp 2000) (bR 1) false T1 (jk n1 l1)) T2 n2 l2=true:=by kernel_rfl
def c2:rj (bI WP (rp 2000) (bR 2) false T2 (jk n2 l2)) T3 n3 l3=true:=by kernel_rfl
def c3:rj (bI WP (rp 2000) (bR 3) false T3 (jk n3 l3)) T4 n4 l4=true:=by kernel_rfl
def c4:rj (bI WP (rp 2000) (bR 4) false T4 (jk n4 l4)) T5 n5 l5=true:=by kernel_rfl
def c5:rj (bI WP (rp 2000) (bR 5) false T5 (jk n5 l5)) T6 n6 l6=true:=by kernel_rfl
def c6:rj (bI WP (rp 2000) (bR 6) false T6 (jk n6 l6)) T7 n7 l7=true:=by kernel_rfl
end Go.Proofs.Cw

namespace Go.Proofs.Cw
open Go.aD
set_option maxRecDepth 1000000
def c11:rj (bI WP (rp 2000) (bR 11) false T11 (jk n11 l11)) T12 n12 l12=true:=by kernel_rfl
def c12:rj (bI WP (rp 2000) (bR 12) false T12 (jk n12 l12)) T13 n13 l13=true:=by kernel_rfl
end Go.Proofs.Cw

namespace Go.Proofs.Cw
open Go.aD
set_option maxRecDepth 1000000
def c9:rj (bI WP (rp 2000) (bR 9) false T9 (jk n9 l9)) Ku n10 l10=true:=by kernel_rfl
def c10:rj (bI WP (rp 2000) (bR 10) false Ku (jk n10 l10)) T11 n11 l11=true:=by kernel_rfl
end Go.Proofs.Cw

namespace Go.Proofs.Cw
open Go.aD
set_option maxRecDepth 1000000
def c7:rj (bI WP (rp 2000) (bR 7) false T7 (jk n7 l7)) T8 n8 l8=true:=by kernel_rfl
def c8:rj (bI WP (rp 2000) (bR 8) false T8 (jk n8 l8)) T9 n9 l9=true:=by kernel_rfl
end Go.Proofs.Cw

noncomputable section
namespace Go.Proofs.Cw
open Go.aD
variable {H:Hp} {T:List fu} {cs:List Frame} {k:List Item} {m0:Machine}
set_option maxRecDepth 1000000
def NS (k:Nat):Bool:=Nat.beq k 14||Nat.beq k 16
def AB:Nat->Bool
 |0=>true
 |n+1=>AB n&&fJ WP Sb (bR n) (NS n)
def Kw:AB 21=true:=by kernel_rfl
def y6:∀(n k:Nat),AB n=true->k<n->fJ WP Sb (bR k) (NS k)=true
 |0,k,_,h=>by omega
 |n+1,k,h,hk=>by
  simp only[AB,zAF]at h;by_cases e:k=n
  .subst e;exact h.2
  .exact y6 n k h.1 (by omega)
def Kx:(fJ WP Sb NO false&&fJ WP Sb NP true&&fJ WP Sb NQ false)=true:=by kernel_rfl
def sx:Frame:=Frame.enter WP 9 #[] .normal
def mq (cs:List Frame) (m0:Machine) (c:Code) (k:List Item) (T:List fu) (H:Hp):Prop:=
 (∃tm w,Steps WP m0 (lone (bH sx tm [] (.code c::k)) cs w)/\Sf WP Sb H T tm w)\/ji WP Do sx [] cs m0
def mq.Qc {id:Nat} {ops:Array Oper} {d:Bool} {T1:List fu} {n1:Nat} {l1:List (Nat×Obj)} (h:mq cs m0 (.region id ops d) k T H) (hs:fJ WP Sb ops d=true) (hc:rj (bI WP (rp 2000) ops d T H) T1 n1 l1=true):
 (∃tm w,Steps WP m0 (lone (bH sx tm [] k) cs w)/\Sf WP Sb (jk n1 l1) T1 tm w)\/ji WP Do sx [] cs m0:=by
 rcases h with⟨tm,w,h1,h2⟩|h
 .rcases seg Ar (WW 2000) hs hc h2 id sx k cs with⟨bV,w',h3,h4⟩|h
  .exact .inl ⟨bV,w',h1.trans h3,h4⟩
  .exact .inr (.of_steps h1 h)
 .exact .inr h
def mq.seq {a b:Code} (h:mq cs m0 (.seq a b) k T H):mq cs m0 a (.code b::k) T H:=by
 rcases h with⟨tm,w,h1,h2⟩|h
 .exact .inl ⟨tm,w,h1.trans (.one eH),h2⟩
 .exact .inr h
def mq.next {cs:List Frame} {m0:Machine} {k:Nat} {T T1:List fu} {H:Hp} {n1:Nat} {l1:List (Nat×Obj)} {id:Nat} {d:Bool} (h:mq cs m0 (aM k) [] T H) (e:aM k=.seq (.region id (bR k) d) (aM (k+1))) (hs:fJ WP Sb (bR k) d=true)
 (hc:rj (bI WP (rp 2000) (bR k) d T H) T1 n1 l1=true):mq cs m0 (aM (k+1)) [] T1 (jk n1 l1):=by
 rw[e]at h;exact h.seq.Qc hs hc
def e0:aM 0=.seq (.region 0 (bR 0) false) (aM 1):=by kernel_rfl
def e1:aM 1=.seq (.region 1 (bR 1) false) (aM 2):=by kernel_rfl
def e2:aM 2=.seq (.region 2 (bR 2) false) (aM 3):=by kernel_rfl
def e3:aM 3=.seq (.region 3 (bR 3) false) (aM 4):=by kernel_rfl
def e4:aM 4=.seq (.region 4 (bR 4) false) (aM 5):=by kernel_rfl
def e5:aM 5=.seq (.region 5 (bR 5) false) (aM 6):=by kernel_rfl
def e6:aM 6=.seq (.region 6 (bR 6) false) (aM 7):=by kernel_rfl
def e7:aM 7=.seq (.region 7 (bR 7) false) (aM 8):=by kernel_rfl
def e8:aM 8=.seq (.region 8 (bR 8) false) (aM 9):=by kernel_rfl
def e9:aM 9=.seq (.region 9 (bR 9) false) (aM 10):=by kernel_rfl
def rR:aM 10=.seq (.region 10 (bR 10) false) (aM 11):=by kernel_rfl
def IM:aM 11=.seq (.region 11 (bR 11) false) (aM 12):=by kernel_rfl
def e12:aM 12=.seq (.region 12 (bR 12) false) (aM 13):=by kernel_rfl
def e13:aM 13=.seq (.region 13 (bR 13) false) (aM 14):=by kernel_rfl
def e14:aM 14=.seq (.region 14 (bR 14) true) (aM 15):=by kernel_rfl
def e15:aM 15=.seq (.region 15 (bR 15) false) (aM 16):=by kernel_rfl
def e16:aM 16=.seq (.region 16 (bR 16) true) (aM 17):=by kernel_rfl
def e17:aM 17=.seq (.region 17 (bR 17) false) (aM 18):=by kernel_rfl
def e18:aM 18=.seq (.region 18 (bR 18) false) (aM 19):=by kernel_rfl
def e19:aM 19=.seq (.region 19 (bR 19) false) (aM 20):=by kernel_rfl
def e20:aM 20=.seq (.region 20 (bR 20) false) (aM 21):=by kernel_rfl
def zgx (h:mq cs m0 (aM 0) [] T0 (jk n0 l0)):mq cs m0 (aM 21) [] T21 (jk n21 l21):=by
 have r:=λk hk=>y6 21 k Kw hk;have h:=h.next e0 (r 0 (by omega)) c0;have h:=h.next e1 (r 1 (by omega)) c1;have h:=h.next e2 (r 2 (by omega)) c2;have h:=h.next e3 (r 3 (by omega)) c3;have h:=h.next e4 (r 4 (by omega)) c4;have h:=h.next e5 (r 5 (by omega)) c5;have h:=h.next e6 (r 6 (by omega)) c6;have h:=h.next e7 (r 7 (by omega)) c7;have h:=h.next e8 (r 8 (by omega)) c8;have h:=h.next e9 (r 9 (by omega)) c9;have h:=h.next rR (r 10 (by omega)) c10;have h:=h.next IM (r 11 (by omega)) c11;have h:=h.next e12 (r 12 (by omega)) c12;have h:=h.next e13 (r 13 (by omega)) c13;have h:=h.next e14 (r 14 (by omega)) c14;have h:=h.next e15 (r 15 (by omega)) c15;have h:=h.next e16 (r 16 (by omega)) c16;have h:=h.next e17 (r 17 (by omega)) c17;have h:=h.next e18 (r 18 (by omega)) c18;have h:=h.next e19 (r 19 (by omega)) c19;exact h.next e20 (r 20 (by omega)) c20
def WX:Code:=match p21 with|.seq _ (.cond _ a _)=>a|_=>.skip
def WY:Code:=match p23 with|.seq _ (.cond _ a _)=>a|_=>.skip
def RE:aM 21=.seq (.seq (.region 21 NO false) (.cond (.tmp 202) WX .skip)) (.seq (.seq (.region 23 NP true) (.cond (.tmp 258) WY .skip)) (.seq (.region 25 NQ false) .ret)):=by kernel_rfl
def WZ:ue 3 (kF T22 202) (.bool false)=true:=by kernel_rfl
def W6:ue 3 (kF T23 258) (.bool false)=true:=by kernel_rfl
def Uc:Bool:=match aG WP (results Tryz.f9 T24.toArray) (jk n24 l24)with
 |some (.bool true,_,_,_)=>true
 |_=>false
def NT:Uc=true:=by kernel_rfl
def mq.cond {cs:List Frame} {m0:Machine} {t:Nat} {a:Code} {k:List Item} {T:List fu} {H:Hp} (h:mq cs m0 (.cond (.tmp t) a .skip) k T H) (ht:bW T t=.bool false):
 (∃tm w,Steps WP m0 (lone (bH sx tm [] k) cs w)/\Sf WP Sb H T tm w)\/ji WP Do sx [] cs m0:=by
 rcases h with⟨tm,w,h1,p,h2,h3⟩|h
 .have hv:=oI (by have:=h2.tr t;rwa [ht]at this);exact .inl ⟨tm,w,h1.trans (.head (oE (t:=false) hv) (.one uC)),p,h2,h3⟩
 .exact .inr h
def mq.in {c:Code} (h:(∃tm w,Steps WP m0 (lone (bH sx tm [] (.code c::k)) cs w)/\Sf WP Sb H T tm w)\/ji WP Do sx [] cs m0):mq cs m0 c k T H:=h
def built {w:nq} {fz:Nat×Nat} (h0:w.heap[0]?=some (.cells #[BQ 183,BQ 184,BQ 185,BQ 186] 144 fz)):
 Calls WP 9 #[] w λe w'=>e=.returned (.bool true)\/∃chain,e=.panicked chain/\Do chain w':=by
 intro cs;let m0:Machine:=lone (Frame.enter WP 9 #[] .normal) cs w
 have au:0<w.heap.size:=(zAC.1 h0).1
 have start:mq cs m0 (aM 0) [] T0 (jk n0 l0):=by
  refine .inl ⟨Array.replicate 288 undef,w,?_,⟨λr r'=>r=0/\r'=0,λ_ _=>False,true⟩,⟨by simp;rfl,⟨λr _ o ho=>?_,λr s r' _ _ _ _ x y=>x.1.trans y.1.symm,λr r' x=>by rw[x.2];exact au,λr k x=>x.elim,⟨λr r' s s' x y _=>?_,λr r' x=>?_,λr r' s' x y=>x.2.trans y.2.symm,λh=>by cases h⟩,by rw[dp];omega,rfl⟩,λx=>?_,.nil,λg hg _=>?_,by rw[dp];exact zAA 1⟩,λr hr r' x=>?_⟩
  .have hb:Tryz.f9.body=some (aM 0):=by
    show Tryz.f9.body=some NN;rfl
   have hnt:Tryz.f9.ntmps=288:=Tw.ntmps9
   have:Frame.enter WP 9 #[] .normal=bH sx (Array.replicate 288 undef) [] [.code (aM 0)]:=by
    unfold sx;simp only[bH,Frame.enter,Tw.func9,zBJ,zAD,zDT,hb,hnt];simp
   show Steps _ (lone (Frame.enter WP 9 #[] .normal) cs w) _;rw[this];exact .refl _ _
  .have hm:=ig ho;simp only[l0,zAQ,zCN,or_false,zAH]at hm;obtain⟨rfl,rfl⟩:=hm;have fnR:∀f,Sb f=true->aD.VR Sb ⟨λr r'=>r=0/\r'=0,λ_ _=>False,true⟩ (BQ f) (BQ f):=λf hf=>.func hf rfl rfl (λi v v' h=>by simp at h) λi v v' h=>by simp at h
   have Yr:aD.AR Sb ⟨λr r'=>r=0/\r'=0,λ_ _=>False,true⟩ #[BQ 183,BQ 184,BQ 185,BQ 186] #[BQ 183,BQ 184,BQ 185,BQ 186]:=
    (((aD.AR.one (fnR 183 (by decide))).push (fnR 184 (by decide))).push (fnR 185 (by decide))).push (fnR 186 (by decide))
   refine⟨0,_,⟨rfl,rfl⟩,h0,.cS rfl 144 (0,4) fz (zAA 4) (.inl ⟨rfl,zAA 4⟩) (λi v' hi qx=>?_) Yr.2,λk x=>x.elim,.inr λ_ _ _ _ _ _ a b=>by cases a;cases b;rfl⟩;have h4:=(zAC.1 qx).1;have hi:4<=i:=hi;have h4:i<4:=h4;omega
  .constructor<;>intro<;>omega
  .rw[dp];constructor<;>intro<;>omega
  .have e:bW T0 x=undef:=by
    have:T0=List.replicate 288 undef:=by rfl
    rw[this];have:=te [] 288 x;rw[zEG]at this;rw[this];rfl
   rw[e]
   have:(Array.replicate 288 undef).getD x undef=undef:=by
    rw[zBA,zDX];split<;>rfl
   rw[this];exact aD.VR.undef
  .rw[dp]at hg;exact⟨by omega,by omega⟩
  .have hr:1<=r:=hr;have:=x.1;omega
 have h21:=zgx start;rw[RE]at h21;have W7:=Kx;simp only[zAF]at W7;have s21:bW T22 202=.bool false:=by rw[<-fY];exact oG 3 _ _ WZ
 have s23:bW T23 258=.bool false:=by rw[<-fY];exact oG 3 _ _ W6
 have g1:=h21.seq.seq.Qc W7.1.1 c21;have g2:=(mq.in g1).cond s21;have g3:=(mq.in g2).seq.seq.Qc W7.1.2 c23;have g4:=(mq.in g3).cond s23;have g5:=(mq.in g4).seq.Qc W7.2 c25;rcases g5 with⟨tm,w',h1,p,h2,h3⟩|⟨tm,todo,chain,w1,h1,h2⟩
 .have hr:=NT;unfold Uc at hr;split at hr
  .rename_i H' R' W' er;obtain⟨v',w2,q,a1,a2,_,_⟩:=iS (Fp:=λ_=>True) (aD.SR.results (fn:=Tryz.f9) (oS:=Tryz.f9) rfl (i7 h2.sz h2.tr)) er h2.rl h2.hg (λr x _=>h3 r x) (λ_ _=>trivial);have hw:=aX.results Tryz.f9 tm WP w' v' w2 a1;subst hw;have hv:=oI a2;subst hv;exact⟨.returned (.bool true),w2,xI sx tm [] [.code .ret],.inl rfl,h1.trans (.one (nJ (j:=some .ret) rfl ⟨_,rfl⟩ rfl)),rfl,rfl,rfl,rfl,Tryz.f9,Tw.func9,a1⟩
  .cases hr
 .exact⟨.panicked chain,w1,(bH sx tm [] todo).raise chain,.inr ⟨chain,rfl,h2⟩,h1,rfl,rfl,rfl,Tryz.f9,Tw.func9⟩
end Go.Proofs.Cw
end

namespace Go.Proofs.Cw
open Go.aD
variable {n r:Nat} {v:fu}
def Xa:(WP.follows .mixedOrders||!Region.departs xk)=true:=by kernel_rfl
def zgy:Region.linearise .any xk 0=[0,1]:=by kernel_rfl
def zgz:Region.linearise .any xk 1=[1,0]:=by kernel_rfl
def NU (t:Nat):Region.schedule (WP.follows .mixedOrders) xk t=Region.linearise .any xk t:=by
 unfold Region.schedule;rw[zAE Xa]
section
variable {b:Frame} {tm:Array fu} {k:List Item} {cs:List Frame} {w:nq}
def Dq {P:un} {id:Nat} {ops:Array Oper}:step P (lone (bH b tm [] (.code (.region id ops true)::k)) cs w)=.next (lone (bH b tm [] (.inRegion ops (Region.schedule (P.follows .mixedOrders) ops (w.tape w.drawn (.order b.fn id)))::k)) cs {w with drawn:=w.drawn+1}):=by
 refine bN rfl ?_;unfold stepG.exec;simp[bH,choose,Sem.run,pure,Question.forced,Question.cut]
def FB (a:Array fu) (i:Nat) (x y:fu):(a.setIfInBounds i x).setIfInBounds i y=a.setIfInBounds i y:=by simp
def Xb (h:∀q,w.tape w.drawn q=0):Steps WP (lone (bH b tm [] (.code (.region 7 xk true)::k)) cs w) (lone (bH b (tm.setIfInBounds 23 (iv 1)) [] k) cs {w with drawn:=w.drawn+1}):=by
 refine .head Dq ?_;rw[h,NU,zgy];refine .head (cN (o:=na (some 23) (.assign (.const (iv 0))) 3) rfl rfl rfl rfl) (.head (cN (o:=na (some 23) (.assign (.const (iv 1))) 3) rfl rfl rfl rfl) ?_);show Steps _ (lone (bH b ((tm.setIfInBounds 23 (iv 0)).setIfInBounds 23 (iv 1)) [] (.inRegion xk []::k)) cs _) _;rw[FB];exact .one eI
def Xc (h:∀q,w.tape w.drawn q=1):Steps WP (lone (bH b tm [] (.code (.region 7 xk true)::k)) cs w) (lone (bH b (tm.setIfInBounds 23 (iv 0)) [] k) cs {w with drawn:=w.drawn+1}):=by
 refine .head Dq ?_;rw[h,NU,zgz];refine .head (cN (o:=na (some 23) (.assign (.const (iv 1))) 3) rfl rfl rfl rfl) (.head (cN (o:=na (some 23) (.assign (.const (iv 0))) 3) rfl rfl rfl rfl) ?_);show Steps _ (lone (bH b ((tm.setIfInBounds 23 (iv 1)).setIfInBounds 23 (iv 0)) [] (.inRegion xk []::k)) cs _) _;rw[FB];exact .one eI
def Ud {z:Int} (h23:tm.getD 23 undef=iv z):Steps WP (lone (bH b tm [] (.code (.region 8 TX false)::k)) cs w) (lone (bH b ((tm.setIfInBounds 24 (.bool (z==0))).setIfInBounds 59 (iv 7)) [] k) cs w):=by
 refine .head jz ?_;show Steps _ (lone (bH b tm [] (.inRegion TX [0,1]::k)) cs w) _;refine .head (cN (o:=na (some 24) (.binOp .eql 3 (.tmp 23) (.const (iv 0)) 3) 4) (v:=.bool (z==0)) (w1:=w) rfl rfl rfl ?_) (.head (cN (o:=na (some 59) (.assign (.const (iv 7))) 3) rfl rfl rfl rfl) (.one eI));simp only[na,execOp,Af];simp[go_sem,h23,WK]
def zbl (h59:tm.getD 59 undef=iv 7) (cB:60<=tm.size):
 ∃bV,Steps WP (lone (bH b tm [] (.code (.region 9 LW false)::k)) cs w) (lone ((bH b bV [] (.inRegion LW [2]::k)).raise [{v:=.iface 3 (.func (.func 196) #[] #[tm.getD 1 undef,tm.getD 5 undef,iv 7]),recovered:=false}]) cs w):=by
 let f:fu:=.func (.func 196) #[] #[tm.getD 1 undef,tm.getD 5 undef,iv 7]
 let i9:=jM tm (some 25) f
 let jR:=jM i9 (some 28) (.iface 3 f)
 have g1:i9.getD 25 undef=f:=by
  show(tm.setIfInBounds 25 f).getD 25 undef=_;exact Go.aD.am _ _ _ _ (by omega)
 have g2:jR.getD 28 undef=.iface 3 f:=by
  show(i9.setIfInBounds 28 (.iface 3 f)).getD 28 undef=_;exact Go.aD.am _ _ _ _ (by show 28<(tm.setIfInBounds 25 f).size;simp;omega)
 refine⟨jR,.head jz ?_⟩;show Steps _ (lone (bH b tm [] (.inRegion LW [0,1,2]::k)) cs w) _;refine .head (cN (o:=na (some 25) (.makeFunc (.func 196) #[] #[.tmp 1,.tmp 5,.tmp 59]) 3) (v:=f) (w1:=w) rfl rfl rfl ?_) (.head (cN (o:=na (some 28) (.makeInterface 3 (.tmp 25)) 3) (v:=.iface 3 f) (w1:=w) rfl rfl rfl ?_) (.one (Dm (o:=na none (.panic (.tmp 28)) 0) (v:=.iface 3 f) (w1:=w) rfl rfl rfl ?_)))
 .show Result.ok (Next.value (.func (.func 196) (#[].map _) (#[Operand.tmp 1,.tmp 5,.tmp 59].map (bH b tm [] _).eval))) w=_;simp[Af,h59,f]
 .show((Instr.makeInterface 3 (i9.getD 25 undef)>>=λv=>(Pure.pure (.value v):Sem Next))).run WP w=_;rw[g1];unfold Instr.makeInterface underlying;simp[program,WK,f,Sem.run]
 .show((Instr.panic (jR.getD 28 undef)>>=λv=>(Pure.pure (.value v):Sem Next))).run WP w=_;rw[g2];rfl
def Ky (n:Nat):Obj:=.cells (#[iv 1]++Builtin.zeroCells #[iv 0] n) 3 (0,0)
def jq:(WP.info? 3).map (λi=>(i.zero,i.size,i.bytes))=some (some (iv 0),1,8):=by kernel_rfl
def u32:WP.underlying 35=some (.slice 3):=by kernel_rfl
def NV:∃i,WP.info? 3=some i/\i.zero=some (iv 0)/\i.size=1/\i.bytes=8:=by
 have h:=jq;cases hi:WP.info? 3 with
 |none=>rw[hi]at h;cases h
 |some i=>
  rw[hi]at h;simp only[zBJ,zAB,zAH]at h;exact⟨i,rfl,h.1,h.2.1,h.2.2⟩
def RF:(Instr.buildSlice 35 1 #[(0,iv 1)]).run WP w=.ok (.slice (some ⟨w.heap.size,0,none⟩) 1 1) (w.alloc (.cells #[iv 1] 3)):=by
 obtain⟨i,hi,hz,hs,_⟩:=NV;refine run_buildSlice w 35 3 1 _ _ i _ u32 hi hz (by rw[hs];decide) (by rw[hs];decide) ?_;rw[hs];kernel_rfl
def RG (hn:n+1<2^63) (hr:w.heap[r]?=some (.cells #[iv 1] 3 (0,0))) (ht:∀q,w.tape w.drawn q=n):
 (Builtin.append_ #[35,35] 35 #[.slice none 0 0,.slice (some ⟨r,0,none⟩) 1 1]).run WP w=.ok (.slice (some ⟨w.heap.size,0,none⟩) 1 (n+1)) (w.drew.alloc (Ky n)):=by
 obtain⟨i,hi,hz,hs,hb⟩:=NV
 have hg:grownCap w 1 0 3=n+1:=by
  unfold grownCap;rw[ht];show 1+n%(2^63-1)=n+1;rw[Nat.mod_eq_of_lt (by omega)];omega
 have h:=run_append_nil (P:=WP) (w:=w) 35 35 3 i (iv 0) u32 hi hz ⟨r,0,none⟩ 1 1 [iv 1] (by rw[hs];rfl) (λj v hj=>by
  match j,hj with
  |0,hj=>
   simp only[zBB,zAB]at hj;subst hj;simp[World.cell?,Addr.add,hr]
  |j+1,hj=>simp at hj) (by omega) (by omega) (by rw[hb];omega)
 rw[h,hg];rfl
def RH (ev:Operand->fu) (hc:∀v,ev (.const v)=v):(execOp ev (na (some 26) (.buildSlice 35 1 #[(0,.const (iv 1))]) 35)).run WP w=.ok (.value (.slice (some ⟨w.heap.size,0,none⟩) 1 1)) (w.alloc (.cells #[iv 1] 3)):=by
 simp only[na,execOp];simp[hc,RF]
def zbm (ev:Operand->fu) (hc:∀v,ev (.const v)=v) (hn:n+1<2^63) (hr:w.heap[r]?=some (.cells #[iv 1] 3 (0,0))) (ht:∀q,w.tape w.drawn q=n) (h:ev (.tmp 26)=.slice (some ⟨r,0,none⟩) 1 1):
 (execOp ev (na (some 27) (.call {callee:=.builtin .append,args:=#[.const (.slice none 0 0),.tmp 26],argTypes:=#[35,35]}) 35)).run WP w=.ok (.value (.slice (some ⟨w.heap.size,0,none⟩) 1 (n+1))) (w.drew.alloc (Ky n)):=by
 have e:(execOp ev (na (some 27) (.call {callee:=.builtin .append,args:=#[.const (.slice none 0 0),.tmp 26],argTypes:=#[35,35]}) 35))=(Builtin.append_ #[35,35] 35 #[ev (.const (.slice none 0 0)),ev (.tmp 26)]>>=λv=>(Pure.pure (.value v):Sem Next)):=by
  have e2:Array.map ev #[Operand.const (Value.slice none 0 0),Operand.tmp 26]=#[ev (.const (.slice none 0 0)),ev (.tmp 26)]:=by simp
  rw[<-e2];rfl
 rw[e,hc,h,Sem.run_bind,RG hn hr ht];rfl
def NW (ev:Operand->fu) (d:Option Nat) (x:Operand) (t:a00) (h:ev x=v):(execOp ev (na d (.assign x) t)).run WP w=.ok (.value v) w:=by
 subst h;rfl
def zbn {tm:Array fu} (h2:tm.getD 2 undef=v) (h3:tm.getD 3 undef=iv 0):(results Tw.f30 tm).run WP w=.ok (.tuple #[v,iv 0]) w:=by
 have:Tw.f30.results=#[.tmp 2,.tmp 3]:=rfl;unfold results;rw[this];simp at h2 h3;simp[h2,h3]
def Xd (rh:b.roundOf=none) (hkd:b.kind=.normal) (xK:b.fn=30) (cB:60<=tm.size) (hn:n+1<2^63) (ht:∀q,w.tape w.drawn q=n) (c:Frame):
 Steps WP (lone (bH b tm [] (.code (.seq (.region 10 pW false) .ret)::k)) (c::cs) w) (lone (c.finish (.tuple #[.slice (some ⟨w.heap.size+1,0,none⟩) 1 (n+1),iv 0])) cs (((w.alloc (.cells #[iv 1] 3)).drew).alloc (Ky n))):=by
 let v26:fu:=.slice (some ⟨w.heap.size,0,none⟩) 1 1
 let w1:=w.alloc (.cells #[iv 1] 3)
 let v27:fu:=.slice (some ⟨w.heap.size+1,0,none⟩) 1 (n+1)
 let w2:=w1.drew.alloc (Ky n)
 let i9:=jM tm (some 26) v26
 let jR:=jM i9 (some 27) v27
 let sr:=jM jR (some 2) v27
 let Ki:=jM sr (some 3) (iv 0)
 have s1:i9.size=tm.size:=by simp[i9,jM]
 have s2:jR.size=tm.size:=by simp[jR,jM,s1]
 have s3:sr.size=tm.size:=by simp[sr,jM,s2]
 have g26:i9.getD 26 undef=v26:=Go.aD.am _ _ _ _ (by omega);have g27:jR.getD 27 undef=v27:=Go.aD.am _ _ _ _ (by omega)
 have g2:Ki.getD 2 undef=v27:=by
  show(sr.setIfInBounds 3 _).getD 2 undef=_;rw[Go.aD.getD_set_ne _ _ _ (by decide)];exact Go.aD.am _ _ _ _ (by omega)
 have g3:Ki.getD 3 undef=iv 0:=Go.aD.am _ _ _ _ (by omega);have lL:w1.heap[w.heap.size]?=some (.cells #[iv 1] 3 (0,0)):=by show(w.heap.push _)[w.heap.size]?=_;simp
 refine .head eH (.head jz ?_);show Steps _ (lone (bH b tm [] (.inRegion pW [0,1,2,3]:: .code .ret::k)) (c::cs) w) _
 refine .head (cN (o:=na (some 26) (.buildSlice 35 1 #[(0,.const (iv 1))]) 35) (v:=v26) (w1:=w1) rfl rfl rfl ?_) (.head (cN (o:=na (some 27) (.call {callee:=.builtin .append,args:=#[.const (.slice none 0 0),.tmp 26],argTypes:=#[35,35]}) 35) (v:=v27) (w1:=w2) rfl rfl rfl ?_)
  (.head (cN (o:=na (some 2) (.assign (.tmp 27)) 35) (v:=v27) (w1:=w2) rfl rfl rfl ?_) (.head (cN (o:=na (some 3) (.assign (.const (iv 0))) 30) (v:=iv 0) (w1:=w2) rfl rfl rfl rfl) (.head eI (.head (nJ (j:=some .ret) rfl ⟨_,rfl⟩ rh) (.one (sq (b:=b) (fn:=Tw.f30) (by rw[xK];exact Tw.func30) hkd ?_ c)))))))
 .exact RH _ λ_=>rfl
 .have hws:w1.heap.size=w.heap.size+1:=by simp[w1]
  have e:=zbm (bH b i9 [] (.inRegion pW [1,2,3]:: .code .ret::k)).eval (λ_=>rfl) hn lL ht g26;rw[hws]at e;exact e
 .exact NW _ _ _ _ g27
 .exact zbn g2 g3
end
end Go.Proofs.Cw
namespace Go.Proofs.Cw
open Go.Conc Go.aD
variable {c:Code} {p:Pi} {r:Nat} {w w':nq}
def jS (h:aD.Alike w w') {c:Array fu} {e:a00} {fz:Nat×Nat} (x:w'.heap[r]?=some (.cells c e fz)):w.heap[r]?=some (.cells c e fz):=by
 rcases h r with h|⟨_,d,h⟩
 .rw[<-h];exact x
 .rw[h]at x;cases x
def Dr (h:aD.Alike w w') (x:r<w'.heap.size):r<w.heap.size:=by
 refine zBF λhn=>?_;have hx:=zAK x;rcases h r with h|⟨⟨d,h⟩,_⟩
 .rw[hx,zAY (by omega)]at h;cases h
 .rw[zAY (by omega)]at h;cases h
def NY {o:Obj} (h:(aD.jk 6000 IP).get r=some o):∃c e fz,o=.cells c e fz:=by
 obtain⟨_,c,e,fz,h,_⟩:=Aw (aD.ig h);exact⟨c,e,fz,h⟩
def KC (h:aD.Alike w w') {bv:fu} (x:Ko w' bv):Ko w bv:=by
 obtain⟨p,hr,hv,hG,hf⟩:=x;refine⟨p,⟨λr hF o ho=>?_,hr.inj,λr r' hp=>Dr h (hr.lt r r' hp),hr.xm,hr.ok,?_,hr.lx⟩,hv,hG,hf⟩
 .obtain⟨r',o',b1,b2,b3,b4,b5⟩:=hr.blk r hF o ho;obtain⟨c,e,fz,rfl⟩:=NY ho;refine⟨r',o',b1,?_,b3,b4,b5⟩;cases b3 with
  |cells=>exact jS h b2
  |cS=>exact jS h b2
 .have h1:=hr.gY;have h2:=dp;rw[h2]at h1⊢;have:=Dr h (r:=0) (by omega);omega
def NZ {u:fu} (h:aD.Alike w w') (x:CC Ko u w'):CC Ko u w:=by
 obtain⟨r1,r5,b0,b1,b2,b3,a0,YC,c0,c1,c2,c3,a,cp,fz,gA,pU,m1,m5,D,hD,hDv,hEx⟩:=x;refine⟨r1,r5,b0,b1,b2,b3,a0,YC,c0,c1,c2,c3,a,cp,fz,gA,pU,jS h m1,jS h m5,D,λr hr=>?_,hDv,KC h hEx⟩;obtain⟨cs,e,fz,h1,h2⟩:=hD r hr;exact⟨cs,e,fz,jS h h1,h2⟩
def rOf (u:fu):Nat:=match u with
 |.tuple xs=>match xs.getD 0 undef with
  |.slice (some a) _ _=>a.block
  |_=>0
 |_=>0
def cOf (u:fu):Nat:=match u with
 |.tuple xs=>match xs.getD 0 undef with
  |.slice _ _ c=>c
  |_=>0
 |_=>0
def q44 (p:Pi) (L:Nat) (u':fu):Pi:=⟨λa b=>p a b\/(a=L+1/\b=rOf u'),p.x,p.l⟩
def N0 (H:Code->Code->Prop) (hn:∃a b,H a b) (h:∀c,¬H c (.region 7 iJ true)) (hc:CR WP Sm H c (.region 7 iJ true)):False:=by
 cases hc with
 |same h1=>
  have:codeOk WP Sm (.region 7 iJ true)=false:=by kernel_rfl
  rw[this]at h1;cases h1
 |hole h2=>exact h _ h2
 |refuse _ _ hr=>obtain⟨a,b,h2⟩:=hn;exact hr a b h2
def Xe {fn:FuncId} {c' c0:Code} (h:BO fn c c') (hc:CR WP Sm (BO fn) c0 c'):BO fn c0 c':=by
 have hn:∃a b,BO fn a b:=⟨_,_,h⟩
 obtain⟨h1,h2,h3⟩:=h;rw[h3]at hc⊢
 have key:∀x,x=cC->CR WP Sm (BO fn) c0 x->BO fn c0 cC:=λx hx hc=>by
  cases hc with
  |same h4=>
   have:codeOk WP Sm cC=false:=by kernel_rfl
   rw[<-hx]at this;rw[this]at h4;cases h4
  |hole h5=>rw[hx]at h5;exact h5
  |seq ha hb=>
   rw[yU]at hx;injection hx with e1 e2;rw[e1]at ha;exact(N0 _ hn (λc h=>by have:=h.2.2;rw[yU]at this;cases this) ha).elim
  |cond=>rw[yU]at hx;cases hx
  |block=>rw[yU]at hx;cases hx
  |loop=>rw[yU]at hx;cases hx
  |refuse _ _ hr=>obtain⟨a,b,h2⟩:=hn;exact(hr a b h2).elim
 exact key cC rfl hc
def Ue {tm:Array fu} {k:List Item}:eW.at ⟨tm,[]⟩ k=aD.bH eW tm [] k:=rfl
def N3 {lf f:Frame} (hf:mZ WP Sm BO p lf f) (hh:Qj BO lf f):60<=lf.tmps.size:=by
 obtain⟨hm,WA,a,b,lk,k,ht,ht',Aq,ha,hb⟩:=hh;have xK:=hf.fn.trans Aq;have h:=(hf.wide.resolve_left λh=>h _ _ ⟨xK,rfl,rfl⟩) Tw.f30 (by rw[xK];exact Tw.func30);have hnt:=Tw.ntmps30;omega
def N4 {P:un} {fr g c:Frame} {cs:List Frame} {w1:nq} (h:Steps P (lone fr (c::cs) w) (lone g cs w1)):∃n,1<=n/\runN P n (lone fr (c::cs) w)=.next (lone g cs w1):=by
 obtain⟨n,hn⟩:=h;cases n with
 |zero=>
  simp only[runN,Stepped.next.injEq,lone,Machine.mk.injEq]at hn;simp at hn
 |succ n=>exact⟨n+1,by omega,hn⟩
def N5 (n j:Nat) (v:fu) (h:(Builtin.zeroCells #[iv 0] n)[j]?=some v):v=iv 0:=by
 unfold Builtin.zeroCells at h;rw[zCP]at h;cases hr:(Array.range (n*(#[iv 0]:Array fu).size))[j]? with
 |none=>rw[hr]at h;cases h
 |some x=>
  rw[hr]at h;simp only[zBJ,zAB]at h;rw[<-h];have:x%1=0:=Nat.mod_one x;simp[this]
def RI {S:Nat->Bool} (n:Nat):AR S p (#[iv 1]++Builtin.zeroCells #[iv 0] n) (#[iv 1]++Array.replicate n (iv 0)):=by
 refine⟨by simp[Builtin.zeroCells],λi x y h1 h2=>?_⟩
 have e1:x=if i=0 then iv 1 else iv 0:=by
  rw[zFD]at h1;split at h1
  .rename_i hi;have:i=0:=by simpa using hi
   subst this;simp at h1;simp[h1]
  .rename_i hi;have:i≠0:=by intro h;simp[h]at hi
   rw[zAG this];exact N5 n _ _ h1
 have e2:y=if i=0 then iv 1 else iv 0:=by
  rw[zFD]at h2;split at h2
  .rename_i hi;have:i=0:=by simpa using hi
   subst this;simp at h2;simp[h2]
  .rename_i hi;have:i≠0:=by intro h;simp[h]at hi
   rw[zAG this];rw[zDX]at h2;split at h2
   .exact(zAW h2).symm
   .cases h2
 rw[e1,e2];split
 .exact .int _ _
 .exact .int _ _
def zbo:∀o,ia Sm o=false:=z6 λn h=>by
 cases hs:Sm n with
 |false=>rfl
 |true=>rcases Ny hs with h|h<;>omega
noncomputable def zbp (N:Nat):vw WP Sm BO N (HA Ko) HP (CC Ko)where
 a0:=λ_=>1
 m1:=2
 ans:=λu' _ i _=>match i with|0=>0|_=>cOf u'-1
 ln:=2
 q3:=λp L _ _ u' _=>q44 p L u'
 val:=valOf
 only:=λfn c c' c0 h hc=>.inl (Xe h hc)
 marked:=Ry
 bare:=zbo
 Fm:=λv w w' h x=>NZ h x
 check:=λp lf f v cs hf hh ht=>by
  obtain⟨k,lk,_,elf⟩:=vV hf hh;have cB:=N3 hf hh;rw[Az,Ue]at elf;let i9:=lf.tmps.setIfInBounds 23 (iv 0)
  let jR:=(i9.setIfInBounds 24 (.bool true)).setIfInBounds 59 (iv 7)
  have z1:i9.size=lf.tmps.size:=by simp[i9]
  have z2:jR.size=lf.tmps.size:=by simp[jR,z1]
  have g23:i9.getD 23 undef=iv 0:=am _ _ _ _ (by omega)
  have g24:jR.getD 24 undef=.bool true:=by
   show((i9.setIfInBounds 24 (.bool true)).setIfInBounds 59 (iv 7)).getD 24 undef=_;rw[Go.aD.getD_set_ne _ _ _ (by decide)];exact am _ _ _ _ (by omega)
  have g59:jR.getD 59 undef=iv 7:=am _ _ _ _ (by simp;omega)
  have low:∀i,i<20->jR.getD i undef=lf.tmps.getD i undef:=λi hi=>by
   show((i9.setIfInBounds 24 (.bool true)).setIfInBounds 59 (iv 7)).getD i undef=_;rw[Go.aD.getD_set_ne _ _ _ (by omega),Go.aD.getD_set_ne _ _ _ (by omega),Go.aD.getD_set_ne _ _ _ (by omega)]
  have v59:(lf.tmps.setIfInBounds 59 (iv 7)).getD 59 undef=iv 7:=am _ _ _ _ (by omega);let v1:nq:={v with drawn:=v.drawn+1}
  let k1:List Item:=[.code (.seq (.region 10 pW false) .ret)]++lk
  obtain⟨bV,h9⟩:=zbl (b:=eW) (tm:=jR) (k:=.code (.seq (.region 10 pW false) .ret)::lk) (cs:=cs) (w:=v1) g59 (by omega);have el:=zBE (λx=>lone x cs v) elf
  have st:Steps WP (lone lf cs v) (lone ((aD.bH eW bV [] (.inRegion LW [2]:: .code (.seq (.region 10 pW false) .ret)::lk)).raise [{v:=.iface 3 (.func (.func 196) #[] #[jR.getD 1 undef,jR.getD 5 undef,iv 7]),recovered:=false}]) cs v1):=by
   rw[el];exact .head aD.eH ((Xc (b:=eW) (tm:=lf.tmps) (k:=.code Ay::lk) (cs:=cs) (w:=v) ht).trans (.head aD.eH ((Ud (b:=eW) (z:=0) (k:=.code (.seq (.cond (.tmp 24) (.region 9 LW false) .skip) (.seq (.region 10 pW false) .ret))::lk) (cs:=cs) (w:=v1) g23).trans (.head aD.eH (.head (aD.oE (t:=true) g24) h9)))))
  obtain⟨n,hn⟩:=st;refine⟨n,_,v1,{v:=.iface 3 (.func (.func 196) #[] #[jR.getD 1 undef,jR.getD 5 undef,iv 7]),recovered:=false},hn,rfl,?_,⟨⟨[],.nil⟩,λd x r s k h=>?_⟩,rfl⟩
  .show _=valOf lf;unfold valOf;rw[v59,low 1 (by decide),low 5 (by decide)]
  .cases h
 ha:=λp lf f v w2 hf hh hw hc=>⟨N,p,lf,v,hf,hh,hw,hc,λ_ h=>h⟩
 pass:=λp lf f v w2 lc cs u' w3 fH bQ hf hh hw hp ht=>by
  obtain⟨r,cap,n,rfl,h2,h3,h4,h5,h6,h7,h8,rfl,rfl⟩:=hp;obtain⟨k,lk,_,elf⟩:=vV hf hh;have cB:=N3 hf hh;rw[Az,Ue]at elf;let i9:=lf.tmps.setIfInBounds 23 (iv 1)
  let jR:=(i9.setIfInBounds 24 (.bool false)).setIfInBounds 59 (iv 7)
  have z1:i9.size=lf.tmps.size:=by simp[i9]
  have z2:jR.size=lf.tmps.size:=by simp[jR,z1]
  have g23:i9.getD 23 undef=iv 1:=am _ _ _ _ (by omega)
  have g24:jR.getD 24 undef=.bool false:=by
   show((i9.setIfInBounds 24 (.bool false)).setIfInBounds 59 (iv 7)).getD 24 undef=_;rw[Go.aD.getD_set_ne _ _ _ (by decide)];exact am _ _ _ _ (by omega)
  let v0:nq:={v with drawn:=v.drawn+1}
  let v1:nq:=((v0.alloc (.cells #[iv 1] 3)).drew).alloc (Ky n)
  have jI:=h6.symm;have t0:∀q,v.tape v.drawn q=0:=λq=>ht 0 (by decide) q
  have t1:∀q,v0.tape v0.drawn q=n:=λq=>by
   have:=ht 1 (by decide) q;rw[show v0.tape v0.drawn q=v.tape (v.drawn+1) q from rfl,this];show cap-1=n;omega
  have el:=zBE (λx=>lone x (lc::cs) v) elf
  have st:Steps WP (lone lf (lc::cs) v) (lone (lc.finish (.tuple #[.slice (some ⟨v.heap.size+1,0,none⟩) 1 (n+1),iv 0])) cs v1):=by
   rw[el]
   exact .head aD.eH ((Xb (b:=eW) (tm:=lf.tmps) (k:=.code Ay::lk) (cs:=lc::cs) (w:=v) t0).trans (.head aD.eH ((Ud (b:=eW) (z:=1) (k:=.code (.seq (.cond (.tmp 24) (.region 9 LW false) .skip) (.seq (.region 10 pW false) .ret))::lk) (cs:=lc::cs) (w:=v0) g23).trans
    (.head aD.eH (.head (aD.oE (t:=false) g24) (.head aD.uC (Xd (b:=eW) (tm:=jR) (w:=v0) rfl rfl rfl (by omega) (by omega) t1 lc)))))))
  obtain⟨nn,p1,p2⟩:=N4 st;have hr:rOf (.tuple #[.slice (some ⟨r,0,none⟩) 1 cap,iv 0])=r:=rfl;have zbr:v1.heap.size=v.heap.size+2:=by simp[v1,v0]
  have hx:q44 p v.heap.size (.tuple #[.slice (some ⟨r,0,none⟩) 1 cap,iv 0])=⟨λa b=>p a b\/(a=v.heap.size+1/\b=r),p.x,p.l⟩:=rfl
  have old:∀a,a<v.heap.size->v1.heap[a]?=v.heap[a]?:=λa ha=>by
   show(((v.heap.push _)).push _)[a]?=_;rw[Array.getElem?_push_lt (by simp;omega)];rw[<-zAK,Array.getElem?_push_lt ha,<-zAK]
  have new:v1.heap[v.heap.size+1]?=some (Ky n):=by
   show(((v.heap.push _)).push _)[v.heap.size+1]?=_;rw[zBK];simp
  have hL:=hw.low;have hg:=dp;have Gn:=hw.gY;have LY:=hw.kZ;have hle:Le p (q44 p v.heap.size (.tuple #[.slice (some ⟨r,0,none⟩) 1 cap,iv 0])):=⟨λa b h=>Or.inl h,λ_ _ h=>h,λ_ _ _ _ h=>h,rfl⟩
  refine⟨nn,_,v1,p1,p2,?_,?_,hle,?_,?_,rfl,rfl,zbr⟩
  .rw[hx,jI];refine .tuple rfl λi x x' h1 sQ=>?_;match i,h1,sQ with
   |0,h1,sQ=>
    simp only[zCC,zBB,zAB]at h1 sQ;subst h1;subst sQ;exact .slice 0 none 1 (n+1) (Or.inr ⟨rfl,rfl⟩) λ_=>hw.xv _
   |1,h1,sQ=>
    simp only[zCC,zBI,zBB,zAB]at h1 sQ;subst h1;subst sQ;exact .int _ _
   |i+2,h1,sQ=>simp at h1
  .rw[hx];refine⟨λa a' b b' x y=>?_,λa b x=>?_,by omega,λa b x=>?_,by omega,zAM LY h8.1,hw.str,hw.xv⟩
   .rcases x with x|⟨rfl,rfl⟩<;>rcases y with y|⟨rfl,rfl⟩
    .exact hw.inj a a' b b' x y
    .have:=(hw.lt x).1;exact⟨λe=>by omega,λe=>(h2 ⟨a,e▸x⟩).elim⟩
    .have:=(hw.lt y).1;exact⟨λe=>by omega,λe=>(h2 ⟨b,e▸y⟩).elim⟩
    .exact⟨λ_=>rfl,λ_=>rfl⟩
   .rcases x with x|⟨rfl,rfl⟩
    .obtain⟨o,o',b1,b2,b3⟩:=hw.blk a b x;refine⟨o,o',(old a (hw.lt x).1).trans b1,(h8.2 b ⟨a,x⟩).trans b2,b3.imp (λ⟨h,k⟩=>⟨h,k.mono hle⟩) λ⟨h,k⟩=>⟨h,k.mono hle⟩⟩
    .exact⟨_,_,new,h7,.inr ⟨by omega,.cells 3 (0,0) (λ_=>zAA 0) (RI n)⟩⟩
   .rcases x with x|⟨rfl,rfl⟩
    .exact hw.fix a b x
    .omega
  .funext s;rw[hx];apply propext;constructor
   .rintro(⟨a,h⟩|rfl)
    .exact⟨a,Or.inl h⟩
    .exact⟨_,Or.inr ⟨rfl,rfl⟩⟩
   .rintro⟨a,h|⟨_,rfl⟩⟩
    .exact .inl ⟨a,h⟩
    .exact .inr rfl
  .funext s;rw[hx];apply propext;constructor
   .rintro(⟨a,h,k⟩|rfl)
    .exact⟨a,Or.inl h,k⟩
    .exact⟨_,Or.inr ⟨rfl,rfl⟩,by omega⟩
   .rintro⟨a,h|⟨_,rfl⟩,k⟩
    .exact .inl ⟨a,h,k⟩
    .exact .inr rfl
end Go.Proofs.Cw
