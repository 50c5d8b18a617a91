/- A part. Conditions: none. -/
import Derived.Test.YtddlcmejelobdaaGreatDoorT13
set_option linter.all false
namespace Go.Proofs.Cw
open Go.aC
set_option maxRecDepth 1000000
def c13:ql (bD WP (qq 2000) (bJ 13) false T13 (iV n13 l13)) T14 n14 l14=true:=by kernel_rfl
def c14:ql (bD WP (qq 2000) (bJ 14) true T14 (iV n14 l14)) T15 n15 l15=true:=by kernel_rfl
def c15:ql (bD WP (qq 2000) (bJ 15) false T15 (iV n15 l15)) T16 n16 l16=true:=by kernel_rfl
def c16:ql (bD WP (qq 2000) (bJ 16) true T16 (iV n16 l16)) T17 n17 l17=true:=by kernel_rfl
def c17:ql (bD WP (qq 2000) (bJ 17) false T17 (iV n17 l17)) T18 n18 l18=true:=by kernel_rfl
def c18:ql (bD WP (qq 2000) (bJ 18) false T18 (iV n18 l18)) T19 n19 l19=true:=by kernel_rfl
def c19:ql (bD WP (qq 2000) (bJ 19) false T19 (iV n19 l19)) T20 n20 l20=true:=by kernel_rfl
def c20:ql (bD WP (qq 2000) (bJ 20) false T20 (iV n20 l20)) T21 n21 l21=true:=by kernel_rfl
end Go.Proofs.Cw

namespace Go.Proofs.Cw
open Go.aC
set_option maxRecDepth 1000000
def c0:ql (bD WP (qq 2000) (bJ 0) false T0 (iV n0 l0)) T1 n1 l1=true:=by kernel_rfl
def c1:ql (bD WP (qq 2000) (bJ 1) false T1 (iV n1 l1)) T2 n2 l2=true:=by kernel_rfl
def c2:ql (bD WP (qq 2000) (bJ 2) false T2 (iV n2 l2)) T3 n3 l3=true:=by kernel_rfl
def c3:ql (bD WP (qq 2000) (bJ 3) false T3 (iV n3 l3)) T4 n4 l4=true:=by kernel_rfl
def c4:ql (bD WP (qq 2000) (bJ 4) false T4 (iV n4 l4)) T5 n5 l5=true:=by kernel_rfl
def c5:ql (bD WP (qq 2000) (bJ 5) false T5 (iV n5 l5)) T6 n6 l6=true:=by kernel_rfl
def c6:ql (bD WP (qq 2000) (bJ 6) false T6 (iV n6 l6)) T7 n7 l7=true:=by kernel_rfl
end Go.Proofs.Cw

namespace Go.Proofs.Cw
open Go.aC
set_option maxRecDepth 1000000
def c11:ql (bD WP (qq 2000) (bJ 11) false T11 (iV n11 l11)) T12 n12 l12=true:=by kernel_rfl
def c12:ql (bD WP (qq 2000) (bJ 12) false T12 (iV n12 l12)) T13 n13 l13=true:=by kernel_rfl
end Go.Proofs.Cw

namespace Go.Proofs.Cw
open Go.aC
set_option maxRecDepth 1000000
def c9:ql (bD WP (qq 2000) (bJ 9) false T9 (iV n9 l9)) J2 n10 l10=true:=by kernel_rfl
def c10:ql (bD WP (qq 2000) (bJ 10) false J2 (iV n10 l10)) T11 n11 l11=true:=by kernel_rfl
end Go.Proofs.Cw

namespace Go.Proofs.Cw
open Go.aC
set_option maxRecDepth 1000000
def c7:ql (bD WP (qq 2000) (bJ 7) false T7 (iV n7 l7)) T8 n8 l8=true:=by kernel_rfl
def c8:ql (bD WP (qq 2000) (bJ 8) false T8 (iV n8 l8)) T9 n9 l9=true:=by kernel_rfl
end Go.Proofs.Cw

noncomputable section
namespace Go.Proofs.Cw
open Go.aC
variable {H:Hp} {T:List fu} {cs:List Frame} {k:List Item} {m0:Machine}
set_option maxRecDepth 1000000
def M9 (k:Nat):Bool:=Nat.beq k 14||Nat.beq k 16
def Ao:Nat->Bool
 |0=>true
 |n+1=>Ao n&&fA WP Sb (bJ n) (M9 n)
def J4:Ao 21=true:=by kernel_rfl
def yC:∀(n k:Nat),Ao n=true->k<n->fA WP Sb (bJ k) (M9 k)=true
 |0,k,_,h=>by omega
 |n+1,k,h,hk=>by
  simp only[Ao,zAE]at h;by_cases e:k=n
  .subst e;exact h.2
  .exact yC n k h.1 (by omega)
def J5:(fA WP Sb M6 false&&fA WP Sb M7 true&&fA WP Sb M8 false)=true:=by kernel_rfl
def rB:Frame:=Frame.enter WP 9 #[] .normal
def lu (cs:List Frame) (m0:Machine) (c:Code) (k:List Item) (T:List fu) (H:Hp):Prop:=
 (∃tm w,Steps WP m0 (lone (bB rB tm [] (.code c::k)) cs w)/\Sf WP Sb H T tm w)\/iU WP C0 rB [] cs m0
def lu.PH {id:Nat} {ops:Array Oper} {d:Bool} {T1:List fu} {n1:Nat} {l1:List (Nat×Obj)} (h:lu cs m0 (.region id ops d) k T H) (hs:fA WP Sb ops d=true) (hc:ql (bD WP (qq 2000) ops d T H) T1 n1 l1=true):
 (∃tm w,Steps WP m0 (lone (bB rB tm [] k) cs w)/\Sf WP Sb (iV n1 l1) T1 tm w)\/iU WP C0 rB [] cs m0:=by
 rcases h with⟨tm,w,h1,h2⟩|h
 .rcases seg Ah (Wo 2000) hs hc h2 id rB k cs with⟨bR,w',h3,h4⟩|h
  .exact .inl ⟨bR,w',h1.trans h3,h4⟩
  .exact .inr (.of_steps h1 h)
 .exact .inr h
def lu.seq {a b:Code} (h:lu cs m0 (.seq a b) k T H):lu cs m0 a (.code b::k) T H:=by
 rcases h with⟨tm,w,h1,h2⟩|h
 .exact .inl ⟨tm,w,h1.trans (.one et),h2⟩
 .exact .inr h
def lu.next {cs:List Frame} {m0:Machine} {k:Nat} {T T1:List fu} {H:Hp} {n1:Nat} {l1:List (Nat×Obj)} {id:Nat} {d:Bool} (h:lu cs m0 (aP k) [] T H) (e:aP k=.seq (.region id (bJ k) d) (aP (k+1))) (hs:fA WP Sb (bJ k) d=true)
 (hc:ql (bD WP (qq 2000) (bJ k) d T H) T1 n1 l1=true):lu cs m0 (aP (k+1)) [] T1 (iV n1 l1):=by
 rw[e]at h;exact h.seq.PH hs hc
def e0:aP 0=.seq (.region 0 (bJ 0) false) (aP 1):=by kernel_rfl
def e1:aP 1=.seq (.region 1 (bJ 1) false) (aP 2):=by kernel_rfl
def e2:aP 2=.seq (.region 2 (bJ 2) false) (aP 3):=by kernel_rfl
def e3:aP 3=.seq (.region 3 (bJ 3) false) (aP 4):=by kernel_rfl
def e4:aP 4=.seq (.region 4 (bJ 4) false) (aP 5):=by kernel_rfl
def e5:aP 5=.seq (.region 5 (bJ 5) false) (aP 6):=by kernel_rfl
def e6:aP 6=.seq (.region 6 (bJ 6) false) (aP 7):=by kernel_rfl
def e7:aP 7=.seq (.region 7 (bJ 7) false) (aP 8):=by kernel_rfl
def e8:aP 8=.seq (.region 8 (bJ 8) false) (aP 9):=by kernel_rfl
def e9:aP 9=.seq (.region 9 (bJ 9) false) (aP 10):=by kernel_rfl
def qV:aP 10=.seq (.region 10 (bJ 10) false) (aP 11):=by kernel_rfl
def Ik:aP 11=.seq (.region 11 (bJ 11) false) (aP 12):=by kernel_rfl
def e12:aP 12=.seq (.region 12 (bJ 12) false) (aP 13):=by kernel_rfl
def e13:aP 13=.seq (.region 13 (bJ 13) false) (aP 14):=by kernel_rfl
def e14:aP 14=.seq (.region 14 (bJ 14) true) (aP 15):=by kernel_rfl
def e15:aP 15=.seq (.region 15 (bJ 15) false) (aP 16):=by kernel_rfl
def e16:aP 16=.seq (.region 16 (bJ 16) true) (aP 17):=by kernel_rfl
def e17:aP 17=.seq (.region 17 (bJ 17) false) (aP 18):=by kernel_rfl
def e18:aP 18=.seq (.region 18 (bJ 18) false) (aP 19):=by kernel_rfl
def e19:aP 19=.seq (.region 19 (bJ 19) false) (aP 20):=by kernel_rfl
def e20:aP 20=.seq (.region 20 (bJ 20) false) (aP 21):=by kernel_rfl
def zfF (h:lu cs m0 (aP 0) [] T0 (iV n0 l0)):lu cs m0 (aP 21) [] T21 (iV n21 l21):=by
 have r:=λk hk=>yC 21 k J4 hk;have h:=h.next e0 (r 0 (by omega)) c0;have h:=h.next e1 (r 1 (by omega)) c1;have h:=h.next e2 (r 2 (by omega)) c2;have h:=h.next e3 (r 3 (by omega)) c3;have h:=h.next e4 (r 4 (by omega)) c4;have h:=h.next e5 (r 5 (by omega)) c5;have h:=h.next e6 (r 6 (by omega)) c6;have h:=h.next e7 (r 7 (by omega)) c7;have h:=h.next e8 (r 8 (by omega)) c8;have h:=h.next e9 (r 9 (by omega)) c9;have h:=h.next qV (r 10 (by omega)) c10;have h:=h.next Ik (r 11 (by omega)) c11;have h:=h.next e12 (r 12 (by omega)) c12;have h:=h.next e13 (r 13 (by omega)) c13;have h:=h.next e14 (r 14 (by omega)) c14;have h:=h.next e15 (r 15 (by omega)) c15;have h:=h.next e16 (r 16 (by omega)) c16;have h:=h.next e17 (r 17 (by omega)) c17;have h:=h.next e18 (r 18 (by omega)) c18;have h:=h.next e19 (r 19 (by omega)) c19;exact h.next e20 (r 20 (by omega)) c20
def Wp:Code:=match p21 with|.seq _ (.cond _ a _)=>a|_=>.skip
def Wq:Code:=match p23 with|.seq _ (.cond _ a _)=>a|_=>.skip
def Q0:aP 21=.seq (.seq (.region 21 M6 false) (.cond (.tmp 202) Wp .skip)) (.seq (.seq (.region 23 M7 true) (.cond (.tmp 258) Wq .skip)) (.seq (.region 25 M8 false) .ret)):=by kernel_rfl
def Wr:tu 3 (jU T22 202) (.bool false)=true:=by kernel_rfl
def Ws:tu 3 (jU T23 258) (.bool false)=true:=by kernel_rfl
def TP:Bool:=match aF WP (results Tryz.f9 T24.toArray) (iV n24 l24)with
 |some (.bool true,_,_,_)=>true
 |_=>false
def Na:TP=true:=by kernel_rfl
def lu.cond {cs:List Frame} {m0:Machine} {t:Nat} {a:Code} {k:List Item} {T:List fu} {H:Hp} (h:lu cs m0 (.cond (.tmp t) a .skip) k T H) (ht:bS T t=.bool false):
 (∃tm w,Steps WP m0 (lone (bB rB tm [] k) cs w)/\Sf WP Sb H T tm w)\/iU WP C0 rB [] cs m0:=by
 rcases h with⟨tm,w,h1,p,h2,h3⟩|h
 .have hv:tm.getD t undef=.bool false:=nJ (by have:=h2.tr t;rwa [ht]at this);exact .inl ⟨tm,w,h1.trans (.head (nE (t:=false) hv) (.one tM)),p,h2,h3⟩
 .exact .inr h
def lu.in {c:Code} (h:(∃tm w,Steps WP m0 (lone (bB rB tm [] (.code c::k)) cs w)/\Sf WP Sb H T tm w)\/iU WP C0 rB [] cs m0):lu cs m0 c k T H:=h
def built {w:nq} {fz:Nat×Nat} (h0:w.heap[0]?=some (.cells #[Bu 183,Bu 184,Bu 185,Bu 186] 144 fz)):
 Calls WP 9 #[] w λe w'=>e=.returned (.bool true)\/∃chain,e=.panicked chain/\C0 chain w':=by
 intro cs;let m0:Machine:=lone (Frame.enter WP 9 #[] .normal) cs w
 have av:0<w.heap.size:=(zAD.1 h0).1
 have start:lu cs m0 (aP 0) [] T0 (iV n0 l0):=by
  refine .inl ⟨Array.replicate 288 undef,w,?_,⟨λr r'=>r=0/\r'=0,λ_ _=>False,true⟩,⟨by simp;rfl,⟨λr _ o ho=>?_,λr s r' _ _ _ _ x y=>x.1.trans y.1.symm,λr r' x=>by rw[x.2];exact av,λr k x=>x.elim,⟨λr r' s s' x y _=>?_,λr r' x=>?_,λr r' s' x y=>x.2.trans y.2.symm,λh=>by cases h⟩,by rw[dc];omega,rfl⟩,λx=>?_,.nil,λg hg _=>?_,by rw[dc];exact zAB 1⟩,λr hr r' x=>?_⟩
  .have hb:Tryz.f9.body=some (aP 0):=by
    show Tryz.f9.body=some M5;rfl
   have hnt:Tryz.f9.ntmps=288:=Tw.ntmps9
   have:Frame.enter WP 9 #[] .normal=bB rB (Array.replicate 288 undef) [] [.code (aP 0)]:=by
    unfold rB;simp only[bB,Frame.enter,Tw.func9,zBA,zAC,zDP,hb,hnt];simp
   show Steps _ (lone (Frame.enter WP 9 #[] .normal) cs w) _;rw[this];exact .refl _ _
  .have hm:=gK ho;simp only[l0,zAL,zBX,or_false,zAH]at hm;obtain⟨rfl,rfl⟩:=hm;have fnR:∀f,Sb f=true->aC.VR Sb ⟨λr r'=>r=0/\r'=0,λ_ _=>False,true⟩ (Bu f) (Bu f):=λf hf=>.func hf rfl rfl (λi v v' h=>by simp at h) λi v v' h=>by simp at h
   have XZ:aC.AR Sb ⟨λr r'=>r=0/\r'=0,λ_ _=>False,true⟩ #[Bu 183,Bu 184,Bu 185,Bu 186] #[Bu 183,Bu 184,Bu 185,Bu 186]:=
    (((aC.AR.one (fnR 183 (by decide))).push (fnR 184 (by decide))).push (fnR 185 (by decide))).push (fnR 186 (by decide))
   refine⟨0,_,⟨rfl,rfl⟩,h0,.cM rfl 144 (0,4) fz (zAB 4) (.inl ⟨rfl,zAB 4⟩) (λi v' hi qY=>?_) XZ.2,λk x=>x.elim,.inr λ_ _ _ _ _ _ a b=>by cases a;cases b;rfl⟩;have h4:=(zAD.1 qY).1;have hi:4<=i:=hi;have h4:i<4:=h4;omega
  .constructor<;>intro<;>omega
  .rw[dc];constructor<;>intro<;>omega
  .have e:bS T0 x=undef:=by
    have:T0=List.replicate 288 undef:=by rfl
    rw[this];have:=sx [] 288 x;rw[zDW]at this;rw[this];rfl
   rw[e]
   have:(Array.replicate 288 undef).getD x undef=undef:=by
    rw[zAX,zDZ];split<;>rfl
   rw[this];exact aC.VR.undef
  .rw[dc]at hg;exact⟨by omega,by omega⟩
  .have hr:1<=r:=hr;have:=x.1;omega
 have h21:=zfF start;rw[Q0]at h21;have TQ:=J5;simp only[zAE]at TQ;have s21:bS T22 202=.bool false:=by rw[<-fK];exact nG 3 _ _ Wr
 have s23:bS T23 258=.bool false:=by rw[<-fK];exact nG 3 _ _ Ws
 have g1:=h21.seq.seq.PH TQ.1.1 c21;have g2:=(lu.in g1).cond s21;have g3:=(lu.in g2).seq.seq.PH TQ.1.2 c23;have g4:=(lu.in g3).cond s23;have g5:=(lu.in g4).seq.PH TQ.2 c25;rcases g5 with⟨tm,w',h1,p,h2,h3⟩|⟨tm,todo,chain,w1,h1,h2⟩
 .have hr:=Na;unfold TP at hr;split at hr
  .rename_i H' R' W' er;obtain⟨v',w2,q,a1,a2,_,_⟩:=iu (Fp:=λ_=>True) (aC.SR.results (fn:=Tryz.f9) (mv:=Tryz.f9) rfl (iF h2.sz h2.tr)) er h2.rl h2.hg (λr x _=>h3 r x) (λ_ _=>trivial);have hw:=bg.results Tryz.f9 tm WP w' v' w2 a1;subst hw;have hv:v'=.bool true:=nJ a2;subst hv;exact⟨.returned (.bool true),w2,wU rB tm [] [.code .ret],.inl rfl,h1.trans (.one (mS (j:=some .ret) rfl ⟨_,rfl⟩ rfl)),rfl,rfl,rfl,rfl,Tryz.f9,Tw.func9,a1⟩
  .cases hr
 .exact⟨.panicked chain,w1,(bB rB tm [] todo).raise chain,.inr ⟨chain,rfl,h2⟩,h1,rfl,rfl,rfl,Tryz.f9,Tw.func9⟩
end Go.Proofs.Cw
end
