/- A part. Conditions: none. -/
import Derived.Test.YtboiakcocelkmaaGreatDoorT14
import Derived.Test.YtboiakcocelkmaaGreatDoorT15
import Derived.Test.YtboiakcocelkmaaGreatDoorT16
import Derived.Test.YtboiakcocelkmaaGreatDoorT17
import Derived.Test.YtboiakcocelkmaaGreatDoorT18
set_option linter.all false
namespace Go.Proofs.Cw
open Go.aA
variable {H:Hp} {T:List Value} {cs:List Frame} {k:List Item} {m0:Machine}
set_option maxRecDepth 1000000
def IQ (k:Nat):Bool:=Nat.beq k 14||Nat.beq k 16
noncomputable def wH:Nat->Bool
 |0=>true
 |n+1=>wH n&&ew WP Sb (bu n) (IQ n)
theorem Fx:wH 21=true:=by kernel_rfl
theorem uW:∀(n k:Nat),wH n=true->k<n->ew WP Sb (bu k) (IQ k)=true
 |0,k,_,h=>by omega
 |n+1,k,h,hk=>by
  simp only[wH,Bool.and_eq_true]at h;by_cases e:k=n
  .subst e;exact h.2
  .exact uW n k h.1 (by omega)
theorem Fy:(ew WP Sb IM false&&ew WP Sb IN true&&ew WP Sb IP false)=true:=by kernel_rfl
noncomputable def pl:Frame:=Frame.enter WP 6 #[] .normal
def jZ (cs:List Frame) (m0:Machine) (c:Code) (k:List Item) (T:List Value) (H:Hp):Prop:=
 (∃tm w,Steps WP m0 (lone (bg pl tm [] (.code c::k)) cs w)/\Sf WP Sb H T tm w)\/gN WP zh pl [] cs m0
theorem jZ.Xc {id:Nat} {ops:Array Oper} {d:Bool} {T1:List Value} {n1:Nat} {l1:List (Nat×Obj)} (h:jZ cs m0 (.region id ops d) k T H) (hs:ew WP Sb ops d=true) (hc:nN (bi WP (nS 2000) ops d T H) T1 n1 l1=true):
 (∃tm w,Steps WP m0 (lone (bg pl tm [] k) cs w)/\Sf WP Sb (gO n1 l1) T1 tm w)\/gN WP zh pl [] cs m0:=by
 rcases h with⟨tm,w,h1,h2⟩|h
 .rcases YH wB (Qs 2000) hs hc h2 id pl k cs with⟨bF,w',h3,h4⟩|h
  .exact .inl ⟨bF,w',h1.trans h3,h4⟩
  .exact .inr (.of_steps h1 h)
 .exact .inr h
theorem jZ.seq {a b:Code} (h:jZ cs m0 (.seq a b) k T H):jZ cs m0 a (.code b::k) T H:=by
 rcases h with⟨tm,w,h1,h2⟩|h
 .exact .inl ⟨tm,w,h1.trans (.one dG),h2⟩
 .exact .inr h
theorem jZ.next {cs:List Frame} {m0:Machine} {k:Nat} {T T1:List Value} {H:Hp} {n1:Nat} {l1:List (Nat×Obj)} {id:Nat} {d:Bool} (h:jZ cs m0 (aI k) [] T H) (e:aI k=.seq (.region id (bu k) d) (aI (k+1))) (hs:ew WP Sb (bu k) d=true)
 (hc:nN (bi WP (nS 2000) (bu k) d T H) T1 n1 l1=true):jZ cs m0 (aI (k+1)) [] T1 (gO n1 l1):=by
 rw[e]at h;exact h.seq.Xc hs hc
theorem e0:aI 0=.seq (.region 0 (bu 0) false) (aI 1):=by kernel_rfl
theorem e1:aI 1=.seq (.region 1 (bu 1) false) (aI 2):=by kernel_rfl
theorem e2:aI 2=.seq (.region 2 (bu 2) false) (aI 3):=by kernel_rfl
theorem e3:aI 3=.seq (.region 3 (bu 3) false) (aI 4):=by kernel_rfl
theorem e4:aI 4=.seq (.region 4 (bu 4) false) (aI 5):=by kernel_rfl
theorem e5:aI 5=.seq (.region 5 (bu 5) false) (aI 6):=by kernel_rfl
theorem e6:aI 6=.seq (.region 6 (bu 6) false) (aI 7):=by kernel_rfl
theorem e7:aI 7=.seq (.region 7 (bu 7) false) (aI 8):=by kernel_rfl
theorem e8:aI 8=.seq (.region 8 (bu 8) false) (aI 9):=by kernel_rfl
theorem e9:aI 9=.seq (.region 9 (bu 9) false) (aI 10):=by kernel_rfl
theorem oB:aI 10=.seq (.region 10 (bu 10) false) (aI 11):=by kernel_rfl
theorem DR:aI 11=.seq (.region 11 (bu 11) false) (aI 12):=by kernel_rfl
theorem e12:aI 12=.seq (.region 12 (bu 12) false) (aI 13):=by kernel_rfl
theorem e13:aI 13=.seq (.region 13 (bu 13) false) (aI 14):=by kernel_rfl
theorem e14:aI 14=.seq (.region 14 (bu 14) true) (aI 15):=by kernel_rfl
theorem e15:aI 15=.seq (.region 15 (bu 15) false) (aI 16):=by kernel_rfl
theorem e16:aI 16=.seq (.region 16 (bu 16) true) (aI 17):=by kernel_rfl
theorem e17:aI 17=.seq (.region 17 (bu 17) false) (aI 18):=by kernel_rfl
theorem e18:aI 18=.seq (.region 18 (bu 18) false) (aI 19):=by kernel_rfl
theorem e19:aI 19=.seq (.region 19 (bu 19) false) (aI 20):=by kernel_rfl
theorem e20:aI 20=.seq (.region 20 (bu 20) false) (aI 21):=by kernel_rfl
theorem zal (h:jZ cs m0 (aI 0) [] T0 (gO n0 l0)):jZ cs m0 (aI 21) [] Xa (gO n21 Xb):=by
 have r:=fun k hk=>uW 21 k Fx hk;have h:=h.next e0 (r 0 (by omega)) c0;have h:=h.next e1 (r 1 (by omega)) c1;have h:=h.next e2 (r 2 (by omega)) c2;have h:=h.next e3 (r 3 (by omega)) c3;have h:=h.next e4 (r 4 (by omega)) c4;have h:=h.next e5 (r 5 (by omega)) c5;have h:=h.next e6 (r 6 (by omega)) c6;have h:=h.next e7 (r 7 (by omega)) c7;have h:=h.next e8 (r 8 (by omega)) c8;have h:=h.next e9 (r 9 (by omega)) c9;have h:=h.next oB (r 10 (by omega)) c10;have h:=h.next DR (r 11 (by omega)) c11;have h:=h.next e12 (r 12 (by omega)) c12;have h:=h.next e13 (r 13 (by omega)) c13;have h:=h.next e14 (r 14 (by omega)) c14;have h:=h.next e15 (r 15 (by omega)) c15;have h:=h.next e16 (r 16 (by omega)) c16;have h:=h.next e17 (r 17 (by omega)) c17;have h:=h.next e18 (r 18 (by omega)) c18;have h:=h.next e19 (r 19 (by omega)) c19;exact h.next e20 (r 20 (by omega)) c20
noncomputable def Qt:Code:=match p21 with|.seq _ (.cond _ a _)=>a|_=>.skip
noncomputable def Qu:Code:=match p23 with|.seq _ (.cond _ a _)=>a|_=>.skip
theorem Mt:aI 21=.seq (.seq (.region 21 IM false) (.cond (.tmp 202) Qt .skip)) (.seq (.seq (.region 23 IN true) (.cond (.tmp 258) Qu .skip)) (.seq (.region 25 IP false) .ret)):=by kernel_rfl
theorem Qv:qz 3 (iW UW 202) (.bool false)=true:=by kernel_rfl
theorem Qw:qz 3 (iW UX 258) (.bool false)=true:=by kernel_rfl
noncomputable def Oj:Bool:=match aD WP (results Tryz.f6 T24.toArray) (gO n24 l24)with
 |some (.bool true,_,_,_)=>true
 |_=>false
theorem IS:Oj=true:=by kernel_rfl
theorem jZ.cond {cs:List Frame} {m0:Machine} {t:Nat} {a:Code} {k:List Item} {T:List Value} {H:Hp} (h:jZ cs m0 (.cond (.tmp t) a .skip) k T H) (ht:bG T t=.bool false):
 (∃tm w,Steps WP m0 (lone (bg pl tm [] k) cs w)/\Sf WP Sb H T tm w)\/gN WP zh pl [] cs m0:=by
 rcases h with⟨tm,w,h1,p,h2,h3⟩|h
 .have hv:tm.getD t undef=.bool false:=lM (by have:=h2.tr t;rwa [ht]at this);exact .inl ⟨tm,w,h1.trans (.head (lI (t:=false) hv) (.one qR)),p,h2,h3⟩
 .exact .inr h
theorem jZ.in {c:Code} (h:(∃tm w,Steps WP m0 (lone (bg pl tm [] (.code c::k)) cs w)/\Sf WP Sb H T tm w)\/gN WP zh pl [] cs m0):jZ cs m0 c k T H:=h
theorem built {w:World} {fz:Nat×Nat} (h0:w.heap[0]?=some (.cells #[xK 168,xK 169,xK 170,xK 171] 100 fz)):
 Calls WP 6 #[] w fun e w'=>e=.returned (.bool true)\/∃chain,e=.panicked chain/\zh chain w':=by
 intro cs;let m0:Machine:=lone (Frame.enter WP 6 #[] .normal) cs w
 have az:0<w.heap.size:=(Array.getElem?_eq_some_iff.1 h0).1
 have start:jZ cs m0 (aI 0) [] T0 (gO n0 l0):=by
  refine .inl ⟨Array.replicate 288 undef,w,?_,⟨fun r r'=>r=0/\r'=0,fun _ _=>False,true⟩,⟨by simp;rfl,⟨fun r _ o ho=>?_,fun r s r' _ _ _ _ x y=>x.1.trans y.1.symm,fun r r' x=>by rw[x.2];exact az,fun r k x=>x.elim,⟨fun r r' s s' x y _=>?_,fun r r' x=>?_,fun r r' s' x y=>x.2.trans y.2.symm,fun h=>by cases h⟩,by rw[cN];omega,rfl⟩,fun x=>?_,.nil,fun g hg _=>?_,by rw[cN];exact Nat.le_refl 1⟩,fun r hr r' x=>?_⟩
  .have hb:Tryz.f6.body=some (aI 0):=by
    show Tryz.f6.body=some IL;rfl
   have W7:Tryz.f6.ntmps=288:=Tw.ntmps6
   have:Frame.enter WP 6 #[] .normal=bg pl (Array.replicate 288 undef) [] [.code (aI 0)]:=by
    unfold pl;simp only[bg,Frame.enter,Tw.func6,Option.map_some,Option.getD_some,Option.bind_some,hb,W7];simp
   show Steps _ (lone (Frame.enter WP 6 #[] .normal) cs w) _;rw[this];exact .refl _ _
  .have hm:=fA ho;simp only[l0,List.mem_cons,List.not_mem_nil,or_false,Prod.mk.injEq]at hm;obtain⟨rfl,rfl⟩:=hm;have Xd:∀f,Sb f=true->aA.VR Sb ⟨fun r r'=>r=0/\r'=0,fun _ _=>False,true⟩ (xK f) (xK f):=fun f hf=>.func hf rfl rfl (fun i v v' h=>by simp at h) fun i v v' h=>by simp at h
   have RW:aA.AR Sb ⟨fun r r'=>r=0/\r'=0,fun _ _=>False,true⟩ #[xK 168,xK 169,xK 170,xK 171] #[xK 168,xK 169,xK 170,xK 171]:=
    (((aA.AR.one (Xd 168 (by decide))).push (Xd 169 (by decide))).push (Xd 170 (by decide))).push (Xd 171 (by decide))
   refine⟨0,_,⟨rfl,rfl⟩,h0,.ck rfl 100 (0,4) fz (Nat.le_refl 4) (.inl ⟨rfl,Nat.le_refl 4⟩) (fun i v' hi oE=>?_) RW.2,fun k x=>x.elim,.inr fun _ _ _ _ _ _ a b=>by cases a;cases b;rfl⟩;have h4:=(Array.getElem?_eq_some_iff.1 oE).1;have hi:4<=i:=hi;have h4:i<4:=h4;omega
  .constructor<;>intro<;>omega
  .rw[cN];constructor<;>intro<;>omega
  .have e:bG T0 x=undef:=by
    have:T0=List.replicate 288 undef:=by rfl
    rw[this];have:=pR [] 288 x;rw[List.nil_append]at this;rw[this];rfl
   rw[e]
   have:(Array.replicate 288 undef).getD x undef=undef:=by
    rw[Array.getD_eq_getD_getElem?,Array.getElem?_replicate];split<;>rfl
   rw[this];exact aA.VR.undef
  .rw[cN]at hg;exact⟨by omega,by omega⟩
  .have hr:1<=r:=hr;have:=x.1;omega
 have h21:=zal start;rw[Mt]at h21;have Ol:=Fy;simp only[Bool.and_eq_true]at Ol;have s21:bG UW 202=.bool false:=by rw[<-eM];exact lK 3 _ _ Qv
 have s23:bG UX 258=.bool false:=by rw[<-eM];exact lK 3 _ _ Qw
 have g1:=h21.seq.seq.Xc Ol.1.1 c21;have g2:=(jZ.in g1).cond s21;have g3:=(jZ.in g2).seq.seq.Xc Ol.1.2 c23;have g4:=(jZ.in g3).cond s23;have g5:=(jZ.in g4).seq.Xc Ol.2 c25;rcases g5 with⟨tm,w',h1,p,h2,h3⟩|⟨tm,todo,chain,w1,h1,h2⟩
 .have hr:=IS;unfold Oj at hr;split at hr
  .rename_i H' R' W' er;obtain⟨v',w2,q,a1,a2,_,_⟩:=ga (Fp:=fun _=>True) (aA.SR.results (fn:=Tryz.f6) (kD:=Tryz.f6) rfl (gA h2.sz h2.tr)) er h2.rl h2.hg (fun r x _=>h3 r x) (fun _ _=>trivial);have hw:=aT.results Tryz.f6 tm WP w' v' w2 a1;subst hw;have hv:v'=.bool true:=lM a2;subst hv;exact⟨.returned (.bool true),w2,tN pl tm [] [.code .ret],.inl rfl,h1.trans (.one (kY (j:=some .ret) rfl ⟨_,rfl⟩ rfl)),rfl,rfl,rfl,rfl,Tryz.f6,Tw.func6,a1⟩
  .cases hr
 .exact⟨.panicked chain,w1,(bg pl tm [] todo).raise chain,.inr ⟨chain,rfl,h2⟩,h1,rfl,rfl,rfl,Tryz.f6,Tw.func6⟩
end Go.Proofs.Cw
