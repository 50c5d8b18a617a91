/- A part. Conditions: none. -/
import Derived.Test.YtehbindidbgacaaGreatDoorT14
import Derived.Test.YtehbindidbgacaaGreatDoorT15
import Derived.Test.YtehbindidbgacaaGreatDoorT16
import Derived.Test.YtehbindidbgacaaGreatDoorT17
import Derived.Test.YtehbindidbgacaaGreatDoorT18
set_option linter.all false
namespace Go.Proofs.Cw
open Go.av
variable {H:Hp} {T:List Value} {cs:List Frame} {k:List Item} {m0:Machine}
set_option maxRecDepth 1000000
def Ik (k:Nat):Bool:=Nat.beq k 14||Nat.beq k 16
noncomputable def wB:Nat->Bool
 |0=>true
 |n+1=>wB n&&ey WP Sb (br n) (Ik n)
theorem E0:wB 21=true:=by kernel_rfl
theorem uP:∀(n k:Nat),wB n=true->k<n->ey WP Sb (br k) (Ik k)=true
 |0,k,_,h=>by omega
 |n+1,k,h,hk=>by
  simp only[wB,Bool.and_eq_true]at h;by_cases e:k=n
  .subst e;exact h.2
  .exact uP n k h.1 (by omega)
theorem E2:(ey WP Sb Ih false&&ey WP Sb Ii true&&ey WP Sb Ij false)=true:=by kernel_rfl
noncomputable def pp:Frame:=Frame.enter WP 7 #[] .normal
def j8 (cs:List Frame) (m0:Machine) (c:Code) (k:List Item) (T:List Value) (H:Hp):Prop:=
 (∃tm w,Steps WP m0 (lone (be pp tm [] (.code c::k)) cs w)/\Sf WP Sb H T tm w)\/gT WP y8 pp [] cs m0
theorem j8.Xm {id:Nat} {ops:Array Oper} {d:Bool} {T1:List Value} {n1:Nat} {l1:List (Nat×Obj)} (h:j8 cs m0 (.region id ops d) k T H) (hs:ey WP Sb ops d=true) (hc:nW (bg WP (ob 2000) ops d T H) T1 n1 l1=true):
 (∃tm w,Steps WP m0 (lone (be pp tm [] k) cs w)/\Sf WP Sb (gU n1 l1) T1 tm w)\/gT WP y8 pp [] cs m0:=by
 rcases h with⟨tm,w,h1,h2⟩|h
 .rcases Y7 wn (PZ 2000) hs hc h2 id pp k cs with⟨bB,w',h3,h4⟩|h
  .exact .inl ⟨bB,w',h1.trans h3,h4⟩
  .exact .inr (.of_steps h1 h)
 .exact .inr h
theorem j8.seq {a b:Code} (h:j8 cs m0 (.seq a b) k T H):j8 cs m0 a (.code b::k) T H:=by
 rcases h with⟨tm,w,h1,h2⟩|h
 .exact .inl ⟨tm,w,h1.trans (.one dw),h2⟩
 .exact .inr h
theorem j8.next {cs:List Frame} {m0:Machine} {k:Nat} {T T1:List Value} {H:Hp} {n1:Nat} {l1:List (Nat×Obj)} {id:Nat} {d:Bool} (h:j8 cs m0 (aJ k) [] T H) (e:aJ k=.seq (.region id (br k) d) (aJ (k+1))) (hs:ey WP Sb (br k) d=true)
 (hc:nW (bg WP (ob 2000) (br k) d T H) T1 n1 l1=true):j8 cs m0 (aJ (k+1)) [] T1 (gU n1 l1):=by
 rw[e]at h;exact h.seq.Xm hs hc
theorem e0:aJ 0=.seq (.region 0 (br 0) false) (aJ 1):=by kernel_rfl
theorem e1:aJ 1=.seq (.region 1 (br 1) false) (aJ 2):=by kernel_rfl
theorem e2:aJ 2=.seq (.region 2 (br 2) false) (aJ 3):=by kernel_rfl
theorem e3:aJ 3=.seq (.region 3 (br 3) false) (aJ 4):=by kernel_rfl
theorem e4:aJ 4=.seq (.region 4 (br 4) false) (aJ 5):=by kernel_rfl
theorem e5:aJ 5=.seq (.region 5 (br 5) false) (aJ 6):=by kernel_rfl
theorem e6:aJ 6=.seq (.region 6 (br 6) false) (aJ 7):=by kernel_rfl
theorem e7:aJ 7=.seq (.region 7 (br 7) false) (aJ 8):=by kernel_rfl
theorem e8:aJ 8=.seq (.region 8 (br 8) false) (aJ 9):=by kernel_rfl
theorem e9:aJ 9=.seq (.region 9 (br 9) false) (aJ 10):=by kernel_rfl
theorem oF:aJ 10=.seq (.region 10 (br 10) false) (aJ 11):=by kernel_rfl
theorem Dm:aJ 11=.seq (.region 11 (br 11) false) (aJ 12):=by kernel_rfl
theorem e12:aJ 12=.seq (.region 12 (br 12) false) (aJ 13):=by kernel_rfl
theorem e13:aJ 13=.seq (.region 13 (br 13) false) (aJ 14):=by kernel_rfl
theorem e14:aJ 14=.seq (.region 14 (br 14) true) (aJ 15):=by kernel_rfl
theorem e15:aJ 15=.seq (.region 15 (br 15) false) (aJ 16):=by kernel_rfl
theorem e16:aJ 16=.seq (.region 16 (br 16) true) (aJ 17):=by kernel_rfl
theorem e17:aJ 17=.seq (.region 17 (br 17) false) (aJ 18):=by kernel_rfl
theorem e18:aJ 18=.seq (.region 18 (br 18) false) (aJ 19):=by kernel_rfl
theorem e19:aJ 19=.seq (.region 19 (br 19) false) (aJ 20):=by kernel_rfl
theorem e20:aJ 20=.seq (.region 20 (br 20) false) (aJ 21):=by kernel_rfl
theorem zaE (h:j8 cs m0 (aJ 0) [] T0 (gU n0 l0)):j8 cs m0 (aJ 21) [] Xk (gU n21 Xl):=by
 have r:=fun k hk=>uP 21 k E0 hk;have h:=h.next e0 (r 0 (by omega)) c0;have h:=h.next e1 (r 1 (by omega)) c1;have h:=h.next e2 (r 2 (by omega)) c2;have h:=h.next e3 (r 3 (by omega)) c3;have h:=h.next e4 (r 4 (by omega)) c4;have h:=h.next e5 (r 5 (by omega)) c5;have h:=h.next e6 (r 6 (by omega)) c6;have h:=h.next e7 (r 7 (by omega)) c7;have h:=h.next e8 (r 8 (by omega)) c8;have h:=h.next e9 (r 9 (by omega)) c9;have h:=h.next oF (r 10 (by omega)) c10;have h:=h.next Dm (r 11 (by omega)) c11;have h:=h.next e12 (r 12 (by omega)) c12;have h:=h.next e13 (r 13 (by omega)) c13;have h:=h.next e14 (r 14 (by omega)) c14;have h:=h.next e15 (r 15 (by omega)) c15;have h:=h.next e16 (r 16 (by omega)) c16;have h:=h.next e17 (r 17 (by omega)) c17;have h:=h.next e18 (r 18 (by omega)) RL;have h:=h.next e19 (r 19 (by omega)) RM;exact h.next e20 (r 20 (by omega)) c20
noncomputable def P0:Code:=match p21 with|.seq _ (.cond _ a _)=>a|_=>.skip
noncomputable def P1:Code:=match p23 with|.seq _ (.cond _ a _)=>a|_=>.skip
theorem LH:aJ 21=.seq (.seq (.region 21 Ih false) (.cond (.tmp 202) P0 .skip)) (.seq (.seq (.region 23 Ii true) (.cond (.tmp 258) P1 .skip)) (.seq (.region 25 Ij false) .ret)):=by kernel_rfl
theorem P2:qz 3 (ja UG 202) (.bool false)=true:=by kernel_rfl
theorem P5:qz 3 (ja UH 258) (.bool false)=true:=by kernel_rfl
noncomputable def NG:Bool:=match aA WP (results Tryz.f7 T24.toArray) (gU n24 l24)with
 |some (.bool true,_,_,_)=>true
 |_=>false
theorem Il:NG=true:=by kernel_rfl
theorem j8.cond {cs:List Frame} {m0:Machine} {t:Nat} {a:Code} {k:List Item} {T:List Value} {H:Hp} (h:j8 cs m0 (.cond (.tmp t) a .skip) k T H) (ht:bC T t=.bool false):
 (∃tm w,Steps WP m0 (lone (be pp tm [] k) cs w)/\Sf WP Sb H T tm w)\/gT WP y8 pp [] cs m0:=by
 rcases h with⟨tm,w,h1,p,h2,h3⟩|h
 .have hv:tm.getD t undef=.bool false:=lV (by have:=h2.tr t;rwa [ht]at this);exact .inl ⟨tm,w,h1.trans (.head (lQ (t:=false) hv) (.one qL)),p,h2,h3⟩
 .exact .inr h
theorem j8.in {c:Code} (h:(∃tm w,Steps WP m0 (lone (be pp tm [] (.code c::k)) cs w)/\Sf WP Sb H T tm w)\/gT WP y8 pp [] cs m0):j8 cs m0 c k T H:=h
theorem built {w:World} {fz:Nat×Nat} (h0:w.heap[0]?=some (.cells #[xz 155,xz 156,xz 157,xz 158] 136 fz)):
 Calls WP 7 #[] w fun e w'=>e=.returned (.bool true)\/∃chain,e=.panicked chain/\y8 chain w':=by
 intro cs;let m0:Machine:=lone (Frame.enter WP 7 #[] .normal) cs w
 have au:0<w.heap.size:=(Array.getElem?_eq_some_iff.1 h0).1
 have start:j8 cs m0 (aJ 0) [] T0 (gU n0 l0):=by
  refine .inl ⟨Array.replicate 288 undef,w,?_,⟨fun r r'=>r=0/\r'=0,fun _ _=>False,true⟩,⟨by simp;rfl,⟨fun r _ o ho=>?_,fun r s r' _ _ _ _ x y=>x.1.trans y.1.symm,fun r r' x=>by rw[x.2];exact au,fun r k x=>x.elim,⟨fun r r' s s' x y _=>?_,fun r r' x=>?_,fun r r' s' x y=>x.2.trans y.2.symm,fun h=>by cases h⟩,by rw[cA];omega,rfl⟩,fun x=>?_,.nil,fun g hg _=>?_,by rw[cA];exact Nat.le_refl 1⟩,fun r hr r' x=>?_⟩
  .have hb:Tryz.f7.body=some (aJ 0):=by
    show Tryz.f7.body=some Ig;rfl
   have Xj:Tryz.f7.ntmps=288:=Tw.ntmps7
   have:Frame.enter WP 7 #[] .normal=be pp (Array.replicate 288 undef) [] [.code (aJ 0)]:=by
    unfold pp;simp only[be,Frame.enter,Tw.func7,Option.map_some,Option.getD_some,Option.bind_some,hb,Xj];simp
   show Steps _ (lone (Frame.enter WP 7 #[] .normal) cs w) _;rw[this];exact .refl _ _
  .have hm:=fA ho;simp only[l0,List.mem_cons,List.not_mem_nil,or_false,Prod.mk.injEq]at hm;obtain⟨rfl,rfl⟩:=hm;have Xn:∀f,Sb f=true->av.VR Sb ⟨fun r r'=>r=0/\r'=0,fun _ _=>False,true⟩ (xz f) (xz f):=fun f hf=>.func hf rfl rfl (fun i v v' h=>by simp at h) fun i v v' h=>by simp at h
   have RB:av.AR Sb ⟨fun r r'=>r=0/\r'=0,fun _ _=>False,true⟩ #[xz 155,xz 156,xz 157,xz 158] #[xz 155,xz 156,xz 157,xz 158]:=
    (((av.AR.one (Xn 155 (by decide))).push (Xn 156 (by decide))).push (Xn 157 (by decide))).push (Xn 158 (by decide))
   refine⟨0,_,⟨rfl,rfl⟩,h0,.bW rfl 136 (0,4) fz (Nat.le_refl 4) (.inl ⟨rfl,Nat.le_refl 4⟩) (fun i v' hi oK=>?_) RB.2,fun k x=>x.elim,.inr fun _ _ _ _ _ _ a b=>by cases a;cases b;rfl⟩;have h4:=(Array.getElem?_eq_some_iff.1 oK).1;have hi:4<=i:=hi;have h4:i<4:=h4;omega
  .constructor<;>intro<;>omega
  .rw[cA];constructor<;>intro<;>omega
  .have e:bC T0 x=undef:=by
    have:T0=List.replicate 288 undef:=by rfl
    rw[this];have:=pU [] 288 x;rw[List.nil_append]at this;rw[this];rfl
   rw[e]
   have:(Array.replicate 288 undef).getD x undef=undef:=by
    rw[Array.getD_eq_getD_getElem?,Array.getElem?_replicate];split<;>rfl
   rw[this];exact av.VR.undef
  .rw[cA]at hg;exact⟨by omega,by omega⟩
  .have hr:1<=r:=hr;have:=x.1;omega
 have h21:=zaE start;rw[LH]at h21;have NH:=E2;simp only[Bool.and_eq_true]at NH;have s21:bC UG 202=.bool false:=by rw[<-eK];exact lT 3 _ _ P2
 have s23:bC UH 258=.bool false:=by rw[<-eK];exact lT 3 _ _ P5
 have g1:=h21.seq.seq.Xm NH.1.1 c21;have g2:=(j8.in g1).cond s21;have g3:=(j8.in g2).seq.seq.Xm NH.1.2 c23;have g4:=(j8.in g3).cond s23;have g5:=(j8.in g4).seq.Xm NH.2 c25;rcases g5 with⟨tm,w',h1,p,h2,h3⟩|⟨tm,todo,chain,w1,h1,h2⟩
 .have hr:=Il;unfold NG at hr;split at hr
  .rename_i H' R' W' er;obtain⟨v',w2,q,a1,a2,_,_⟩:=gA (Fp:=fun _=>True) (av.SR.results (fn:=Tryz.f7) (kL:=Tryz.f7) rfl (gM h2.sz h2.tr)) er h2.rl h2.hg (fun r x _=>h3 r x) (fun _ _=>trivial);have hw:=aR.results Tryz.f7 tm WP w' v' w2 a1;subst hw;have hv:v'=.bool true:=lV a2;subst hv;exact⟨.returned (.bool true),w2,tI pp tm [] [.code .ret],.inl rfl,h1.trans (.one (ls (j:=some .ret) rfl ⟨_,rfl⟩ rfl)),rfl,rfl,rfl,rfl,Tryz.f7,Tw.func7,a1⟩
  .cases hr
 .exact⟨.panicked chain,w1,(be pp tm [] todo).raise chain,.inr ⟨chain,rfl,h2⟩,h1,rfl,rfl,rfl,Tryz.f7,Tw.func7⟩
end Go.Proofs.Cw
