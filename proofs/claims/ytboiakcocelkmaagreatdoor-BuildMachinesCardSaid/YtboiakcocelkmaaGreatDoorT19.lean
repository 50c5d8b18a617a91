/- A part. Conditions: none. -/
import Derived.Test.YtboiakcocelkmaaGreatDoorT14
import Derived.Test.YtboiakcocelkmaaGreatDoorT15
import Derived.Test.YtboiakcocelkmaaGreatDoorT16
import Derived.Test.YtboiakcocelkmaaGreatDoorT17
import Derived.Test.YtboiakcocelkmaaGreatDoorT18
set_option linter.all false
namespace Go.Proofs.Cw
open Go.au
variable {H:Hp} {T:List Value} {cs:List Frame} {k:List Item} {m0:Machine}
set_option maxRecDepth 1000000
def Gi (k:Nat):Bool:=Nat.beq k 14||Nat.beq k 16
noncomputable def vy:Nat->Bool
 |0=>true
 |n+1=>vy n&&dY WP Sb (bg n) (Gi n)
theorem DF:vy 21=true:=by kernel_rfl
theorem uc:∀(n k:Nat),vy n=true->k<n->dY WP Sb (bg k) (Gi k)=true
 |0,k,_,h=>by omega
 |n+1,k,h,hk=>by
  simp only[vy,Bool.and_eq_true]at h;by_cases e:k=n
  .subst e;exact h.2
  .exact uc n k h.1 (by omega)
theorem DG:(dY WP Sb Gf false&&dY WP Sb Gg true&&dY WP Sb Gh false)=true:=by kernel_rfl
noncomputable def oD:Frame:=Frame.enter WP 6 #[] .normal
def jC (cs:List Frame) (m0:Machine) (c:Code) (k:List Item) (T:List Value) (H:Hp):Prop:=
 (∃tm w,Steps WP m0 (lone (aY oD tm [] (.code c::k)) cs w)/\Sf WP Sb H T tm w)\/gv WP xR oD [] cs m0
theorem jC.Un {id:Nat} {ops:Array Oper} {d:Bool} {T1:List Value} {n1:Nat} {l1:List (Nat×Obj)} (h:jC cs m0 (.region id ops d) k T H) (hs:dY WP Sb ops d=true) (hc:ng (aZ WP (np 2000) ops d T H) T1 n1 l1=true):
 (∃tm w,Steps WP m0 (lone (aY oD tm [] k) cs w)/\Sf WP Sb (gz n1 l1) T1 tm w)\/gv WP xR oD [] cs m0:=by
 rcases h with⟨tm,w,h1,h2⟩|h
 .rcases VT vr (N7 2000) hs hc h2 id oD k cs with⟨br,w',h3,h4⟩|h
  .exact .inl ⟨br,w',h1.trans h3,h4⟩
  .exact .inr (.of_steps h1 h)
 .exact .inr h
theorem jC.seq {a b:Code} (h:jC cs m0 (.seq a b) k T H):jC cs m0 a (.code b::k) T H:=by
 rcases h with⟨tm,w,h1,h2⟩|h
 .exact .inl ⟨tm,w,h1.trans (.one dq),h2⟩
 .exact .inr h
theorem jC.next {cs:List Frame} {m0:Machine} {k:Nat} {T T1:List Value} {H:Hp} {n1:Nat} {l1:List (Nat×Obj)} {id:Nat} {d:Bool} (h:jC cs m0 (aE k) [] T H) (e:aE k=.seq (.region id (bg k) d) (aE (k+1))) (hs:dY WP Sb (bg k) d=true)
 (hc:ng (aZ WP (np 2000) (bg k) d T H) T1 n1 l1=true):jC cs m0 (aE (k+1)) [] T1 (gz n1 l1):=by
 rw[e]at h;exact h.seq.Un hs hc
theorem e0:aE 0=.seq (.region 0 (bg 0) false) (aE 1):=by kernel_rfl
theorem e1:aE 1=.seq (.region 1 (bg 1) false) (aE 2):=by kernel_rfl
theorem e2:aE 2=.seq (.region 2 (bg 2) false) (aE 3):=by kernel_rfl
theorem e3:aE 3=.seq (.region 3 (bg 3) false) (aE 4):=by kernel_rfl
theorem e4:aE 4=.seq (.region 4 (bg 4) false) (aE 5):=by kernel_rfl
theorem e5:aE 5=.seq (.region 5 (bg 5) false) (aE 6):=by kernel_rfl
theorem e6:aE 6=.seq (.region 6 (bg 6) false) (aE 7):=by kernel_rfl
theorem e7:aE 7=.seq (.region 7 (bg 7) false) (aE 8):=by kernel_rfl
theorem e8:aE 8=.seq (.region 8 (bg 8) false) (aE 9):=by kernel_rfl
theorem e9:aE 9=.seq (.region 9 (bg 9) false) (aE 10):=by kernel_rfl
theorem nL:aE 10=.seq (.region 10 (bg 10) false) (aE 11):=by kernel_rfl
theorem B6:aE 11=.seq (.region 11 (bg 11) false) (aE 12):=by kernel_rfl
theorem e12:aE 12=.seq (.region 12 (bg 12) false) (aE 13):=by kernel_rfl
theorem e13:aE 13=.seq (.region 13 (bg 13) false) (aE 14):=by kernel_rfl
theorem e14:aE 14=.seq (.region 14 (bg 14) true) (aE 15):=by kernel_rfl
theorem e15:aE 15=.seq (.region 15 (bg 15) false) (aE 16):=by kernel_rfl
theorem e16:aE 16=.seq (.region 16 (bg 16) true) (aE 17):=by kernel_rfl
theorem e17:aE 17=.seq (.region 17 (bg 17) false) (aE 18):=by kernel_rfl
theorem e18:aE 18=.seq (.region 18 (bg 18) false) (aE 19):=by kernel_rfl
theorem e19:aE 19=.seq (.region 19 (bg 19) false) (aE 20):=by kernel_rfl
theorem e20:aE 20=.seq (.region 20 (bg 20) false) (aE 21):=by kernel_rfl
theorem XK (h:jC cs m0 (aE 0) [] T0 (gz n0 l0)):jC cs m0 (aE 21) [] Ul (gz n21 Um):=by
 have r:=fun k hk=>uc 21 k DF hk;have h:=h.next e0 (r 0 (by omega)) c0;have h:=h.next e1 (r 1 (by omega)) c1;have h:=h.next e2 (r 2 (by omega)) c2;have h:=h.next e3 (r 3 (by omega)) c3;have h:=h.next e4 (r 4 (by omega)) c4;have h:=h.next e5 (r 5 (by omega)) c5;have h:=h.next e6 (r 6 (by omega)) c6;have h:=h.next e7 (r 7 (by omega)) c7;have h:=h.next e8 (r 8 (by omega)) c8;have h:=h.next e9 (r 9 (by omega)) c9;have h:=h.next nL (r 10 (by omega)) c10;have h:=h.next B6 (r 11 (by omega)) c11;have h:=h.next e12 (r 12 (by omega)) c12;have h:=h.next e13 (r 13 (by omega)) c13;have h:=h.next e14 (r 14 (by omega)) c14;have h:=h.next e15 (r 15 (by omega)) c15;have h:=h.next e16 (r 16 (by omega)) c16;have h:=h.next e17 (r 17 (by omega)) c17;have h:=h.next e18 (r 18 (by omega)) c18;have h:=h.next e19 (r 19 (by omega)) c19;exact h.next e20 (r 20 (by omega)) c20
noncomputable def N8:Code:=match p21 with|.seq _ (.cond _ a _)=>a|_=>.skip
noncomputable def N9:Code:=match p23 with|.seq _ (.cond _ a _)=>a|_=>.skip
theorem J8:aE 21=.seq (.seq (.region 21 Gf false) (.cond (.tmp 202) N8 .skip)) (.seq (.seq (.region 23 Gg true) (.cond (.tmp 258) N9 .skip)) (.seq (.region 25 Gh false) .ret)):=by kernel_rfl
theorem Oa:pS 3 (iF R5 202) (.bool false)=true:=by kernel_rfl
theorem Ob:pS 3 (iF R6 258) (.bool false)=true:=by kernel_rfl
noncomputable def LP:Bool:=match aA WP (results Tryz.f6 T24.toArray) (gz n24 l24)with
 |some (.bool true,_,_,_)=>true
 |_=>false
theorem Gj:LP=true:=by kernel_rfl
theorem jC.cond {cs:List Frame} {m0:Machine} {t:Nat} {a:Code} {k:List Item} {T:List Value} {H:Hp} (h:jC cs m0 (.cond (.tmp t) a .skip) k T H) (ht:bt T t=.bool false):
 (∃tm w,Steps WP m0 (lone (aY oD tm [] k) cs w)/\Sf WP Sb H T tm w)\/gv WP xR oD [] cs m0:=by
 rcases h with⟨tm,w,h1,p,h2,h3⟩|h
 .have hv:tm.getD t undef=.bool false:=lh (by have:=h2.tr t;rwa [ht]at this);exact .inl ⟨tm,w,h1.trans (.head (kX (t:=false) hv) (.one qh)),p,h2,h3⟩
 .exact .inr h
theorem jC.in {c:Code} (h:(∃tm w,Steps WP m0 (lone (aY oD tm [] (.code c::k)) cs w)/\Sf WP Sb H T tm w)\/gv WP xR oD [] cs m0):jC cs m0 c k T H:=h
theorem built {w:World} {fz:Nat×Nat} (h0:w.heap[0]?=some (.cells #[wt 168,wt 169,wt 170,wt 171] 100 fz)):
 Calls WP 6 #[] w fun e w'=>e=.returned (.bool true)\/∃chain,e=.panicked chain/\xR chain w':=by
 intro cs;let m0:Machine:=lone (Frame.enter WP 6 #[] .normal) cs w
 have az:0<w.heap.size:=(Array.getElem?_eq_some_iff.1 h0).1
 have start:jC cs m0 (aE 0) [] T0 (gz n0 l0):=by
  refine .inl ⟨Array.replicate 288 undef,w,?_,⟨fun r r'=>r=0/\r'=0,fun _ _=>False,true⟩,⟨by simp;rfl,⟨fun r _ o ho=>?_,fun r s r' _ _ _ _ x y=>x.1.trans y.1.symm,fun r r' x=>by rw[x.2];exact az,fun r k x=>x.elim,⟨fun r r' s s' x y _=>?_,fun r r' x=>?_,fun r r' s' x y=>x.2.trans y.2.symm,fun h=>by cases h⟩,by rw[cx];omega,rfl⟩,fun x=>?_,.nil,fun g hg _=>?_,by rw[cx];exact Nat.le_refl 1⟩,fun r hr r' x=>?_⟩
  .have hb:Tryz.f6.body=some (aE 0):=by
    show Tryz.f6.body=some Ge;rfl
   have Uj:Tryz.f6.ntmps=288:=Tw.ntmps6
   have:Frame.enter WP 6 #[] .normal=aY oD (Array.replicate 288 undef) [] [.code (aE 0)]:=by
    unfold oD;simp only[aY,Frame.enter,Tw.func6,Option.map_some,Option.getD_some,Option.bind_some,hb,Uj];simp
   show Steps _ (lone (Frame.enter WP 6 #[] .normal) cs w) _;rw[this];exact .refl _ _
  .have hm:=fq ho;simp only[l0,List.mem_cons,List.not_mem_nil,or_false,Prod.mk.injEq]at hm;obtain⟨rfl,rfl⟩:=hm;have Uo:∀f,Sb f=true->au.VR Sb ⟨fun r r'=>r=0/\r'=0,fun _ _=>False,true⟩ (wt f) (wt f):=fun f hf=>.func hf rfl rfl (fun i v v' h=>by simp at h) fun i v v' h=>by simp at h
   have Pk:au.AR Sb ⟨fun r r'=>r=0/\r'=0,fun _ _=>False,true⟩ #[wt 168,wt 169,wt 170,wt 171] #[wt 168,wt 169,wt 170,wt 171]:=
    (((au.AR.one (Uo 168 (by decide))).push (Uo 169 (by decide))).push (Uo 170 (by decide))).push (Uo 171 (by decide))
   refine⟨0,_,⟨rfl,rfl⟩,h0,.bO rfl 100 (0,4) fz (Nat.le_refl 4) (.inl ⟨rfl,Nat.le_refl 4⟩) (fun i v' hi mC=>?_) Pk.2,fun k x=>x.elim,.inr fun _ _ _ _ _ _ a b=>by cases a;cases b;rfl⟩;have h4:=(Array.getElem?_eq_some_iff.1 mC).1;have hi:4<=i:=hi;have h4:i<4:=h4;omega
  .constructor<;>intro<;>omega
  .rw[cx];constructor<;>intro<;>omega
  .have e:bt T0 x=undef:=by
    have:T0=List.replicate 288 undef:=by rfl
    rw[this];have:=pq [] 288 x;rw[List.nil_append]at this;rw[this];rfl
   rw[e]
   have:(Array.replicate 288 undef).getD x undef=undef:=by
    rw[Array.getD_eq_getD_getElem?,Array.getElem?_replicate];split<;>rfl
   rw[this];exact au.VR.undef
  .rw[cx]at hg;exact⟨by omega,by omega⟩
  .have hr:1<=r:=hr;have:=x.1;omega
 have h21:=XK start;rw[J8]at h21;have LQ:=DG;simp only[Bool.and_eq_true]at LQ;have s21:bt R5 202=.bool false:=by rw[<-eF];exact kZ 3 _ _ Oa
 have s23:bt R6 258=.bool false:=by rw[<-eF];exact kZ 3 _ _ Ob
 have g1:=h21.seq.seq.Un LQ.1.1 c21;have g2:=(jC.in g1).cond s21;have g3:=(jC.in g2).seq.seq.Un LQ.1.2 c23;have g4:=(jC.in g3).cond s23;have g5:=(jC.in g4).seq.Un LQ.2 c25;rcases g5 with⟨tm,w',h1,p,h2,h3⟩|⟨tm,todo,chain,w1,h1,h2⟩
 .have hr:=Gj;unfold LP at hr;split at hr
  .rename_i H' R' W' er;obtain⟨v',w2,q,a1,a2,_,_⟩:=fT (Fp:=fun _=>True) (au.SR.results (fn:=Tryz.f6) (j8:=Tryz.f6) rfl (ga h2.sz h2.tr)) er h2.rl h2.hg (fun r x _=>h3 r x) (fun _ _=>trivial);have hw:=aO.results Tryz.f6 tm WP w' v' w2 a1;subst hw;have hv:v'=.bool true:=lh a2;subst hv;exact⟨.returned (.bool true),w2,sO oD tm [] [.code .ret],.inl rfl,h1.trans (.one (kz (j:=some .ret) rfl ⟨_,rfl⟩ rfl)),rfl,rfl,rfl,rfl,Tryz.f6,Tw.func6,a1⟩
  .cases hr
 .exact⟨.panicked chain,w1,(aY oD tm [] todo).raise chain,.inr ⟨chain,rfl,h2⟩,h1,rfl,rfl,rfl,Tryz.f6,Tw.func6⟩
end Go.Proofs.Cw
