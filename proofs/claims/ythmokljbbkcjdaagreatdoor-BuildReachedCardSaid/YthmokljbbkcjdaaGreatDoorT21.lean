/- A part. Conditions: none. -/
import Derived.Test.YthmokljbbkcjdaaGreatDoorT16
import Derived.Test.YthmokljbbkcjdaaGreatDoorT17
import Derived.Test.YthmokljbbkcjdaaGreatDoorT18
import Derived.Test.YthmokljbbkcjdaaGreatDoorT19
import Derived.Test.YthmokljbbkcjdaaGreatDoorT20
set_option linter.all false
namespace Go.Proofs.Cw
open Go.Ev
variable {H:Hp} {T:List Value} {cs:List Frame} {k:List Item} {m0:Machine}
set_option maxRecDepth 1000000
def DN (k:Nat):Bool:=Nat.beq k 14||Nat.beq k 16
noncomputable def tf:Nat->Bool
 |0=>true
 |n+1=>tf n&&dI WP Sb (bl n) (DN n)
theorem Be:tf 21=true:=by kernel_rfl
theorem ri:∀(n k:Nat),tf n=true->k<n->dI WP Sb (bl k) (DN k)=true
 |0,k,_,h=>by omega
 |n+1,k,h,hk=>by
  simp only[tf,Bool.and_eq_true]at h;by_cases e:k=n
  .subst e;exact h.2
  .exact ri n k h.1 (by omega)
theorem Bf:(dI WP Sb DJ false&&dI WP Sb DK true&&dI WP Sb DM false)=true:=by kernel_rfl
noncomputable def mX:Frame:=Frame.enter WP 10 #[] .normal
def iT (cs:List Frame) (m0:Machine) (c:Code) (k:List Item) (T:List Value) (H:Hp):Prop:=
 (∃tm w,Steps WP m0 (lone (bc mX tm [] (.code c::k)) cs w)/\Sf WP Sb H T tm w)\/fI WP vB mX [] cs m0
theorem iT.Q7 {id:Nat} {ops:Array Oper} {d:Bool} {T1:List Value} {n1:Nat} {l1:List (Nat×Obj)} (h:iT cs m0 (.region id ops d) k T H) (hs:dI WP Sb ops d=true) (hc:ma (be WP (mg 2000) ops d T H) T1 n1 l1=true):
 (∃tm w,Steps WP m0 (lone (bc mX tm [] k) cs w)/\Sf WP Sb (fJ n1 l1) T1 tm w)\/fI WP vB mX [] cs m0:=by
 rcases h with⟨tm,w,h1,h2⟩|h
 .rcases SO sW (LD 2000) hs hc h2 id mX k cs with⟨bu,w',h3,h4⟩|h
  .exact .inl ⟨bu,w',h1.trans h3,h4⟩
  .exact .inr (.of_steps h1 h)
 .exact .inr h
theorem iT.seq {a b:Code} (h:iT cs m0 (.seq a b) k T H):iT cs m0 a (.code b::k) T H:=by
 rcases h with⟨tm,w,h1,h2⟩|h
 .exact .inl ⟨tm,w,h1.trans (.one df),h2⟩
 .exact .inr h
theorem iT.next {cs:List Frame} {m0:Machine} {k:Nat} {T T1:List Value} {H:Hp} {n1:Nat} {l1:List (Nat×Obj)} {id:Nat} {d:Bool} (h:iT cs m0 (aA k) [] T H) (e:aA k=.seq (.region id (bl k) d) (aA (k+1))) (hs:dI WP Sb (bl k) d=true)
 (hc:ma (be WP (mg 2000) (bl k) d T H) T1 n1 l1=true):iT cs m0 (aA (k+1)) [] T1 (fJ n1 l1):=by
 rw[e]at h;exact h.seq.Q7 hs hc
theorem e0:aA 0=.seq (.region 0 (bl 0) false) (aA 1):=by kernel_rfl
theorem e1:aA 1=.seq (.region 1 (bl 1) false) (aA 2):=by kernel_rfl
theorem e2:aA 2=.seq (.region 2 (bl 2) false) (aA 3):=by kernel_rfl
theorem e3:aA 3=.seq (.region 3 (bl 3) false) (aA 4):=by kernel_rfl
theorem e4:aA 4=.seq (.region 4 (bl 4) false) (aA 5):=by kernel_rfl
theorem e5:aA 5=.seq (.region 5 (bl 5) false) (aA 6):=by kernel_rfl
theorem e6:aA 6=.seq (.region 6 (bl 6) false) (aA 7):=by kernel_rfl
theorem e7:aA 7=.seq (.region 7 (bl 7) false) (aA 8):=by kernel_rfl
theorem e8:aA 8=.seq (.region 8 (bl 8) false) (aA 9):=by kernel_rfl
theorem e9:aA 9=.seq (.region 9 (bl 9) false) (aA 10):=by kernel_rfl
theorem mz:aA 10=.seq (.region 10 (bl 10) false) (aA 11):=by kernel_rfl
theorem zE:aA 11=.seq (.region 11 (bl 11) false) (aA 12):=by kernel_rfl
theorem e12:aA 12=.seq (.region 12 (bl 12) false) (aA 13):=by kernel_rfl
theorem e13:aA 13=.seq (.region 13 (bl 13) false) (aA 14):=by kernel_rfl
theorem e14:aA 14=.seq (.region 14 (bl 14) true) (aA 15):=by kernel_rfl
theorem e15:aA 15=.seq (.region 15 (bl 15) false) (aA 16):=by kernel_rfl
theorem e16:aA 16=.seq (.region 16 (bl 16) true) (aA 17):=by kernel_rfl
theorem e17:aA 17=.seq (.region 17 (bl 17) false) (aA 18):=by kernel_rfl
theorem e18:aA 18=.seq (.region 18 (bl 18) false) (aA 19):=by kernel_rfl
theorem e19:aA 19=.seq (.region 19 (bl 19) false) (aA 20):=by kernel_rfl
theorem e20:aA 20=.seq (.region 20 (bl 20) false) (aA 21):=by kernel_rfl
theorem UC (h:iT cs m0 (aA 0) [] T0 (fJ n0 l0)):iT cs m0 (aA 21) [] Q5 (fJ n21 Q6):=by
 have r:=fun k hk=>ri 21 k Be hk;have h:=h.next e0 (r 0 (by omega)) c0;have h:=h.next e1 (r 1 (by omega)) c1;have h:=h.next e2 (r 2 (by omega)) c2;have h:=h.next e3 (r 3 (by omega)) c3;have h:=h.next e4 (r 4 (by omega)) c4;have h:=h.next e5 (r 5 (by omega)) c5;have h:=h.next e6 (r 6 (by omega)) c6;have h:=h.next e7 (r 7 (by omega)) c7;have h:=h.next e8 (r 8 (by omega)) c8;have h:=h.next e9 (r 9 (by omega)) c9;have h:=h.next mz (r 10 (by omega)) c10;have h:=h.next zE (r 11 (by omega)) c11;have h:=h.next e12 (r 12 (by omega)) c12;have h:=h.next e13 (r 13 (by omega)) c13;have h:=h.next e14 (r 14 (by omega)) c14;have h:=h.next e15 (r 15 (by omega)) c15;have h:=h.next e16 (r 16 (by omega)) c16;have h:=h.next e17 (r 17 (by omega)) c17;have h:=h.next e18 (r 18 (by omega)) c18;have h:=h.next e19 (r 19 (by omega)) c19;exact h.next e20 (r 20 (by omega)) c20
noncomputable def LE:Code:=match W5 with|.seq _ (.cond _ a _)=>a|_=>.skip
noncomputable def LF:Code:=match W6 with|.seq _ (.cond _ a _)=>a|_=>.skip
theorem GM:aA 21=.seq (.seq (.region 21 DJ false) (.cond (.tmp 202) LE .skip)) (.seq (.seq (.region 23 DK true) (.cond (.tmp 258) LF .skip)) (.seq (.region 25 DM false) .ret)):=by kernel_rfl
theorem LG:ob 3 (hQ Pb 202) (.bool false)=true:=by kernel_rfl
theorem LH:ob 3 (hQ Pc 258) (.bool false)=true:=by kernel_rfl
noncomputable def Jj:Bool:=match aq WP (results Tryz.f10 WY.toArray) (fJ n24 WZ)with
 |some (.bool true,_,_,_)=>true
 |_=>false
theorem DO:Jj=true:=by kernel_rfl
theorem iT.cond {cs:List Frame} {m0:Machine} {t:Nat} {a:Code} {k:List Item} {T:List Value} {H:Hp} (h:iT cs m0 (.cond (.tmp t) a .skip) k T H) (ht:bz T t=.bool false):
 (∃tm w,Steps WP m0 (lone (bc mX tm [] k) cs w)/\Sf WP Sb H T tm w)\/fI WP vB mX [] cs m0:=by
 rcases h with⟨tm,w,h1,p,h2,h3⟩|h
 .have hv:tm.getD t undef=.bool false:=j8 (by have:=h2.tr t;rwa [ht]at this);exact .inl ⟨tm,w,h1.trans (.head (jY (t:=false) hv) (.one oe)),p,h2,h3⟩
 .exact .inr h
theorem iT.in {c:Code} (h:(∃tm w,Steps WP m0 (lone (bc mX tm [] (.code c::k)) cs w)/\Sf WP Sb H T tm w)\/fI WP vB mX [] cs m0):iT cs m0 c k T H:=h
theorem built {w:World} {fz:Nat×Nat} (h0:w.heap[0]?=some (.cells #[uf 157,uf 158,uf 159,uf 160] 133 fz)):
 Calls WP 10 #[] w fun e w'=>e=.returned (.bool true)\/∃chain,e=.panicked chain/\vB chain w':=by
 intro cs;let m0:Machine:=lone (Frame.enter WP 10 #[] .normal) cs w
 have ap:0<w.heap.size:=(Array.getElem?_eq_some_iff.1 h0).1
 have start:iT cs m0 (aA 0) [] T0 (fJ n0 l0):=by
  refine .inl ⟨Array.replicate 288 undef,w,?_,⟨fun r r'=>r=0/\r'=0,fun _ _=>False⟩,⟨by simp;rfl,⟨fun r _ o ho=>?_,fun r s r' _ _ _ _ x y=>x.1.trans y.1.symm,fun r r' x=>by rw[x.2];exact ap,fun r k x=>x.elim,⟨fun r r' s s' x y _=>?_,fun r r' x=>?_,fun r r' s' x y=>x.2.trans y.2.symm⟩,by rw[cy];omega⟩,fun x=>?_,.nil,fun g hg _=>?_,by rw[cy];exact Nat.le_refl 1⟩,fun r hr r' x=>?_⟩
  .have hb:Tryz.f10.body=some (aA 0):=by
    show Tryz.f10.body=some DI;rfl
   have Q3:Tryz.f10.ntmps=288:=Tw.ntmps10
   have:Frame.enter WP 10 #[] .normal=bc mX (Array.replicate 288 undef) [] [.code (aA 0)]:=by
    unfold mX;simp only[bc,Frame.enter,Tw.func10,Option.map_some,Option.getD_some,Option.bind_some,hb,Q3];simp
   show Steps _ (lone (Frame.enter WP 10 #[] .normal) cs w) _;rw[this];exact .refl _ _
  .have hm:=eK ho;simp only[l0,List.mem_cons,List.not_mem_nil,or_false,Prod.mk.injEq]at hm;obtain⟨rfl,rfl⟩:=hm;have Q8:∀f,Sb f=true->Ev.VR Sb ⟨fun r r'=>r=0/\r'=0,fun _ _=>False⟩ (uf f) (uf f):=fun f hf=>.func hf rfl rfl (fun i v v' h=>by simp at h) fun i v v' h=>by simp at h
   have MD:Ev.AR Sb ⟨fun r r'=>r=0/\r'=0,fun _ _=>False⟩ #[uf 157,uf 158,uf 159,uf 160] #[uf 157,uf 158,uf 159,uf 160]:=
    (((Ev.AR.one (Q8 157 (by decide))).push (Q8 158 (by decide))).push (Q8 159 (by decide))).push (Q8 160 (by decide))
   refine⟨0,_,⟨rfl,rfl⟩,h0,.de 133 (0,4) fz (Nat.le_refl 4) (.inl ⟨rfl,Nat.le_refl 4⟩) (fun i v' hi iJ=>?_) MD.2,fun k x=>x.elim,.inr fun _ _ _ _ _ _ a b=>by cases a;cases b;rfl⟩;have h4:=(Array.getElem?_eq_some_iff.1 iJ).1;have hi:4<=i:=hi;have h4:i<4:=h4;omega
  .constructor<;>intro<;>omega
  .rw[cy];constructor<;>intro<;>omega
  .have e:bz T0 x=undef:=by
    have:T0=List.replicate 288 undef:=by rfl
    rw[this];have:=nz [] 288 x;rw[List.nil_append]at this;rw[this];rfl
   rw[e]
   have:(Array.replicate 288 undef).getD x undef=undef:=by
    rw[Array.getD_eq_getD_getElem?,Array.getElem?_replicate];split<;>rfl
   rw[this];exact Ev.VR.undef
  .rw[cy]at hg;exact⟨by omega,by omega⟩
  .have hr:1<=r:=hr;have:=x.1;omega
 have Xa:=UC start;rw[GM]at Xa;have Q9:=Bf;simp only[Bool.and_eq_true]at Q9;have s21:bz Pb 202=.bool false:=by rw[<-dR];exact j0 3 _ _ LG
 have s23:bz Pc 258=.bool false:=by rw[<-dR];exact j0 3 _ _ LH
 have g1:=Xa.seq.seq.Q7 Q9.1.1 c21;have g2:=(iT.in g1).cond s21;have g3:=(iT.in g2).seq.seq.Q7 Q9.1.2 c23;have g4:=(iT.in g3).cond s23;have g5:=(iT.in g4).seq.Q7 Q9.2 c25;rcases g5 with⟨tm,w',h1,p,h2,h3⟩|⟨tm,todo,chain,w1,h1,h2⟩
 .have hr:=DO;unfold Jj at hr;split at hr
  .rename_i H' R' W' er;obtain⟨v',w2,q,a1,a2,_,_⟩:=fg (Fp:=fun _=>True) (Ev.SR.results (fn:=Tryz.f10) (gJ:=Tryz.f10) rfl (fy h2.sz h2.tr)) er h2.rl h2.hg (fun r x _=>h3 r x) (fun _ _=>trivial);have hw:=aN.results Tryz.f10 tm WP w' v' w2 a1;subst hw;have hv:v'=.bool true:=j8 a2;subst hv;exact⟨.returned (.bool true),w2,qg mX tm [] [.code .ret],.inl rfl,h1.trans (.one (jF (j:=some .ret) rfl ⟨_,rfl⟩ rfl)),rfl,rfl,rfl,rfl,Tryz.f10,Tw.func10,a1⟩
  .cases hr
 .exact⟨.panicked chain,w1,(bc mX tm [] todo).raise chain,.inr ⟨chain,rfl,h2⟩,h1,rfl,rfl,rfl,Tryz.f10,Tw.func10⟩
end Go.Proofs.Cw
