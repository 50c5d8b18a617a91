/- A part. Conditions: none. -/
import Derived.Test.YthmokljbbkcjdaaGreatDoorT16
import Derived.Test.YthmokljbbkcjdaaGreatDoorT17
import Derived.Test.YthmokljbbkcjdaaGreatDoorT18
import Derived.Test.YthmokljbbkcjdaaGreatDoorT19
import Derived.Test.YthmokljbbkcjdaaGreatDoorT20
set_option linter.all false
namespace Go.Proofs.Cw
open Go.Ev
variable {H:Hp} {T:List Value} {cs:List Frame} {k:List Item} {m0:Machine}
set_option maxRecDepth 1000000
def Ig (k:Nat):Bool:=Nat.beq k 14||Nat.beq k 16
noncomputable def wM:Nat->Bool
 |0=>true
 |n+1=>wM n&&eH WP Sb (bJ n) (Ig n)
theorem E0:wM 21=true:=by kernel_rfl
theorem uH:∀(n k:Nat),wM n=true->k<n->eH WP Sb (bJ k) (Ig k)=true
 |0,k,_,h=>by omega
 |n+1,k,h,hk=>by
  simp only[wM,Bool.and_eq_true]at h;by_cases e:k=n
  .subst e;exact h.2
  .exact uH n k h.1 (by omega)
theorem E2:(eH WP Sb Id false&&eH WP Sb Ie true&&eH WP Sb If false)=true:=by kernel_rfl
noncomputable def pM:Frame:=Frame.enter WP 10 #[] .normal
def ku (cs:List Frame) (m0:Machine) (c:Code) (k:List Item) (T:List Value) (H:Hp):Prop:=
 (∃tm w,Steps WP m0 (lone (bt pM tm [] (.code c::k)) cs w)/\Sf WP Sb H T tm w)\/gT WP zm pM [] cs m0
theorem ku.Xy {id:Nat} {ops:Array Oper} {d:Bool} {T1:List Value} {n1:Nat} {l1:List (Nat×Obj)} (h:ku cs m0 (.region id ops d) k T H) (hs:eH WP Sb ops d=true) (hc:oy (bz WP (oC 2000) ops d T H) T1 n1 l1=true):
 (∃tm w,Steps WP m0 (lone (bt pM tm [] k) cs w)/\Sf WP Sb (gU n1 l1) T1 tm w)\/gT WP zm pM [] cs m0:=by
 rcases h with⟨tm,w,h1,h2⟩|h
 .rcases Y8 wF (PQ 2000) hs hc h2 id pM k cs with⟨bQ,w',h3,h4⟩|h
  .exact .inl ⟨bQ,w',h1.trans h3,h4⟩
  .exact .inr (.of_steps h1 h)
 .exact .inr h
theorem ku.seq {a b:Code} (h:ku cs m0 (.seq a b) k T H):ku cs m0 a (.code b::k) T H:=by
 rcases h with⟨tm,w,h1,h2⟩|h
 .exact .inl ⟨tm,w,h1.trans (.one dO),h2⟩
 .exact .inr h
theorem ku.next {cs:List Frame} {m0:Machine} {k:Nat} {T T1:List Value} {H:Hp} {n1:Nat} {l1:List (Nat×Obj)} {id:Nat} {d:Bool} (h:ku cs m0 (aL k) [] T H) (e:aL k=.seq (.region id (bJ k) d) (aL (k+1))) (hs:eH WP Sb (bJ k) d=true)
 (hc:oy (bz WP (oC 2000) (bJ k) d T H) T1 n1 l1=true):ku cs m0 (aL (k+1)) [] T1 (gU n1 l1):=by
 rw[e]at h;exact h.seq.Xy hs hc
theorem e0:aL 0=.seq (.region 0 (bJ 0) false) (aL 1):=by kernel_rfl
theorem e1:aL 1=.seq (.region 1 (bJ 1) false) (aL 2):=by kernel_rfl
theorem e2:aL 2=.seq (.region 2 (bJ 2) false) (aL 3):=by kernel_rfl
theorem e3:aL 3=.seq (.region 3 (bJ 3) false) (aL 4):=by kernel_rfl
theorem e4:aL 4=.seq (.region 4 (bJ 4) false) (aL 5):=by kernel_rfl
theorem e5:aL 5=.seq (.region 5 (bJ 5) false) (aL 6):=by kernel_rfl
theorem e6:aL 6=.seq (.region 6 (bJ 6) false) (aL 7):=by kernel_rfl
theorem e7:aL 7=.seq (.region 7 (bJ 7) false) (aL 8):=by kernel_rfl
theorem e8:aL 8=.seq (.region 8 (bJ 8) false) (aL 9):=by kernel_rfl
theorem e9:aL 9=.seq (.region 9 (bJ 9) false) (aL 10):=by kernel_rfl
theorem pc:aL 10=.seq (.region 10 (bJ 10) false) (aL 11):=by kernel_rfl
theorem Dh:aL 11=.seq (.region 11 (bJ 11) false) (aL 12):=by kernel_rfl
theorem e12:aL 12=.seq (.region 12 (bJ 12) false) (aL 13):=by kernel_rfl
theorem e13:aL 13=.seq (.region 13 (bJ 13) false) (aL 14):=by kernel_rfl
theorem e14:aL 14=.seq (.region 14 (bJ 14) true) (aL 15):=by kernel_rfl
theorem e15:aL 15=.seq (.region 15 (bJ 15) false) (aL 16):=by kernel_rfl
theorem e16:aL 16=.seq (.region 16 (bJ 16) true) (aL 17):=by kernel_rfl
theorem e17:aL 17=.seq (.region 17 (bJ 17) false) (aL 18):=by kernel_rfl
theorem e18:aL 18=.seq (.region 18 (bJ 18) false) (aL 19):=by kernel_rfl
theorem e19:aL 19=.seq (.region 19 (bJ 19) false) (aL 20):=by kernel_rfl
theorem e20:aL 20=.seq (.region 20 (bJ 20) false) (aL 21):=by kernel_rfl
theorem zaI (h:ku cs m0 (aL 0) [] T0 (gU n0 l0)):ku cs m0 (aL 21) [] Xw (gU n21 Xx):=by
 have r:=fun k hk=>uH 21 k E0 hk;have h:=h.next e0 (r 0 (by omega)) c0;have h:=h.next e1 (r 1 (by omega)) c1;have h:=h.next e2 (r 2 (by omega)) c2;have h:=h.next e3 (r 3 (by omega)) c3;have h:=h.next e4 (r 4 (by omega)) c4;have h:=h.next e5 (r 5 (by omega)) c5;have h:=h.next e6 (r 6 (by omega)) c6;have h:=h.next e7 (r 7 (by omega)) c7;have h:=h.next e8 (r 8 (by omega)) c8;have h:=h.next e9 (r 9 (by omega)) c9;have h:=h.next pc (r 10 (by omega)) c10;have h:=h.next Dh (r 11 (by omega)) c11;have h:=h.next e12 (r 12 (by omega)) c12;have h:=h.next e13 (r 13 (by omega)) c13;have h:=h.next e14 (r 14 (by omega)) c14;have h:=h.next e15 (r 15 (by omega)) c15;have h:=h.next e16 (r 16 (by omega)) c16;have h:=h.next e17 (r 17 (by omega)) c17;have h:=h.next e18 (r 18 (by omega)) c18;have h:=h.next e19 (r 19 (by omega)) c19;exact h.next e20 (r 20 (by omega)) c20
noncomputable def PR:Code:=match p21 with|.seq _ (.cond _ a _)=>a|_=>.skip
noncomputable def PS:Code:=match p23 with|.seq _ (.cond _ a _)=>a|_=>.skip
theorem Lv:aL 21=.seq (.seq (.region 21 Id false) (.cond (.tmp 202) PR .skip)) (.seq (.seq (.region 23 Ie true) (.cond (.tmp 258) PS .skip)) (.seq (.region 25 If false) .ret)):=by kernel_rfl
theorem PT:qM 3 (ji Um 202) (.bool false)=true:=by kernel_rfl
theorem PU:qM 3 (ji Un 258) (.bool false)=true:=by kernel_rfl
noncomputable def Nr:Bool:=match aB WP (results Tryz.f10 T24.toArray) (gU n24 l24)with
 |some (.bool true,_,_,_)=>true
 |_=>false
theorem Ih:Nr=true:=by kernel_rfl
theorem ku.cond {cs:List Frame} {m0:Machine} {t:Nat} {a:Code} {k:List Item} {T:List Value} {H:Hp} (h:ku cs m0 (.cond (.tmp t) a .skip) k T H) (ht:bR T t=.bool false):
 (∃tm w,Steps WP m0 (lone (bt pM tm [] k) cs w)/\Sf WP Sb H T tm w)\/gT WP zm pM [] cs m0:=by
 rcases h with⟨tm,w,h1,p,h2,h3⟩|h
 .have hv:tm.getD t undef=.bool false:=mt (by have:=h2.tr t;rwa [ht]at this);exact .inl ⟨tm,w,h1.trans (.head (mj (t:=false) hv) (.one qT)),p,h2,h3⟩
 .exact .inr h
theorem ku.in {c:Code} (h:(∃tm w,Steps WP m0 (lone (bt pM tm [] (.code c::k)) cs w)/\Sf WP Sb H T tm w)\/gT WP zm pM [] cs m0):ku cs m0 c k T H:=h
theorem built {w:World} {fz:Nat×Nat} (h0:w.heap[0]?=some (.cells #[xP 157,xP 158,xP 159,xP 160] 133 fz)):
 Calls WP 10 #[] w fun e w'=>e=.returned (.bool true)\/∃chain,e=.panicked chain/\zm chain w':=by
 intro cs;let m0:Machine:=lone (Frame.enter WP 10 #[] .normal) cs w
 have aA:0<w.heap.size:=(Array.getElem?_eq_some_iff.1 h0).1
 have start:ku cs m0 (aL 0) [] T0 (gU n0 l0):=by
  refine .inl ⟨Array.replicate 288 undef,w,?_,⟨fun r r'=>r=0/\r'=0,fun _ _=>False⟩,⟨by simp;rfl,⟨fun r _ o ho=>?_,fun r s r' _ _ _ _ x y=>x.1.trans y.1.symm,fun r r' x=>by rw[x.2];exact aA,fun r k x=>x.elim,⟨fun r r' s s' x y _=>?_,fun r r' x=>?_,fun r r' s' x y=>x.2.trans y.2.symm⟩,by rw[db];omega⟩,fun x=>?_,.nil,fun g hg _=>?_,by rw[db];exact Nat.le_refl 1⟩,fun r hr r' x=>?_⟩
  .have hb:Tryz.f10.body=some (aL 0):=by
    show Tryz.f10.body=some Ic;rfl
   have Xv:Tryz.f10.ntmps=288:=Tw.ntmps10
   have:Frame.enter WP 10 #[] .normal=bt pM (Array.replicate 288 undef) [] [.code (aL 0)]:=by
    unfold pM;simp only[bt,Frame.enter,Tw.func10,Option.map_some,Option.getD_some,Option.bind_some,hb,Xv];simp
   show Steps _ (lone (Frame.enter WP 10 #[] .normal) cs w) _;rw[this];exact .refl _ _
  .have hm:=fI ho;simp only[l0,List.mem_cons,List.not_mem_nil,or_false,Prod.mk.injEq]at hm;obtain⟨rfl,rfl⟩:=hm;have Xz:∀f,Sb f=true->Ev.VR Sb ⟨fun r r'=>r=0/\r'=0,fun _ _=>False⟩ (xP f) (xP f):=fun f hf=>.func hf rfl rfl (fun i v v' h=>by simp at h) fun i v v' h=>by simp at h
   have Rm:Ev.AR Sb ⟨fun r r'=>r=0/\r'=0,fun _ _=>False⟩ #[xP 157,xP 158,xP 159,xP 160] #[xP 157,xP 158,xP 159,xP 160]:=
    (((Ev.AR.one (Xz 157 (by decide))).push (Xz 158 (by decide))).push (Xz 159 (by decide))).push (Xz 160 (by decide))
   refine⟨0,_,⟨rfl,rfl⟩,h0,.dN 133 (0,4) fz (Nat.le_refl 4) (.inl ⟨rfl,Nat.le_refl 4⟩) (fun i v' hi kd=>?_) Rm.2,fun k x=>x.elim,.inr fun _ _ _ _ _ _ a b=>by cases a;cases b;rfl⟩;have h4:=(Array.getElem?_eq_some_iff.1 kd).1;have hi:4<=i:=hi;have h4:i<4:=h4;omega
  .constructor<;>intro<;>omega
  .rw[db];constructor<;>intro<;>omega
  .have e:bR T0 x=undef:=by
    have:T0=List.replicate 288 undef:=by rfl
    rw[this];have:=qo [] 288 x;rw[List.nil_append]at this;rw[this];rfl
   rw[e]
   have:(Array.replicate 288 undef).getD x undef=undef:=by
    rw[Array.getD_eq_getD_getElem?,Array.getElem?_replicate];split<;>rfl
   rw[this];exact Ev.VR.undef
  .rw[db]at hg;exact⟨by omega,by omega⟩
  .have hr:1<=r:=hr;have:=x.1;omega
 have h21:=zaI start;rw[Lv]at h21;have XA:=E2;simp only[Bool.and_eq_true]at XA;have s21:bR Um 202=.bool false:=by rw[<-eT];exact mq 3 _ _ PT
 have s23:bR Un 258=.bool false:=by rw[<-eT];exact mq 3 _ _ PU
 have g1:=h21.seq.seq.Xy XA.1.1 c21;have g2:=(ku.in g1).cond s21;have g3:=(ku.in g2).seq.seq.Xy XA.1.2 c23;have g4:=(ku.in g3).cond s23;have g5:=(ku.in g4).seq.Xy XA.2 c25;rcases g5 with⟨tm,w',h1,p,h2,h3⟩|⟨tm,todo,chain,w1,h1,h2⟩
 .have hr:=Ih;unfold Nr at hr;split at hr
  .rename_i H' R' W' er;obtain⟨v',w2,q,a1,a2,_,_⟩:=gv (Fp:=fun _=>True) (Ev.SR.results (fn:=Tryz.f10) (iS:=Tryz.f10) rfl (gI h2.sz h2.tr)) er h2.rl h2.hg (fun r x _=>h3 r x) (fun _ _=>trivial);have hw:=aZ.results Tryz.f10 tm WP w' v' w2 a1;subst hw;have hv:v'=.bool true:=mt a2;subst hv;exact⟨.returned (.bool true),w2,tG pM tm [] [.code .ret],.inl rfl,h1.trans (.one (lK (j:=some .ret) rfl ⟨_,rfl⟩ rfl)),rfl,rfl,rfl,rfl,Tryz.f10,Tw.func10,a1⟩
  .cases hr
 .exact⟨.panicked chain,w1,(bt pM tm [] todo).raise chain,.inr ⟨chain,rfl,h2⟩,h1,rfl,rfl,rfl,Tryz.f10,Tw.func10⟩
end Go.Proofs.Cw
