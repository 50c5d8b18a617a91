/- A part. Conditions: none. -/
import Derived.Test.YtddlcmejelobdaaGreatDoorT14
import Derived.Test.YtddlcmejelobdaaGreatDoorT15
import Derived.Test.YtddlcmejelobdaaGreatDoorT16
import Derived.Test.YtddlcmejelobdaaGreatDoorT17
import Derived.Test.YtddlcmejelobdaaGreatDoorT18
set_option linter.all false
namespace Go.Proofs.Cw
open Go.aq
variable {H:Hp} {T:List Value} {cs:List Frame} {k:List Item} {m0:Machine}
set_option maxRecDepth 1000000
def Jb (k:Nat):Bool:=Nat.beq k 14||Nat.beq k 16
noncomputable def wL:Nat->Bool
 |0=>true
 |n+1=>wL n&&et WP Sb (br n) (Jb n)
theorem FO:wL 21=true:=by kernel_rfl
theorem uQ:∀(n k:Nat),wL n=true->k<n->et WP Sb (br k) (Jb k)=true
 |0,k,_,h=>by omega
 |n+1,k,h,hk=>by
  simp only[wL,Bool.and_eq_true]at h;by_cases e:k=n
  .subst e;exact h.2
  .exact uQ n k h.1 (by omega)
theorem FP:(et WP Sb I8 false&&et WP Sb I9 true&&et WP Sb Ja false)=true:=by kernel_rfl
noncomputable def pq:Frame:=Frame.enter WP 9 #[] .normal
def jX (cs:List Frame) (m0:Machine) (c:Code) (k:List Item) (T:List Value) (H:Hp):Prop:=
 (∃tm w,Steps WP m0 (lone (bh pq tm [] (.code c::k)) cs w)/\Sf WP Sb H T tm w)\/gX WP zn pq [] cs m0
theorem jX.Ll {id:Nat} {ops:Array Oper} {d:Bool} {T1:List Value} {n1:Nat} {l1:List (Nat×Obj)} (h:jX cs m0 (.region id ops d) k T H) (hs:et WP Sb ops d=true) (hc:ob (bi WP (oq 2000) ops d T H) T1 n1 l1=true):
 (∃tm w,Steps WP m0 (lone (bh pq tm [] k) cs w)/\Sf WP Sb (gY n1 l1) T1 tm w)\/gX WP zn pq [] cs m0:=by
 rcases h with⟨tm,w,h1,h2⟩|h
 .rcases Zq wE (Q0 2000) hs hc h2 id pq k cs with⟨bA,w',h3,h4⟩|h
  .exact .inl ⟨bA,w',h1.trans h3,h4⟩
  .exact .inr (.of_steps h1 h)
 .exact .inr h
theorem jX.seq {a b:Code} (h:jX cs m0 (.seq a b) k T H):jX cs m0 a (.code b::k) T H:=by
 rcases h with⟨tm,w,h1,h2⟩|h
 .exact .inl ⟨tm,w,h1.trans (.one dD),h2⟩
 .exact .inr h
theorem jX.next {cs:List Frame} {m0:Machine} {k:Nat} {T T1:List Value} {H:Hp} {n1:Nat} {l1:List (Nat×Obj)} {id:Nat} {d:Bool} (h:jX cs m0 (aG k) [] T H) (e:aG k=.seq (.region id (br k) d) (aG (k+1))) (hs:et WP Sb (br k) d=true)
 (hc:ob (bi WP (oq 2000) (br k) d T H) T1 n1 l1=true):jX cs m0 (aG (k+1)) [] T1 (gY n1 l1):=by
 rw[e]at h;exact h.seq.Ll hs hc
theorem e0:aG 0=.seq (.region 0 (br 0) false) (aG 1):=by kernel_rfl
theorem e1:aG 1=.seq (.region 1 (br 1) false) (aG 2):=by kernel_rfl
theorem e2:aG 2=.seq (.region 2 (br 2) false) (aG 3):=by kernel_rfl
theorem e3:aG 3=.seq (.region 3 (br 3) false) (aG 4):=by kernel_rfl
theorem e4:aG 4=.seq (.region 4 (br 4) false) (aG 5):=by kernel_rfl
theorem e5:aG 5=.seq (.region 5 (br 5) false) (aG 6):=by kernel_rfl
theorem e6:aG 6=.seq (.region 6 (br 6) false) (aG 7):=by kernel_rfl
theorem e7:aG 7=.seq (.region 7 (br 7) false) (aG 8):=by kernel_rfl
theorem e8:aG 8=.seq (.region 8 (br 8) false) (aG 9):=by kernel_rfl
theorem e9:aG 9=.seq (.region 9 (br 9) false) (aG 10):=by kernel_rfl
theorem oN:aG 10=.seq (.region 10 (br 10) false) (aG 11):=by kernel_rfl
theorem DR:aG 11=.seq (.region 11 (br 11) false) (aG 12):=by kernel_rfl
theorem e12:aG 12=.seq (.region 12 (br 12) false) (aG 13):=by kernel_rfl
theorem e13:aG 13=.seq (.region 13 (br 13) false) (aG 14):=by kernel_rfl
theorem e14:aG 14=.seq (.region 14 (br 14) true) (aG 15):=by kernel_rfl
theorem e15:aG 15=.seq (.region 15 (br 15) false) (aG 16):=by kernel_rfl
theorem e16:aG 16=.seq (.region 16 (br 16) true) (aG 17):=by kernel_rfl
theorem e17:aG 17=.seq (.region 17 (br 17) false) (aG 18):=by kernel_rfl
theorem e18:aG 18=.seq (.region 18 (br 18) false) (aG 19):=by kernel_rfl
theorem e19:aG 19=.seq (.region 19 (br 19) false) (aG 20):=by kernel_rfl
theorem e20:aG 20=.seq (.region 20 (br 20) false) (aG 21):=by kernel_rfl
theorem zaV (h:jX cs m0 (aG 0) [] T0 (gY n0 l0)):jX cs m0 (aG 21) [] Xz (gY n21 XA):=by
 have r:=fun k hk=>uQ 21 k FO hk;have h:=h.next e0 (r 0 (by omega)) c0;have h:=h.next e1 (r 1 (by omega)) c1;have h:=h.next e2 (r 2 (by omega)) c2;have h:=h.next e3 (r 3 (by omega)) c3;have h:=h.next e4 (r 4 (by omega)) c4;have h:=h.next e5 (r 5 (by omega)) c5;have h:=h.next e6 (r 6 (by omega)) c6;have h:=h.next e7 (r 7 (by omega)) c7;have h:=h.next e8 (r 8 (by omega)) c8;have h:=h.next e9 (r 9 (by omega)) c9;have h:=h.next oN (r 10 (by omega)) c10;have h:=h.next DR (r 11 (by omega)) c11;have h:=h.next e12 (r 12 (by omega)) c12;have h:=h.next e13 (r 13 (by omega)) c13;have h:=h.next e14 (r 14 (by omega)) c14;have h:=h.next e15 (r 15 (by omega)) c15;have h:=h.next e16 (r 16 (by omega)) c16;have h:=h.next e17 (r 17 (by omega)) c17;have h:=h.next e18 (r 18 (by omega)) c18;have h:=h.next e19 (r 19 (by omega)) c19;exact h.next e20 (r 20 (by omega)) c20
noncomputable def Q1:Code:=match p21 with|.seq _ (.cond _ a _)=>a|_=>.skip
noncomputable def Q2:Code:=match p23 with|.seq _ (.cond _ a _)=>a|_=>.skip
theorem MA:aG 21=.seq (.seq (.region 21 I8 false) (.cond (.tmp 202) Q1 .skip)) (.seq (.seq (.region 23 I9 true) (.cond (.tmp 258) Q2 .skip)) (.seq (.region 25 Ja false) .ret)):=by kernel_rfl
theorem Q3:qB 3 (i7 Vi 202) (.bool false)=true:=by kernel_rfl
theorem Q4:qB 3 (i7 Vj 258) (.bool false)=true:=by kernel_rfl
noncomputable def OD:Bool:=match aA WP (results Tryz.f9 T24.toArray) (gY n24 l24)with
 |some (.bool true,_,_,_)=>true
 |_=>false
theorem Jc:OD=true:=by kernel_rfl
theorem jX.cond {cs:List Frame} {m0:Machine} {t:Nat} {a:Code} {k:List Item} {T:List Value} {H:Hp} (h:jX cs m0 (.cond (.tmp t) a .skip) k T H) (ht:bB T t=.bool false):
 (∃tm w,Steps WP m0 (lone (bh pq tm [] k) cs w)/\Sf WP Sb H T tm w)\/gX WP zn pq [] cs m0:=by
 rcases h with⟨tm,w,h1,p,h2,h3⟩|h
 .have hv:tm.getD t undef=.bool false:=lQ (by have:=h2.tr t;rwa [ht]at this);exact .inl ⟨tm,w,h1.trans (.head (lM (t:=false) hv) (.one qP)),p,h2,h3⟩
 .exact .inr h
theorem jX.in {c:Code} (h:(∃tm w,Steps WP m0 (lone (bh pq tm [] (.code c::k)) cs w)/\Sf WP Sb H T tm w)\/gX WP zn pq [] cs m0):jX cs m0 c k T H:=h
theorem built {w:World} {fz:Nat×Nat} (h0:w.heap[0]?=some (.cells #[xN 183,xN 184,xN 185,xN 186] 144 fz)):
 Calls WP 9 #[] w fun e w'=>e=.returned (.bool true)\/∃chain,e=.panicked chain/\zn chain w':=by
 intro cs;let m0:Machine:=lone (Frame.enter WP 9 #[] .normal) cs w
 have ar:0<w.heap.size:=(Array.getElem?_eq_some_iff.1 h0).1
 have start:jX cs m0 (aG 0) [] T0 (gY n0 l0):=by
  refine .inl ⟨Array.replicate 288 undef,w,?_,⟨fun r r'=>r=0/\r'=0,fun _ _=>False,true⟩,⟨by simp;rfl,⟨fun r _ o ho=>?_,fun r s r' _ _ _ _ x y=>x.1.trans y.1.symm,fun r r' x=>by rw[x.2];exact ar,fun r k x=>x.elim,⟨fun r r' s s' x y _=>?_,fun r r' x=>?_,fun r r' s' x y=>x.2.trans y.2.symm,fun h=>by cases h⟩,by rw[cL];omega,rfl⟩,fun x=>?_,.nil,fun g hg _=>?_,by rw[cL];exact Nat.le_refl 1⟩,fun r hr r' x=>?_⟩
  .have hb:Tryz.f9.body=some (aG 0):=by
    show Tryz.f9.body=some I7;rfl
   have Xy:Tryz.f9.ntmps=288:=Tw.ntmps9
   have:Frame.enter WP 9 #[] .normal=bh pq (Array.replicate 288 undef) [] [.code (aG 0)]:=by
    unfold pq;simp only[bh,Frame.enter,Tw.func9,Option.map_some,Option.getD_some,Option.bind_some,hb,Xy];simp
   show Steps _ (lone (Frame.enter WP 9 #[] .normal) cs w) _;rw[this];exact .refl _ _
  .have hm:=fI ho;simp only[l0,List.mem_cons,List.not_mem_nil,or_false,Prod.mk.injEq]at hm;obtain⟨rfl,rfl⟩:=hm;have XB:∀f,Sb f=true->aq.VR Sb ⟨fun r r'=>r=0/\r'=0,fun _ _=>False,true⟩ (xN f) (xN f):=fun f hf=>.func hf rfl rfl (fun i v v' h=>by simp at h) fun i v v' h=>by simp at h
   have SH:aq.AR Sb ⟨fun r r'=>r=0/\r'=0,fun _ _=>False,true⟩ #[xN 183,xN 184,xN 185,xN 186] #[xN 183,xN 184,xN 185,xN 186]:=
    (((aq.AR.one (XB 183 (by decide))).push (XB 184 (by decide))).push (XB 185 (by decide))).push (XB 186 (by decide))
   refine⟨0,_,⟨rfl,rfl⟩,h0,.cg rfl 144 (0,4) fz (Nat.le_refl 4) (.inl ⟨rfl,Nat.le_refl 4⟩) (fun i v' hi np=>?_) SH.2,fun k x=>x.elim,.inr fun _ _ _ _ _ _ a b=>by cases a;cases b;rfl⟩;have h4:=(Array.getElem?_eq_some_iff.1 np).1;have hi:4<=i:=hi;have h4:i<4:=h4;omega
  .constructor<;>intro<;>omega
  .rw[cL];constructor<;>intro<;>omega
  .have e:bB T0 x=undef:=by
    have:T0=List.replicate 288 undef:=by rfl
    rw[this];have:=pP [] 288 x;rw[List.nil_append]at this;rw[this];rfl
   rw[e]
   have:(Array.replicate 288 undef).getD x undef=undef:=by
    rw[Array.getD_eq_getD_getElem?,Array.getElem?_replicate];split<;>rfl
   rw[this];exact aq.VR.undef
  .rw[cL]at hg;exact⟨by omega,by omega⟩
  .have hr:1<=r:=hr;have:=x.1;omega
 have h21:=zaV start;rw[MA]at h21;have OE:=FP;simp only[Bool.and_eq_true]at OE;have s21:bB Vi 202=.bool false:=by rw[<-eI];exact lO 3 _ _ Q3
 have s23:bB Vj 258=.bool false:=by rw[<-eI];exact lO 3 _ _ Q4
 have g1:=h21.seq.seq.Ll OE.1.1 c21;have g2:=(jX.in g1).cond s21;have g3:=(jX.in g2).seq.seq.Ll OE.1.2 c23;have g4:=(jX.in g3).cond s23;have g5:=(jX.in g4).seq.Ll OE.2 c25;rcases g5 with⟨tm,w',h1,p,h2,h3⟩|⟨tm,todo,chain,w1,h1,h2⟩
 .have hr:=Jc;unfold OD at hr;split at hr
  .rename_i H' R' W' er;obtain⟨v',w2,q,a1,a2,_,_⟩:=gD (Fp:=fun _=>True) (aq.SR.results (fn:=Tryz.f9) (kE:=Tryz.f9) rfl (gO h2.sz h2.tr)) er h2.rl h2.hg (fun r x _=>h3 r x) (fun _ _=>trivial);have hw:=aR.results Tryz.f9 tm WP w' v' w2 a1;subst hw;have hv:v'=.bool true:=lQ a2;subst hv;exact⟨.returned (.bool true),w2,tL pq tm [] [.code .ret],.inl rfl,h1.trans (.one (lg (j:=some .ret) rfl ⟨_,rfl⟩ rfl)),rfl,rfl,rfl,rfl,Tryz.f9,Tw.func9,a1⟩
  .cases hr
 .exact⟨.panicked chain,w1,(bh pq tm [] todo).raise chain,.inr ⟨chain,rfl,h2⟩,h1,rfl,rfl,rfl,Tryz.f9,Tw.func9⟩
end Go.Proofs.Cw
