/- A part of the proof that BuildWhy returns true. Conditions: none. -/
import Derived.Test.YthmokljbbkcjdaaGreatDoorT31
import Derived.Test.YthmokljbbkcjdaaGreatDoorT32
import Derived.Test.YthmokljbbkcjdaaGreatDoorT33
import Derived.Test.YthmokljbbkcjdaaGreatDoorT34
import Derived.Test.YthmokljbbkcjdaaGreatDoorT35
import Derived.Test.YthmokljbbkcjdaaGreatDoorT36
set_option linter.unusedVariables false
set_option linter.unusedSimpArgs false
section
namespace Go.Proofs.Cw
open Go.Ev
set_option maxRecDepth 1000000
def draw10 (k:Nat):Bool:=Nat.beq k 14||Nat.beq k 16
noncomputable def regs10:Nat→Bool
 |0=>true
 |n+1=>regs10 n&&regStat Tw.prog Sb (ops10 n) (draw10 n)
theorem regs10_ok:regs10 21=true:=by kernel_rfl
theorem regs10_at:∀(n k:Nat),regs10 n=true→k<n→regStat Tw.prog Sb (ops10 k) (draw10 k)=true
 |0,k,_,h=>by omega
 |n+1,k,h,hk=>by
  simp only[regs10,Bool.and_eq_true]at h
  by_cases e:k=n
  ·subst e;exact h.2
  ·exact regs10_at n k h.1 (by omega)
theorem regs_tail:(regStat Tw.prog Sb ops21 false&&regStat Tw.prog Sb ops23 true&&regStat Tw.prog Sb ops25 false)=true:=by kernel_rfl
noncomputable def f10F:Frame:=Frame.enter Tw.prog 10 #[] .normal
def At10 (cs:List Frame) (m0:Machine) (c:Code) (k:List Item) (T:List Value) (H:Hp):Prop:=
 (∃tm w,Steps Tw.prog m0 (lone (atF f10F tm [] (.code c::k)) cs w)∧Sf Tw.prog Sb H T tm w)∨Thrown Tw.prog EscB f10F [] cs m0
theorem At10.reg {cs:List Frame} {m0:Machine} {id:Nat} {ops:Array Oper} {d:Bool} {k:List Item} {T T1:List Value} {H:Hp} {n1:Nat} {l1:List (Nat×Obj)} (h:At10 cs m0 (.region id ops d) k T H) (hs:regStat Tw.prog Sb ops d=true) (hc:chk (evRegQ Tw.prog (ceT 2000) ops d T H) T1 n1 l1=true):
 (∃tm w,Steps Tw.prog m0 (lone (atF f10F tm [] k) cs w)∧Sf Tw.prog Sb (mkH n1 l1) T1 tm w)∨Thrown Tw.prog EscB f10F [] cs m0:=by
 rcases h with⟨tm,w,h1,h2⟩|h
 ·rcases seg okTw (ceT_ok 2000) hs hc h2 id f10F k cs with⟨tm',w',h3,h4⟩|h
  ·exact .inl ⟨tm',w',h1.trans h3,h4⟩
  ·exact .inr (.of_steps h1 h)
 ·exact .inr h
theorem At10.seq {cs:List Frame} {m0:Machine} {a b:Code} {k:List Item} {T:List Value} {H:Hp} (h:At10 cs m0 (.seq a b) k T H):At10 cs m0 a (.code b::k) T H:=by
 rcases h with⟨tm,w,h1,h2⟩|h
 ·exact .inl ⟨tm,w,h1.trans (.one st_seq),h2⟩
 ·exact .inr h
theorem At10.next {cs:List Frame} {m0:Machine} {k:Nat} {T T1:List Value} {H:Hp} {n1:Nat} {l1:List (Nat×Obj)} {id:Nat} {d:Bool} (h:At10 cs m0 (rest10 k) [] T H) (e:rest10 k=.seq (.region id (ops10 k) d) (rest10 (k+1))) (hs:regStat Tw.prog Sb (ops10 k) d=true)
 (hc:chk (evRegQ Tw.prog (ceT 2000) (ops10 k) d T H) T1 n1 l1=true):At10 cs m0 (rest10 (k+1)) [] T1 (mkH n1 l1):=by
 rw[e]at h
 exact h.seq.reg hs hc
theorem e0:rest10 0=.seq (.region 0 (ops10 0) false) (rest10 1):=by kernel_rfl
theorem e1:rest10 1=.seq (.region 1 (ops10 1) false) (rest10 2):=by kernel_rfl
theorem e2:rest10 2=.seq (.region 2 (ops10 2) false) (rest10 3):=by kernel_rfl
theorem e3:rest10 3=.seq (.region 3 (ops10 3) false) (rest10 4):=by kernel_rfl
theorem e4:rest10 4=.seq (.region 4 (ops10 4) false) (rest10 5):=by kernel_rfl
theorem e5:rest10 5=.seq (.region 5 (ops10 5) false) (rest10 6):=by kernel_rfl
theorem e6:rest10 6=.seq (.region 6 (ops10 6) false) (rest10 7):=by kernel_rfl
theorem e7:rest10 7=.seq (.region 7 (ops10 7) false) (rest10 8):=by kernel_rfl
theorem e8:rest10 8=.seq (.region 8 (ops10 8) false) (rest10 9):=by kernel_rfl
theorem e9:rest10 9=.seq (.region 9 (ops10 9) false) (rest10 10):=by kernel_rfl
theorem e10:rest10 10=.seq (.region 10 (ops10 10) false) (rest10 11):=by kernel_rfl
theorem e11:rest10 11=.seq (.region 11 (ops10 11) false) (rest10 12):=by kernel_rfl
theorem e12:rest10 12=.seq (.region 12 (ops10 12) false) (rest10 13):=by kernel_rfl
theorem e13:rest10 13=.seq (.region 13 (ops10 13) false) (rest10 14):=by kernel_rfl
theorem e14:rest10 14=.seq (.region 14 (ops10 14) true) (rest10 15):=by kernel_rfl
theorem e15:rest10 15=.seq (.region 15 (ops10 15) false) (rest10 16):=by kernel_rfl
theorem e16:rest10 16=.seq (.region 16 (ops10 16) true) (rest10 17):=by kernel_rfl
theorem e17:rest10 17=.seq (.region 17 (ops10 17) false) (rest10 18):=by kernel_rfl
theorem e18:rest10 18=.seq (.region 18 (ops10 18) false) (rest10 19):=by kernel_rfl
theorem e19:rest10 19=.seq (.region 19 (ops10 19) false) (rest10 20):=by kernel_rfl
theorem e20:rest10 20=.seq (.region 20 (ops10 20) false) (rest10 21):=by kernel_rfl
theorem to21 {cs:List Frame} {m0:Machine} (h:At10 cs m0 (rest10 0) [] T0 (mkH n0 l0)):At10 cs m0 (rest10 21) [] T21 (mkH n21 l21):=by
 have r:=fun k hk=>regs10_at 21 k regs10_ok hk
 have h:=h.next e0 (r 0 (by omega)) c0
 have h:=h.next e1 (r 1 (by omega)) c1
 have h:=h.next e2 (r 2 (by omega)) c2
 have h:=h.next e3 (r 3 (by omega)) c3
 have h:=h.next e4 (r 4 (by omega)) c4
 have h:=h.next e5 (r 5 (by omega)) c5
 have h:=h.next e6 (r 6 (by omega)) c6
 have h:=h.next e7 (r 7 (by omega)) c7
 have h:=h.next e8 (r 8 (by omega)) c8
 have h:=h.next e9 (r 9 (by omega)) c9
 have h:=h.next e10 (r 10 (by omega)) c10
 have h:=h.next e11 (r 11 (by omega)) c11
 have h:=h.next e12 (r 12 (by omega)) c12
 have h:=h.next e13 (r 13 (by omega)) c13
 have h:=h.next e14 (r 14 (by omega)) c14
 have h:=h.next e15 (r 15 (by omega)) c15
 have h:=h.next e16 (r 16 (by omega)) c16
 have h:=h.next e17 (r 17 (by omega)) c17
 have h:=h.next e18 (r 18 (by omega)) c18
 have h:=h.next e19 (r 19 (by omega)) c19
 exact h.next e20 (r 20 (by omega)) c20
noncomputable def cond21:Code:=match p21 with|.seq _ (.cond _ a _)=>a|_=>.skip
noncomputable def cond23:Code:=match p23 with|.seq _ (.cond _ a _)=>a|_=>.skip
theorem tail_eq:rest10 21=.seq (.seq (.region 21 ops21 false) (.cond (.tmp 202) cond21 .skip)) (.seq (.seq (.region 23 ops23 true) (.cond (.tmp 258) cond23 .skip)) (.seq (.region 25 ops25 false) .ret)):=by kernel_rfl
theorem slot21:beqV 3 (getTK T22 202) (.bool false)=true:=by kernel_rfl
theorem slot23:beqV 3 (getTK T23 258) (.bool false)=true:=by kernel_rfl
noncomputable def res10:Bool:=match runE Tw.prog (results Tryz.f10 T24.toArray) (mkH n24 l24)with
 |some (.bool true,_,_,_)=>true
 |_=>false
theorem res10_ok:res10=true:=by kernel_rfl
theorem At10.cond {cs:List Frame} {m0:Machine} {t:Nat} {a:Code} {k:List Item} {T:List Value} {H:Hp} (h:At10 cs m0 (.cond (.tmp t) a .skip) k T H) (ht:getT T t=.bool false):
 (∃tm w,Steps Tw.prog m0 (lone (atF f10F tm [] k) cs w)∧Sf Tw.prog Sb H T tm w)∨Thrown Tw.prog EscB f10F [] cs m0:=by
 rcases h with⟨tm,w,h1,p,h2,h3⟩|h
 ·have hv:tm.getD t undef=.bool false:=slot_bool (by have:=h2.tr t;rwa [ht]at this)
  exact .inl ⟨tm,w,h1.trans (.head (st_cond (t:=false) hv) (.one st_skip)),p,h2,h3⟩
 ·exact .inr h
theorem At10.in {cs:List Frame} {m0:Machine} {c:Code} {k:List Item} {T:List Value} {H:Hp} (h:(∃tm w,Steps Tw.prog m0 (lone (atF f10F tm [] (.code c::k)) cs w)∧Sf Tw.prog Sb H T tm w)∨Thrown Tw.prog EscB f10F [] cs m0):At10 cs m0 c k T H:=h
theorem built {w:World} {fz:Nat×Nat} (h0:w.heap[0]?=some (.cells #[Fn9 157,Fn9 158,Fn9 159,Fn9 160] 133 fz)):
 Calls Tw.prog 10 #[] w fun e w'=>e=.returned (.bool true)∨∃chain,e=.panicked chain∧EscB chain w':=by
 intro cs
 let m0:Machine:=lone (Frame.enter Tw.prog 10 #[] .normal) cs w
 have hlt:0<w.heap.size:=(Array.getElem?_eq_some_iff.1 h0).1
 have start:At10 cs m0 (rest10 0) [] T0 (mkH n0 l0):=by
  refine .inl ⟨Array.replicate 288 undef,w,?_,⟨fun r r'=>r=0∧r'=0,fun _ _=>False⟩,⟨by simp;rfl,⟨fun r _ o ho=>?_,fun r s r' _ _ _ _ x y=>x.1.trans y.1.symm,fun r r' x=>by rw[x.2];exact hlt,fun r k x=>x.elim,⟨fun r r' s s' x y _=>?_,fun r r' x=>?_,fun r r' s' x y=>x.2.trans y.2.symm⟩,by rw[globs1];omega⟩,fun x=>?_,.nil,fun g hg _=>?_,by rw[globs1];exact Nat.le_refl 1⟩,fun r hr r' x=>?_⟩
  ·have hb:Tryz.f10.body=some (rest10 0):=by
    show Tryz.f10.body=some body10
    rfl
   have hnt:Tryz.f10.ntmps=288:=Tw.ntmps10
   have:Frame.enter Tw.prog 10 #[] .normal=atF f10F (Array.replicate 288 undef) [] [.code (rest10 0)]:=by
    unfold f10F
    simp only[atF,Frame.enter,Tw.func10,Option.map_some,Option.getD_some,Option.bind_some,hb,hnt]
    simp
   show Steps _ (lone (Frame.enter Tw.prog 10 #[] .normal) cs w) _
   rw[this]
   exact .refl _ _
  ·have hm:=mkH_mem ho
   simp only[l0,List.mem_cons,List.not_mem_nil,or_false,Prod.mk.injEq]at hm
   obtain⟨rfl,rfl⟩:=hm
   have fnR:∀f,Sb f=true→Ev.VR Sb ⟨fun r r'=>r=0∧r'=0,fun _ _=>False⟩ (Fn9 f) (Fn9 f):=fun f hf=>.func hf rfl rfl (fun i v v' h=>by simp at h) fun i v v' h=>by simp at h
   have har:Ev.AR Sb ⟨fun r r'=>r=0∧r'=0,fun _ _=>False⟩ #[Fn9 157,Fn9 158,Fn9 159,Fn9 160] #[Fn9 157,Fn9 158,Fn9 159,Fn9 160]:=
    (((Ev.AR.one (fnR 157 (by decide))).push (fnR 158 (by decide))).push (fnR 159 (by decide))).push (fnR 160 (by decide))
   refine⟨0,_,⟨rfl,rfl⟩,h0,.cellsX 133 (0,4) fz (Nat.le_refl 4) (.inl ⟨rfl,Nat.le_refl 4⟩) (fun i v' hi hv'=>?_) har.2,fun k x=>x.elim,.inr fun _ _ _ _ _ _ a b=>by cases a;cases b;rfl⟩
   have h4:=(Array.getElem?_eq_some_iff.1 hv').1
   have hi:4≤i:=hi
   have h4:i<4:=h4
   omega
  ·constructor<;>intro<;>omega
  ·rw[globs1];constructor<;>intro<;>omega
  ·have e:getT T0 x=undef:=by
    have:T0=List.replicate 288 undef:=by rfl
    rw[this]
    have:=getT_append [] 288 x
    rw[List.nil_append]at this
    rw[this];rfl
   rw[e]
   have:(Array.replicate 288 undef).getD x undef=undef:=by
    rw[Array.getD_eq_getD_getElem?,Array.getElem?_replicate]
    split<;>rfl
   rw[this]
   exact Ev.VR.undef
  ·rw[globs1]at hg
   exact⟨by omega,by omega⟩
  ·have hr:1≤r:=hr
   have:=x.1
   omega
 have h21:=to21 start
 rw[tail_eq]at h21
 have hrt:=regs_tail
 simp only[Bool.and_eq_true]at hrt
 have s21:getT T22 202=.bool false:=by rw[←getTK_eq];exact beqV_eq 3 _ _ slot21
 have s23:getT T23 258=.bool false:=by rw[←getTK_eq];exact beqV_eq 3 _ _ slot23
 have g1:=h21.seq.seq.reg hrt.1.1 c21
 have g2:=(At10.in g1).cond s21
 have g3:=(At10.in g2).seq.seq.reg hrt.1.2 c23
 have g4:=(At10.in g3).cond s23
 have g5:=(At10.in g4).seq.reg hrt.2 c25
 rcases g5 with⟨tm,w',h1,p,h2,h3⟩|⟨tm,todo,chain,w1,h1,h2⟩
 ·have hr:=res10_ok
  unfold res10 at hr
  split at hr
  ·rename_i H' R' W' er
   obtain⟨v',w2,q,a1,a2,_,_⟩:=sem_run (Fp:=fun _=>True) (Ev.SR.results (fn:=Tryz.f10) (fn':=Tryz.f10) rfl (toArray_rel h2.sz h2.tr)) er h2.rl h2.hg (fun r x _=>h3 r x) (fun _ _=>trivial)
   have hw:=RunRO.results Tryz.f10 tm Tw.prog w' v' w2 a1
   subst hw
   have hv:v'=.bool true:=slot_bool a2
   subst hv
   exact⟨.returned (.bool true),w2,retF f10F tm [] [.code .ret],.inl rfl,h1.trans (.one (st_leave (j:=some .ret) rfl ⟨_,rfl⟩ rfl)),rfl,rfl,rfl,rfl,Tryz.f10,Tw.func10,a1⟩
  ·cases hr
 ·exact⟨.panicked chain,w1,(atF f10F tm [] todo).raise chain,.inr ⟨chain,rfl,h2⟩,h1,rfl,rfl,rfl,Tryz.f10,Tw.func10⟩
end Go.Proofs.Cw
end
