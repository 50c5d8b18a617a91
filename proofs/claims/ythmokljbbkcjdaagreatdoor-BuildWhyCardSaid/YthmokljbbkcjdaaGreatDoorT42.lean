/- A part of the proof that BuildWhy returns true. Conditions: none. -/
import Derived.Test.YthmokljbbkcjdaaGreatDoorT40
import Derived.Test.YthmokljbbkcjdaaGreatDoorT41
set_option linter.unusedVariables false
set_option linter.unusedSimpArgs false
section
namespace Go.Proofs.Cz
open Go.Conc Go.Par
def checksC:Array Value:=#[.func (.func 157) #[] #[],.func (.func 158) #[] #[],.func (.func 159) #[] #[],.func (.func 160) #[] #[]]
def HA10:HatT:=fun kn _ f w=>f=Frame.enter Tryz.prog 10 #[] .normal∧kn 0∧∃fz,w.heap[0]?=some (.cells checksC 133 fz)
def p0:Pi:=fun a b=>a=0∧b=0
theorem checks_rel {p:Pi}:AR Cw.Sm p checksC checksC:=by
 have key:∀f,Cw.Sm f=true→VR Cw.Sm p (.func (.func f) #[] #[]) (.func (.func f) #[] #[]):=fun f h=>.func h rfl rfl (fun i v v' h=>by simp at h) fun i v v' h=>by simp at h
 have e:=(((AR.empty (S:=Cw.Sm) (p:=p)).push (key 157 (by decide))).push (key 158 (by decide))).push (key 159 (by decide))|>.push (key 160 (by decide))
 exact e
def w0 (w:World):World:={w with heap:=#[.cells checksC 133 (0,4)]}
theorem wr0 {w:World} {fz:Nat×Nat} (h:w.heap[0]?=some (.cells checksC 133 fz)):WR Tw.prog Cw.Sm (KS Tw.prog Cw.Sm) 1 p0 (w0 w) w:=by
 have hlt:0<w.heap.size:=(Array.getElem?_eq_some_iff.1 h).1
 have hg:Tw.prog.globals.size=1:=Cw.globs1
 refine⟨fun r r' s s' x y=>⟨fun _=>x.2.trans y.2.symm,fun _=>x.1.trans y.1.symm⟩,fun r r' x=>?_,Nat.le_refl _,fun r r' x=>by rw[x.1,x.2],by rw[hg];exact Nat.le_refl _,by rw[hg];exact hlt⟩
 obtain⟨rfl,rfl⟩:=x
 exact⟨.cells checksC 133 (0,4),_,rfl,h,.inl ⟨by omega,checksC,checksC,133,fz,rfl,rfl,checks_rel⟩⟩
theorem not_shown {val:Value} {v:World} (h:Cw.CC Cw.ExB val v) (S:Nat→Bool) (q:Pi) (v':Value) (hS:S (Tw.prog.funcs.size+Tw.prog.globals.size)=false):¬VR S q val v':=by
 obtain⟨r1,r5,b0,b1,b2,b3,a0,cp0,c0,c1,c2,c3,a,cp,fz,fz',hval,_⟩:=h
 subst hval
 intro hv
 cases hv with
 |iface h=>cases h with
  |func hs _ _ _ _=>
   rw[Cw.sizeP,Cw.globs1]at hS
   rw[hS]at hs
   cases hs
theorem bar10 {w:World}:Bar Tw.prog (Frame.enter Tw.prog 10 #[] .normal) [] (w0 w) (fun v _=>v=.bool true) (Cw.CC Cw.ExB):=by
 intro T
 obtain⟨e,w',fr,he,hs,_,hl⟩:=Cw.built (w:={w0 w with tape:=T}) (fz:=(0,4)) rfl [Base Tw.prog]
 rcases he with rfl|⟨chain,rfl,val,rfl,hC⟩
 ·obtain⟨n,hn⟩:=hs
  exact⟨n,fr,w',hn,.inl ⟨_,hl,rfl⟩⟩
 ·obtain⟨n,hn⟩:=hs
  exact⟨n,fr,w',hn,.inr ⟨_,[],hl,hC,not_shown hC⟩⟩
theorem leaves44 (X:Nat→Prop):Par.Leaves X (Cw.HA Cw.ExB) Cw.HP:=by
 refine⟨fun kn own f w h=>h.more _ fun r hr=>.inl hr,fun kn own f w v w3 kn3 own3 h=>?_⟩
 obtain⟨r,cap,n,h1,h2,h3,h4,h5,h6,h7,h8,rfl,rfl⟩:=h
 refine⟨fun s=>kn s∨s=r,⟨r,cap,n,h1,fun h=>h2 (.inl h),h3,h4,h5,h6,h7,h8.mono fun s hs=>.inl hs,rfl,rfl⟩,?_,h8.mono fun s hs=>.inr hs,fun s hs=>?_⟩
 ·funext s
  apply propext
  constructor
  ·rintro((h|h)|h)
   ·exact .inl (.inl h)
   ·exact .inr h
   ·exact .inl (.inr h)
  ·rintro((h|h)|h)
   ·exact .inl (.inl h)
   ·exact .inr h
   ·exact .inl (.inr h)
 ·rcases hs with hs|rfl
  ·exact .inl hs
  ·exact .inr fun h=>h2 (.inr h)
theorem pays10:Pays Tryz.prog HA10 HP1:=by
 intro kn own f c rest w gs sl t q h0 hq hco ⟨hf,hk0,fz,hch⟩
 subst hf
 have hbound:∀r,kn r→r<w.heap.size:=fun r hr=>hco.bound 0 rfl r hr
 have hno:∀c c',¬Cw.H44 10 c c':=fun c c' h=>absurd h.1 (by decide)
 have ct:=ct_of_bar (P:=Tw.prog) (F:=Tryz.funcs) (N:=1) (p:=p0) Cw.closedM (fun g hg _=>by
  have:Tw.prog.globals.size=1:=Cw.globs1
  exact⟨by omega,by omega⟩) (wr0 hch) (.one (FrR.enter (xs:=#[]) (xs':=#[]) Cw.closedM (f:=10) (by decide) AR.empty rfl rfl) ⟨rfl,hno⟩) (Cw.holeL 1) bar10 true (c::rest) fun e=>by cases e
 rw[Cw.back]at ct
 have hown:∀r,ownOf 1 p0 r→¬kn r:=fun r ⟨s,hs,h1⟩=>by have:=hs.1;omega
 have ct2:=CT.keep kn (leaves44 kn) ct hbound hown
 have ekn:(fun r=>rng p0 r∨kn r)=kn:=by
  funext r
  apply propext
  constructor
  ·rintro(⟨s,hs⟩|h)
   ·exact hs.2▸hk0
   ·exact h
  ·exact .inr
 rw[ekn]at ct2
 have hco2:Co (fun g=>g=0) (fun _=>kn) (fun _=>ownOf 1 p0) w.heap.size t:=hco.shrink (fun _ _ _ h=>h) (fun g hg r ⟨s,hs,h1⟩=>by have:=hs.1;omega) fun g hg r ⟨s,hs,h1⟩=>by have:=hs.1;omega
 obtain⟨N,v,w3,kn3,own3,gs',sl',t',q',r1,⟨⟨_,_,v0,_,rfl,hv,_⟩,r2⟩,r3,r4,r5⟩:=rets_of_ct (Cw.pays Cw.ExB Cw.EB Cw.least Cw.alones) (fun kn own f w d h=>Cw.ha_at _ h) (fun kn own f w d v w3 kn3 own3 h=>Cw.hp_at h) ct2 gs w sl t q (Env.refl _ _) h0 hq hco2
 obtain rfl:v=.bool true:=by cases hv;rfl
 exact⟨N,_,w3,kn,own,gs',sl',t',q',r1,⟨rfl,r2,rfl,rfl⟩,r3,r4,r5.grow (fun r hr=>Nat.lt_of_lt_of_le (hbound r hr) r2.1) fun r hr=>hco.sub 0 rfl r hr⟩
end Go.Proofs.Cz
end
