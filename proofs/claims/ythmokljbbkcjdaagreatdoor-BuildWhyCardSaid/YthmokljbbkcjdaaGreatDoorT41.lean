/- A part of the proof that BuildWhy returns true. Conditions: none. -/
import Derived.Test.YthmokljbbkcjdaaGreatDoorT07
set_option linter.unusedVariables false
set_option linter.unusedSimpArgs false
section
namespace Go.Par
theorem CT.keep1 {P:Program} {main:Bool} {base:List Frame} {Fin:FinT} {e:FuncId} (X:Nat→Prop) {kn own:Nat→Prop} {f:Frame} {top:List Frame} {w:World}
 (h:CT P main base Fin (HA1 P e) HP1 kn own f top w) (hX:∀r,X r→r<w.heap.size) (hd:∀r,own r→¬X r):
 CT P main base (fun _ own v w'=>(∃kn0,Fin kn0 own v w')∧Env X w w') (fun kn own f w1=>HA1 P e kn own f w1∧(∀r,X r→kn r)∧Env X w w1) HP1 (fun r=>kn r∨X r) own f top w:=by
 have key:=CT.ind (I:=fun kn own f top w1=>(∀r,own r→¬X r)→Env X w w1→CT P main base (fun _ own v w'=>(∃kn0,Fin kn0 own v w')∧Env X w w') (fun kn own f w1=>HA1 P e kn own f w1∧(∀r,X r→kn r)∧Env X w w1) HP1 (fun r=>kn r∨X r) own f top w1) ?_ h
 ·exact key hd (Env.refl _ _)
 intro kn own f top w1 hb hd1 he1
 have keep:∀{w2 w3:World} {es:Array Event},Env (fun r=>kn r∨X r) w1 w2→Fair kn own w2 w3 es→Env X w w3∧∀r,orNew own w2 w3 r→¬X r:=fun{w2 w3 es} he hf=>by
  have he2:Env X w w2:=he1.trans (he.mono fun r h=>.inr h)
  have hlt:∀r,X r→r<w2.heap.size:=fun r hr=>Nat.lt_of_lt_of_le (hX r hr) he2.1
  refine⟨he2.trans ⟨hf.size,fun r hr=>hf.others r (hlt r hr) fun ho=>hd1 r ho hr,hf.os,hf.out⟩,fun r hr hx=>?_⟩
  rcases hr with hr|hr
  ·exact hd1 r hr hx
  ·have:=hlt r hx;have:=hr.1;omega
 refine CT.mk fun w2 he=>?_
 rcases hb w2 (he.mono fun r h=>.inl h)with⟨w3,es,f2,top2,h1,h2,h3⟩|⟨w3,es,v,b',bs',h0,h1,h2,h3⟩|⟨w3,es,v,h0,h1,h2,h3⟩|⟨h1,c,rest,h2,h3⟩
 ·refine .inl ⟨w3,es,f2,top2,h1,h2.mono (fun r h=>.inl h) (fun r h=>h),?_⟩
  rw[orNew_or]
  obtain⟨k1,k2⟩:=keep he h2
  exact h3.1 k2 k1
 ·exact .inr (.inl ⟨w3,es,v,b',bs',h0,h1,h2.mono (fun r h=>.inl h) (fun r h=>h),⟨_,h3⟩,(keep he h2).1⟩)
 ·exact .inr (.inr (.inl ⟨w3,es,v,h0,h1,h2.mono (fun r h=>.inl h) (fun r h=>h),⟨_,h3⟩,(keep he h2).1⟩))
 ·have he2:Env X w w2:=he1.trans (he.mono fun r h=>.inr h)
  refine .inr (.inr (.inr ⟨⟨h1,fun r hr=>.inr hr,he2⟩,c,rest,h2,fun v w3 kn3 own3 hp=>?_⟩))
  obtain⟨rfl,q2,rfl,rfl⟩:=hp
  exact(h3 (.bool true) w3 kn own3 ⟨rfl,q2.mono fun r h=>.inl h,rfl,rfl⟩).1 hd1 (he2.trans (q2.mono fun r h=>.inr h))
end Go.Par
end
