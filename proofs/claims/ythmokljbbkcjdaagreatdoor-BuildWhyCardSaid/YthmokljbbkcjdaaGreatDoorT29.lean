/- A part of the proof that BuildWhy returns true. Conditions: none. -/
import Derived.Test.YthmokljbbkcjdaaGreatDoorT23
import Derived.Test.YthmokljbbkcjdaaGreatDoorT28
set_option linter.unusedVariables false
set_option linter.unusedSimpArgs false
section
namespace Go.Proofs.Cw
open Go.Ev
theorem plain_eq:∀(n:Nat) (v:Value),Par.plain n v=Ev.plain n v:=by
 intro n
 induction n with
 |zero=>
  intro v
  cases v
  case pointer a=>cases a<;>rfl
  case slice a l c=>cases a<;>rfl
  case map a=>cases a<;>rfl
  case chan a=>cases a<;>rfl
  all_goals rfl
 |succ n ih=>
  intro v
  have hall:∀xs:Array Value,xs.all (Par.plain n)=xs.all (Ev.plain n):=fun xs=>by
   congr 1;funext x;exact ih x
  cases v
  case pointer a=>cases a<;>rfl
  case slice a l c=>cases a<;>rfl
  case map a=>cases a<;>rfl
  case chan a=>cases a<;>rfl
  case iface t v=>exact ih v
  case agg xs=>exact hall xs
  case tuple xs=>exact hall xs
  all_goals rfl
theorem zerosE:Ev.ZerosPlain Tw.prog:=fun t i v h1 h2=>by rw[←plain_eq];exact zeros t i v h1 h2
theorem checkerE:Ev.NoChecker Tw.prog:=checker
def ex44 (f:Nat):Bool:=Nat.beq f 44
def Sb (f:Nat):Bool:=(Nat.ble 9 f&&Nat.ble f 140&&!Nat.beq f 10&&!Nat.beq f 88)||(Nat.ble 157 f&&Nat.ble f 164)||Nat.beq f 169
noncomputable def okE (i:Nat):Bool:=!Sb i||Nat.beq i 169||Nat.beq i 44||(match Tw.prog.funcs[i]? with
 |some fn=>(match fn.body with|some c=>cE Tw.prog Sb c&&!(fn.name== "runtime.NumGoroutine")|none=>false)
 |none=>false)
noncomputable def okFrom:Nat→Nat→Bool
 |0,_=>true
 |n+1,i=>okE i&&okFrom n (i+1)
theorem okFrom_at:∀(n i j:Nat),okFrom n i=true→i≤j→j<i+n→okE j=true
 |0,i,j,_,h1,h2=>by omega
 |n+1,i,j,h,h1,h2=>by
  simp only[okFrom,Bool.and_eq_true]at h
  by_cases e:i=j
  ·subst e;exact h.1
  ·exact okFrom_at n (i+1) j h.2 (by omega) (by omega)
set_option maxRecDepth 100000 in
theorem okA:okFrom 40 0=true:=by kernel_rfl
set_option maxRecDepth 100000 in
theorem okB:okFrom 30 40=true:=by kernel_rfl
set_option maxRecDepth 100000 in
theorem okC:okFrom 40 70=true:=by kernel_rfl
set_option maxRecDepth 100000 in
theorem okD:okFrom 14 110=true:=by kernel_rfl
set_option maxRecDepth 100000 in
theorem okE':okFrom 46 124=true:=by kernel_rfl
theorem sb_lt {f:Nat} (h:Sb f=true):f<170:=by
 simp only[Sb,Bool.or_eq_true,Bool.and_eq_true]at h
 rcases h with(⟨⟨⟨_,h⟩,_⟩,_⟩|⟨_,h⟩)|h
 ·have:=Nat.le_of_ble_eq_true h;omega
 ·have:=Nat.le_of_ble_eq_true h;omega
 ·have:=Nat.eq_of_beq_eq_true h;omega
theorem ok_all {f:Nat} (h:Sb f=true) (hne:f≠169) (h44:f≠44):∃fn c,Tw.prog.funcs[f]? =some fn∧fn.body=some c∧cE Tw.prog Sb c=true∧fn.name≠ "runtime.NumGoroutine" :=by
 have hlt:=sb_lt h
 have:okE f=true:=by
  by_cases h1:f<40
  ·exact okFrom_at _ _ f okA (by omega) (by omega)
  ·by_cases h2:f<70
   ·exact okFrom_at _ _ f okB (by omega) (by omega)
   ·by_cases h3:f<110
    ·exact okFrom_at _ _ f okC (by omega) (by omega)
    ·by_cases h4:f<124
     ·exact okFrom_at _ _ f okD (by omega) (by omega)
     ·exact okFrom_at _ _ f okE' (by omega) (by omega)
 unfold okE at this
 have hb:Nat.beq f 169=false:=beqn hne
 have hb2:Nat.beq f 44=false:=beqn h44
 rw[h,hb,hb2]at this
 simp only[Bool.not_true,Bool.false_or]at this
 cases hf:Tw.prog.funcs[f]? with
 |none=>rw[hf]at this;cases this
 |some fn=>
  rw[hf]at this
  simp only at this
  cases hbd:fn.body with
  |none=>rw[hbd]at this;cases this
  |some c=>
   rw[hbd]at this
   simp only[Bool.and_eq_true,Bool.not_eq_true',beq_eq_false_iff_ne]at this
   exact⟨fn,c,rfl,hbd,this.1,this.2⟩
theorem twSize:Tw.prog.funcs.size=169:=by rw[←sizes,Tw.size]
theorem okTw:Ok Tw.prog Tw.prog.funcs Sb where
 zeros:=zerosE
 checker:=checkerE
 bodies:=fun f hf=>by
  by_cases e:f=169
  ·subst e
   exact .inl ⟨Array.getElem?_eq_none (by rw[twSize];omega),Array.getElem?_eq_none (by rw[twSize];omega)⟩
  ·by_cases e4:f=44
   ·subst e4
    exact .inr ⟨Tw.f44,Tw.f44,Tw.func44,Tw.func44,rfl,rfl,by decide,by decide⟩
   obtain⟨fn,c,h1,h2,_,h4⟩:=ok_all hf e e4
   exact .inr ⟨fn,fn,h1,h1,by rw[h2];rfl,by rw[h2];rfl,h4,h4⟩
theorem bodsTw:Bods Tw.prog Sb ex44:=fun f fn body hf hx h1 h2=>by
 have e:f≠169:=fun e=>by
  subst e
  rw[Array.getElem?_eq_none (by rw[twSize];omega)]at h1
  cases h1
 have e4:f≠44:=fun e=>by subst e;cases hx
 obtain⟨fn',c,g1,g2,g3,_⟩:=ok_all hf e e4
 rw[h1]at g1
 cases g1
 rw[h2]at g2
 cases g2
 exact g3
end Go.Proofs.Cw
end
