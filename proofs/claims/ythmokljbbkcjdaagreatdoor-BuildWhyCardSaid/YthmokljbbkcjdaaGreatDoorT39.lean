/- A part of the proof that BuildWhy returns true. Conditions: none. -/
import Derived.Test.YthmokljbbkcjdaaGreatDoorT08
import Derived.Test.YthmokljbbkcjdaaGreatDoorT38
set_option linter.unusedVariables false
set_option linter.unusedSimpArgs false
section
namespace Go.Proofs.Cz
open Go.Conc Go.Par
def S1 (n:Nat):Bool:=(Nat.blt n 170&&!([0,1,2,5,10,21,44,58,88,141,142,143,144,145,146,147,148,149,150,151,152,153,154,155,156,165,166,167].contains n))||Nat.beq n JK||Nat.beq n (JK+11)
theorem zerosZ:ZerosPlain Tz.prog:=fun t i v h1 h2=>Cw.zeros t i v h1 h2
theorem checkerZ:NoChecker Tz.prog:=fun t i u h=>Cw.checker t i u h
noncomputable def okAll (lo n:Nat):Bool:=(List.range n).all fun i=>!S1 (lo+i)||(match Tryz.funcs[lo+i]? with
 |some fn=>(match fn.body with|some c=>codeOk Tz.prog S1 c&&!(fn.name== "runtime.NumGoroutine")|none=>false)
 |none=>false)
theorem ok0:okAll 0 40=true:=by kernel_rfl
theorem ok1:okAll 40 60=true:=by kernel_rfl
theorem ok2:okAll 100 69=true:=by kernel_rfl
theorem ok_of {lo n i:Nat} (h:okAll lo n=true) (h1:lo≤i) (h2:i<lo+n) (hs:S1 i=true):∃fn c,Tryz.funcs[i]? =some fn∧fn.body=some c∧codeOk Tz.prog S1 c=true∧fn.name≠ "runtime.NumGoroutine" :=by
 have:=List.all_eq_true.1 h (i-lo) (by simp;omega)
 rw[show lo+(i-lo)=i by omega,hs]at this
 simp only[Bool.not_true,Bool.false_or]at this
 cases hf:Tryz.funcs[i]? with
 |none=>rw[hf]at this;cases this
 |some fn=>
  rw[hf]at this
  simp only at this
  cases hbd:fn.body with
  |none=>rw[hbd]at this;cases this
  |some c=>
   rw[hbd]at this
   simp only[Bool.and_eq_true,Bool.not_eq_true',beq_eq_false_iff_ne]at this
   exact⟨fn,c,rfl,hbd,this.1,this.2⟩
theorem s1_lt {f:Nat} (h:S1 f=true):f<170∨f=JK∨f=JK+11:=by
 simp only[S1,Bool.or_eq_true,Bool.and_eq_true]at h
 rcases h with(⟨h,_⟩|h)|h
 ·exact .inl (by simpa using h)
 ·exact .inr (.inl (Nat.eq_of_beq_eq_true h))
 ·exact .inr (.inr (Nat.eq_of_beq_eq_true h))
theorem s1_no {f:Nat} (h1:170≤f) (h2:f≠JK) (h3:f≠JK+11):S1 f=false:=by
 cases h:S1 f with
 |false=>rfl
 |true=>rcases s1_lt h with h|h|h<;>omega
theorem sizeZ:Tz.prog.funcs.size=169:=by rw[Tz.funcs_eq];unfold Tz.funcs;rw[Array.size_setIfInBounds,Tz.size]
theorem globsZ:Tz.prog.globals.size=1:=by kernel_rfl
theorem closedZ:Closed Tz.prog Tryz.funcs S1 noH where
 zeros:=zerosZ
 checker:=checkerZ
 noT:=fun _=>by kernel_rfl
 size:=by rw[sizeZ,Tz.size]
 hol:=fun f hf=>by
  rw[sizeZ,globsZ]
  refine⟨fun _=>?_,fun _ a b h=>h⟩
  have hJ:JK=1000000:=rfl
  rcases s1_lt hf with h|h|h<;>refine s1_no ?_ ?_ ?_<;>omega
 body:=fun f hf=>by
  have hJ:JK=1000000:=rfl
  rcases s1_lt hf with h|h|h
  ·by_cases h9:f=169
   ·subst h9
    exact .inl ⟨Array.getElem?_eq_none (by rw[sizeZ];omega),Array.getElem?_eq_none (by rw[Tz.size];omega)⟩
   ·obtain⟨fn,c,h1,h2,h3,h4⟩:∃fn c,Tryz.funcs[f]? =some fn∧fn.body=some c∧codeOk Tz.prog S1 c=true∧fn.name≠ "runtime.NumGoroutine" :=by
     by_cases l1:f<40
     ·exact ok_of ok0 (by omega) (by omega) hf
     ·by_cases l2:f<100
      ·exact ok_of ok1 (by omega) (by omega) hf
      ·exact ok_of ok2 (by omega) (by omega) hf
    have h10:10≠f:=fun e=>by subst e;cases hf
    exact .inr ⟨fn,fn,c,c,(Tz.same f h10).trans h1,h1,h2,h2,.same h3 (.inr fun _ _ hh=>hh),h4,h4,rfl,rfl⟩
  ·exact .inl ⟨Array.getElem?_eq_none (by rw[sizeZ];omega),Array.getElem?_eq_none (by rw[Tz.size];omega)⟩
  ·exact .inl ⟨Array.getElem?_eq_none (by rw[sizeZ];omega),Array.getElem?_eq_none (by rw[Tz.size];omega)⟩
theorem markedZ:S1 (Tz.prog.funcs.size+Tz.prog.globals.size)=false:=by rw[sizeZ,globsZ];exact s1_no (by omega) (by decide) (by decide)
theorem backZ:withF Tz.prog Tryz.funcs=Tryz.prog:=rfl
end Go.Proofs.Cz
end
