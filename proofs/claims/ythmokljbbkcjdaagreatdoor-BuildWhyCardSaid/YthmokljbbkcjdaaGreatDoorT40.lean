/- A part of the proof that BuildWhy returns true. Conditions: none. -/
import Derived.Test.YthmokljbbkcjdaaGreatDoorT39
import Derived.WalkSpells
import Derived.WalkLawsBesides
import Derived.Deep.QuietTactic
import Derived.BigQuiet
set_option linter.unusedVariables false
set_option linter.unusedSimpArgs false
section
namespace Go.Proofs.Cz
open Go.Conc Go.Par Go.RowKit
theorem f10 (n:Nat) (h:S1 (JK+1+n)=true):n=10:=by
 have hJ:JK=1000000:=rfl
 rcases s1_lt h with h|h|h<;>omega
theorem callee10 {o:Op} (h:holeOp S1 o=true):∃ts,o=.call {callee:=.value (.func 10),args:=#[],argTypes:=ts}:=by
 unfold holeOp at h
 cases o with
 |call c=>
  obtain⟨cl,xs,ts⟩:=c
  cases cl with
  |value x=>
   cases x with
   |func f=>
    simp only[Bool.and_eq_true]at h
    have hf:f=10:=f10 f h.1
    subst hf
    have:xs=#[]:=by simpa using h.2
    subst this
    exact⟨ts,rfl⟩
   |_=>cases h
  |_=>cases h
 |_=>cases h
theorem runT_call {P:Program} {fn:Func} (hf:P.funcs[10]? =some fn) (hb:fn.body.isNone=false) (hn:(fn.name== "runtime.NumGoroutine")=false) (w:World) (es:Array Event):
 (Go.callFunc 10 #[]).runT P w es=(.ok (.enter 10 #[]) w,es):=by
 unfold Go.callFunc
 show Sem.runT P ((match P.funcs[10]? with
  |none=>stuck "call: no such function"
  |some fn=>_):Sem Next) w es=_
 rw[hf]
 simp only[hn,hb,Bool.false_eq_true,if_false]
 rfl
theorem enter10 {P:Program} {fn:Func} (hf:P.funcs[10]? =some fn) (hb:fn.body.isNone=false) (hn:(fn.name== "runtime.NumGoroutine")=false) (main:Bool) (f:Frame) (cs:List Frame) (w:World) (hh:HatO S1 f) (hk:f.kind=.normal):
 stepG P main (gor f cs) w=.go (gor (Frame.enter P 10 #[] .normal) (f::cs)) w #[]:=by
 obtain⟨hm,o,ops,i,is,k,h1,h2,h3,h4⟩:=hh
 obtain⟨ts,ho⟩:=callee10 h3
 obtain⟨fn',tmps,todo,defers,mode,kind,ro⟩:=f
 simp only at hm h1 h4 hk
 subst hm;subst h1;subst hk
 have hr:(execOp (Frame.eval {fn:=fn',tmps:=tmps,todo:=.inRegion ops (i::is)::k,defers:=defers,mode:=.run,kind:=.normal,roundOf:=ro}) o).runT P w #[]=(.ok (.enter 10 #[]) w,#[]):=by
  obtain⟨d,op,ty,pos,af,gd⟩:=o
  simp only at ho
  subst ho
  have e:∀ρ:Operand→Value,ρ (.func 10)=.func (.func 10) #[] #[]→execOp ρ {dst:=d,op:=.call {callee:=.value (.func 10),args:=#[],argTypes:=ts},type:=ty,pos:=pos,after:=af,guard:=gd}=Go.callFunc 10 #[]:=by
   intro ρ hρ
   have e1:execOp ρ {dst:=d,op:=.call {callee:=.value (.func 10),args:=#[],argTypes:=ts},type:=ty,pos:=pos,after:=af,guard:=gd}=(Deferred.ofValue (ρ (.func 10)) (#[].map ρ)>>=fun d=>invoke d.target d.args):=rfl
   rw[e1,hρ]
   have e2:(Deferred.ofValue (.func (.func 10) #[] #[]) ((#[]:Array Operand).map ρ)>>=fun d=>invoke d.target d.args)=Go.callFunc 10 ((#[]++((#[]:Array Operand).map ρ))++#[]):=rfl
   rw[e2]
   simp
  rw[e _ rfl]
  exact runT_call hf hb hn w #[]
 have hop:(Frame.oper? {fn:=fn',tmps:=tmps,todo:=.inRegion ops (i::is)::k,defers:=defers,mode:=.run,kind:=.normal,roundOf:=ro}:Option Oper)=some o:=by
  unfold Frame.oper?
  exact h2
 unfold stepG
 simp only
 unfold stepG.exec
 simp only[h2,Option.map_some,Option.getD_some,h4,if_true]
 unfold stepG.oper
 simp only[hop]
 have key:stepG.apply P true {fn:=fn',tmps:=tmps,todo:=.inRegion ops (i::is)::k,defers:=defers,mode:=.run,kind:=.normal,roundOf:=ro} cs none (execOp (Frame.eval {fn:=fn',tmps:=tmps,todo:=.inRegion ops (i::is)::k,defers:=defers,mode:=.run,kind:=.normal,roundOf:=ro}) o) w=.go (gor (Frame.enter P 10 #[] .normal) ({fn:=fn',tmps:=tmps,todo:=.inRegion ops (i::is)::k,defers:=defers,mode:=.run,kind:=.normal,roundOf:=ro}::cs)) w #[]:=by
  unfold stepG.apply
  simp only[if_true,hr]
  rfl
 split
 ·rename_i hx;rw[ho]at hx;cases hx
 ·exact key
set_option maxRecDepth 100000 in
theorem lone10 (lf:Frame) (cs:List Frame) (v:World) (hh:HatO S1 lf) (hk:lf.kind=.normal):∃n,1≤n∧runN Tz.prog n (lone lf cs v)=.next (lone (lf.finish (.bool true)) cs v):=by
 have h1:step Tz.prog (lone lf cs v)=.next (lone (Frame.enter Tz.prog 10 #[] .normal) (lf::cs) v):=step_lone_go (by
  rw[show stepG Tz.prog true {frame:=lf,callers:=cs,status:=.running,dying:=none} v=_ from enter10 Tz.func10 (by rfl) (by rfl) true lf cs v hh hk]
  rfl)
 have hc:Calls Tz.prog 10 #[] v fun e w'=>e=.returned (.bool true)∧w'=v:=by
  go_enter Tz.func10,Tz.ntmps10
  unfold Tz.stub
  go_wp2
  go_ret
  exact⟨rfl,rfl⟩
 obtain⟨e,w',fr,⟨rfl,rfl⟩,⟨n,hn⟩,_,hl⟩:=hc (lf::cs)
 have h2:=step_leave_returned (c:=lf) (cs:=cs) hl
 refine⟨1+(n+1),by omega,?_⟩
 rw[runN_add]
 have e1:runN Tz.prog 1 (lone lf cs w')=.next (lone (Frame.enter Tz.prog 10 #[] .normal) (lf::cs) w'):=by simp only[runN,h1]
 rw[e1]
 simp only
 rw[runN_add,hn]
 simp only[runN,h2]
theorem callZ:CallL Tz.prog Tryz.funcs S1 10 where
 marked:=markedZ
 lone:=lone10
 comp:=fun main f cs w hh hk=>enter10 (P:=Tryz.prog) Tryz.func10 (by rfl) (by rfl) main f cs w hh hk
end Go.Proofs.Cz
end
