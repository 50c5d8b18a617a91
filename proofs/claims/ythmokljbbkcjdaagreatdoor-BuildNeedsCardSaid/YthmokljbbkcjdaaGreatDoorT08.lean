/- A part of the proof that BuildNeeds returns true. Conditions: none. -/
import Derived.Test.YthmokljbbkcjdaaGreatDoorT07
import Derived.Test.YthmokljbbkcjdaaGreatDoorProg
import Derived.WalkKit
set_option linter.unusedVariables false
set_option linter.unusedSimpArgs false
section
namespace Go.Proofs
def Tz.stub:Code:=.seq (.region 0 #[{dst:=some 0,op:=.assign (.const (.bool true)),type:=4,pos:= "",after:=#[],guard:=none}] false) .ret
noncomputable def Tz.f10:Func:={Tryz.f10 with body:=some Tz.stub}
noncomputable def Tz.funcs:Array Func:=Tryz.funcs.setIfInBounds 10 Tz.f10
noncomputable def Tz.prog:Program:={Tryz.prog with funcs:=Tz.funcs}
theorem Tz.funcs_eq:Tz.prog.funcs=Tz.funcs:=by simp only[Tz.prog]
theorem Tz.size:Tryz.funcs.size=169:=by kernel_rfl
theorem Tz.same (i:Nat) (h:10≠i):Tz.prog.funcs[i]?=Tryz.prog.funcs[i]?:=by
 have e2:Tryz.prog.funcs=Tryz.funcs:=by simp only[Tryz.prog]
 rw[Tz.funcs_eq,e2];unfold Tz.funcs;exact Array.getElem?_setIfInBounds_ne h
theorem Tz.func10:Tz.prog.funcs[10]?=some Tz.f10:=by
 rw[Tz.funcs_eq];unfold Tz.funcs
 rw[Array.getElem?_setIfInBounds]
 simp[Tz.size]
theorem Tz.ntmps10:Tz.f10.ntmps=288:=Tryz.ntmps10
section
variable (P:Program) (F:Array Func)
theorem wfz_under (t:TypeId):({P with funcs:=F}:Program).underlying t=P.underlying t:=rfl
theorem wfz_runUnder (t:TypeId) (w:World):Sem.run {P with funcs:=F} (Go.underlying t) w=Sem.run P (Go.underlying t) w:=by
 unfold Go.underlying
 show Sem.run _ ((match P.underlying t with|some d=>pure d|none=>stuck "no such type"):Sem TypeDesc) w=Sem.run _ ((match P.underlying t with|some d=>pure d|none=>stuck "no such type"):Sem TypeDesc) w
 cases P.underlying t<;>rfl
theorem wfz_runInfo (t:TypeId) (w:World):Sem.run {P with funcs:=F} (Go.typeInfo t) w=Sem.run P (Go.typeInfo t) w:=by
 unfold Go.typeInfo
 show Sem.run _ ((match P.info? t with|some d=>pure d|none=>stuck "no such type"):Sem TypeInfo) w=Sem.run _ ((match P.info? t with|some d=>pure d|none=>stuck "no such type"):Sem TypeInfo) w
 cases P.info? t<;>rfl
theorem wfz_runSize (t:TypeId) (w:World):Sem.run {P with funcs:=F} (Go.sizeOf t) w=Sem.run P (Go.sizeOf t) w:=by
 unfold Go.sizeOf
 simp only[Sem.run_bind,wfz_runInfo]
 cases Sem.run P (Go.typeInfo t) w<;>rfl
theorem wfz_runAgg (t:TypeId) (w:World):Sem.run {P with funcs:=F} (Go.isAgg t) w=Sem.run P (Go.isAgg t) w:=by
 unfold Go.isAgg
 simp only[Sem.run_bind,wfz_runUnder]
 cases Sem.run P (Go.underlying t) w with
 |ok d w1=>cases d<;>simp only[Result.andThen,Sem.run_pure]
 |halt h w1=>simp only[Result.andThen]
theorem wfz_runZero (t:TypeId) (w:World):Sem.run {P with funcs:=F} (Go.zeroValue t) w=Sem.run P (Go.zeroValue t) w:=by
 unfold Go.zeroValue
 simp only[Sem.run_bind,wfz_runInfo]
 cases Sem.run P (Go.typeInfo t) w with
 |ok d w1=>cases hz:d.zero<;>simp[Result.andThen,hz,Go.unsupported,Sem.run]
 |halt h w1=>simp only[Result.andThen]
end
@[simp] theorem Tz.under (t:TypeId):Tz.prog.underlying t=Tryz.prog.underlying t:=wfz_under Tryz.prog Tz.funcs t
@[simp] theorem Tz.stood (t:TypeId):Tz.prog.stoodInHeld t=Tryz.prog.stoodInHeld t:=Par.wf_stood Tryz.prog Tz.funcs t
@[simp] theorem Tz.runUnder (t:TypeId) (w:World):Sem.run Tz.prog (Go.underlying t) w=Sem.run Tryz.prog (Go.underlying t) w:=wfz_runUnder Tryz.prog Tz.funcs t w
@[simp] theorem Tz.runZero (t:TypeId) (w:World):Sem.run Tz.prog (Go.zeroValue t) w=Sem.run Tryz.prog (Go.zeroValue t) w:=wfz_runZero Tryz.prog Tz.funcs t w
@[simp] theorem Tz.runSize (t:TypeId) (w:World):Sem.run Tz.prog (Go.sizeOf t) w=Sem.run Tryz.prog (Go.sizeOf t) w:=wfz_runSize Tryz.prog Tz.funcs t w
@[simp] theorem Tz.runAgg (t:TypeId) (w:World):Sem.run Tz.prog (Go.isAgg t) w=Sem.run Tryz.prog (Go.isAgg t) w:=wfz_runAgg Tryz.prog Tz.funcs t w
theorem Tz.call_of {f:FuncId} {fn:Func} (h:Tz.prog.funcs[f]? =some fn) (hb:fn.body.isSome=true) (hn:fn.name≠ "runtime.NumGoroutine") (args:Array Value) (w:World):Sem.run Tz.prog (Go.callFunc f args) w=.ok (.enter f args) w:=by
 cases hc:fn.body with
 |none=>rw[hc]at hb;cases hb
 |some c=>
  unfold Go.callFunc
  simp[Go.program,Sem.run,h,hc,hn]
theorem Tz.func4:Tz.prog.funcs[4]?=some Tryz.f4:=(Tz.same 4 (by decide)).trans Tryz.func4
theorem Tz.ntmps4:Tryz.f4.ntmps=88:=Tryz.ntmps4
theorem Tz.func9:Tz.prog.funcs[9]?=some Tryz.f9:=(Tz.same 9 (by decide)).trans Tryz.func9
theorem Tz.ntmps9:Tryz.f9.ntmps=11:=Tryz.ntmps9
@[simp] theorem Tz.call9 (args:Array Value) (w:World):Sem.run Tz.prog (Go.callFunc 9 args) w=.ok (.enter 9 args) w:=Tz.call_of Tz.func9 rfl (by decide) args w
theorem Tz.func13:Tz.prog.funcs[13]?=some Tryz.f13:=(Tz.same 13 (by decide)).trans Tryz.func13
theorem Tz.ntmps13:Tryz.f13.ntmps=34:=Tryz.ntmps13
@[simp] theorem Tz.call13 (args:Array Value) (w:World):Sem.run Tz.prog (Go.callFunc 13 args) w=.ok (.enter 13 args) w:=Tz.call_of Tz.func13 rfl (by decide) args w
theorem Tz.func17:Tz.prog.funcs[17]?=some Tryz.f17:=(Tz.same 17 (by decide)).trans Tryz.func17
theorem Tz.ntmps17:Tryz.f17.ntmps=36:=Tryz.ntmps17
@[simp] theorem Tz.call17 (args:Array Value) (w:World):Sem.run Tz.prog (Go.callFunc 17 args) w=.ok (.enter 17 args) w:=Tz.call_of Tz.func17 rfl (by decide) args w
theorem Tz.func18:Tz.prog.funcs[18]?=some Tryz.f18:=(Tz.same 18 (by decide)).trans Tryz.func18
theorem Tz.ntmps18:Tryz.f18.ntmps=17:=Tryz.ntmps18
@[simp] theorem Tz.call18 (args:Array Value) (w:World):Sem.run Tz.prog (Go.callFunc 18 args) w=.ok (.enter 18 args) w:=Tz.call_of Tz.func18 rfl (by decide) args w
theorem Tz.func19:Tz.prog.funcs[19]?=some Tryz.f19:=(Tz.same 19 (by decide)).trans Tryz.func19
theorem Tz.ntmps19:Tryz.f19.ntmps=15:=Tryz.ntmps19
@[simp] theorem Tz.call19 (args:Array Value) (w:World):Sem.run Tz.prog (Go.callFunc 19 args) w=.ok (.enter 19 args) w:=Tz.call_of Tz.func19 rfl (by decide) args w
theorem Tz.func20:Tz.prog.funcs[20]?=some Tryz.f20:=(Tz.same 20 (by decide)).trans Tryz.func20
theorem Tz.ntmps20:Tryz.f20.ntmps=18:=Tryz.ntmps20
@[simp] theorem Tz.call20 (args:Array Value) (w:World):Sem.run Tz.prog (Go.callFunc 20 args) w=.ok (.enter 20 args) w:=Tz.call_of Tz.func20 rfl (by decide) args w
theorem Tz.func40:Tz.prog.funcs[40]?=some Tryz.f40:=(Tz.same 40 (by decide)).trans Tryz.func40
theorem Tz.ntmps40:Tryz.f40.ntmps=61:=Tryz.ntmps40
@[simp] theorem Tz.call40 (args:Array Value) (w:World):Sem.run Tz.prog (Go.callFunc 40 args) w=.ok (.enter 40 args) w:=Tz.call_of Tz.func40 rfl (by decide) args w
theorem Tz.func41:Tz.prog.funcs[41]?=some Tryz.f41:=(Tz.same 41 (by decide)).trans Tryz.func41
theorem Tz.ntmps41:Tryz.f41.ntmps=57:=Tryz.ntmps41
@[simp] theorem Tz.call41 (args:Array Value) (w:World):Sem.run Tz.prog (Go.callFunc 41 args) w=.ok (.enter 41 args) w:=Tz.call_of Tz.func41 rfl (by decide) args w
theorem Tz.func47:Tz.prog.funcs[47]?=some Tryz.f47:=(Tz.same 47 (by decide)).trans Tryz.func47
theorem Tz.ntmps47:Tryz.f47.ntmps=18:=Tryz.ntmps47
@[simp] theorem Tz.call47 (args:Array Value) (w:World):Sem.run Tz.prog (Go.callFunc 47 args) w=.ok (.enter 47 args) w:=Tz.call_of Tz.func47 rfl (by decide) args w
theorem Tz.func50:Tz.prog.funcs[50]?=some Tryz.f50:=(Tz.same 50 (by decide)).trans Tryz.func50
theorem Tz.ntmps50:Tryz.f50.ntmps=18:=Tryz.ntmps50
@[simp] theorem Tz.call50 (args:Array Value) (w:World):Sem.run Tz.prog (Go.callFunc 50 args) w=.ok (.enter 50 args) w:=Tz.call_of Tz.func50 rfl (by decide) args w
theorem Tz.func51:Tz.prog.funcs[51]?=some Tryz.f51:=(Tz.same 51 (by decide)).trans Tryz.func51
theorem Tz.ntmps51:Tryz.f51.ntmps=25:=Tryz.ntmps51
@[simp] theorem Tz.call51 (args:Array Value) (w:World):Sem.run Tz.prog (Go.callFunc 51 args) w=.ok (.enter 51 args) w:=Tz.call_of Tz.func51 rfl (by decide) args w
theorem Tz.func52:Tz.prog.funcs[52]?=some Tryz.f52:=(Tz.same 52 (by decide)).trans Tryz.func52
theorem Tz.ntmps52:Tryz.f52.ntmps=9:=Tryz.ntmps52
@[simp] theorem Tz.call52 (args:Array Value) (w:World):Sem.run Tz.prog (Go.callFunc 52 args) w=.ok (.enter 52 args) w:=Tz.call_of Tz.func52 rfl (by decide) args w
theorem Tz.func53:Tz.prog.funcs[53]?=some Tryz.f53:=(Tz.same 53 (by decide)).trans Tryz.func53
theorem Tz.ntmps53:Tryz.f53.ntmps=13:=Tryz.ntmps53
@[simp] theorem Tz.call53 (args:Array Value) (w:World):Sem.run Tz.prog (Go.callFunc 53 args) w=.ok (.enter 53 args) w:=Tz.call_of Tz.func53 rfl (by decide) args w
theorem Tz.func54:Tz.prog.funcs[54]?=some Tryz.f54:=(Tz.same 54 (by decide)).trans Tryz.func54
theorem Tz.ntmps54:Tryz.f54.ntmps=9:=Tryz.ntmps54
@[simp] theorem Tz.call54 (args:Array Value) (w:World):Sem.run Tz.prog (Go.callFunc 54 args) w=.ok (.enter 54 args) w:=Tz.call_of Tz.func54 rfl (by decide) args w
theorem Tz.func55:Tz.prog.funcs[55]?=some Tryz.f55:=(Tz.same 55 (by decide)).trans Tryz.func55
theorem Tz.ntmps55:Tryz.f55.ntmps=34:=Tryz.ntmps55
@[simp] theorem Tz.call55 (args:Array Value) (w:World):Sem.run Tz.prog (Go.callFunc 55 args) w=.ok (.enter 55 args) w:=Tz.call_of Tz.func55 rfl (by decide) args w
theorem Tz.func56:Tz.prog.funcs[56]?=some Tryz.f56:=(Tz.same 56 (by decide)).trans Tryz.func56
theorem Tz.ntmps56:Tryz.f56.ntmps=3:=Tryz.ntmps56
@[simp] theorem Tz.call56 (args:Array Value) (w:World):Sem.run Tz.prog (Go.callFunc 56 args) w=.ok (.enter 56 args) w:=Tz.call_of Tz.func56 rfl (by decide) args w
theorem Tz.func57:Tz.prog.funcs[57]?=some Tryz.f57:=(Tz.same 57 (by decide)).trans Tryz.func57
theorem Tz.ntmps57:Tryz.f57.ntmps=29:=Tryz.ntmps57
@[simp] theorem Tz.call57 (args:Array Value) (w:World):Sem.run Tz.prog (Go.callFunc 57 args) w=.ok (.enter 57 args) w:=Tz.call_of Tz.func57 rfl (by decide) args w
theorem Tz.func60:Tz.prog.funcs[60]?=some Tryz.f60:=(Tz.same 60 (by decide)).trans Tryz.func60
theorem Tz.ntmps60:Tryz.f60.ntmps=13:=Tryz.ntmps60
@[simp] theorem Tz.call60 (args:Array Value) (w:World):Sem.run Tz.prog (Go.callFunc 60 args) w=.ok (.enter 60 args) w:=Tz.call_of Tz.func60 rfl (by decide) args w
theorem Tz.func63:Tz.prog.funcs[63]?=some Tryz.f63:=(Tz.same 63 (by decide)).trans Tryz.func63
theorem Tz.ntmps63:Tryz.f63.ntmps=50:=Tryz.ntmps63
@[simp] theorem Tz.call63 (args:Array Value) (w:World):Sem.run Tz.prog (Go.callFunc 63 args) w=.ok (.enter 63 args) w:=Tz.call_of Tz.func63 rfl (by decide) args w
theorem Tz.func65:Tz.prog.funcs[65]?=some Tryz.f65:=(Tz.same 65 (by decide)).trans Tryz.func65
theorem Tz.ntmps65:Tryz.f65.ntmps=44:=Tryz.ntmps65
@[simp] theorem Tz.call65 (args:Array Value) (w:World):Sem.run Tz.prog (Go.callFunc 65 args) w=.ok (.enter 65 args) w:=Tz.call_of Tz.func65 rfl (by decide) args w
theorem Tz.func70:Tz.prog.funcs[70]?=some Tryz.f70:=(Tz.same 70 (by decide)).trans Tryz.func70
theorem Tz.ntmps70:Tryz.f70.ntmps=35:=Tryz.ntmps70
@[simp] theorem Tz.call70 (args:Array Value) (w:World):Sem.run Tz.prog (Go.callFunc 70 args) w=.ok (.enter 70 args) w:=Tz.call_of Tz.func70 rfl (by decide) args w
theorem Tz.func75:Tz.prog.funcs[75]?=some Tryz.f75:=(Tz.same 75 (by decide)).trans Tryz.func75
theorem Tz.ntmps75:Tryz.f75.ntmps=15:=Tryz.ntmps75
@[simp] theorem Tz.call75 (args:Array Value) (w:World):Sem.run Tz.prog (Go.callFunc 75 args) w=.ok (.enter 75 args) w:=Tz.call_of Tz.func75 rfl (by decide) args w
theorem Tz.func76:Tz.prog.funcs[76]?=some Tryz.f76:=(Tz.same 76 (by decide)).trans Tryz.func76
theorem Tz.ntmps76:Tryz.f76.ntmps=27:=Tryz.ntmps76
@[simp] theorem Tz.call76 (args:Array Value) (w:World):Sem.run Tz.prog (Go.callFunc 76 args) w=.ok (.enter 76 args) w:=Tz.call_of Tz.func76 rfl (by decide) args w
theorem Tz.func84:Tz.prog.funcs[84]?=some Tryz.f84:=(Tz.same 84 (by decide)).trans Tryz.func84
theorem Tz.ntmps84:Tryz.f84.ntmps=76:=Tryz.ntmps84
@[simp] theorem Tz.call84 (args:Array Value) (w:World):Sem.run Tz.prog (Go.callFunc 84 args) w=.ok (.enter 84 args) w:=Tz.call_of Tz.func84 rfl (by decide) args w
theorem Tz.func85:Tz.prog.funcs[85]?=some Tryz.f85:=(Tz.same 85 (by decide)).trans Tryz.func85
theorem Tz.ntmps85:Tryz.f85.ntmps=57:=Tryz.ntmps85
@[simp] theorem Tz.call85 (args:Array Value) (w:World):Sem.run Tz.prog (Go.callFunc 85 args) w=.ok (.enter 85 args) w:=Tz.call_of Tz.func85 rfl (by decide) args w
theorem Tz.func86:Tz.prog.funcs[86]?=some Tryz.f86:=(Tz.same 86 (by decide)).trans Tryz.func86
theorem Tz.ntmps86:Tryz.f86.ntmps=63:=Tryz.ntmps86
@[simp] theorem Tz.call86 (args:Array Value) (w:World):Sem.run Tz.prog (Go.callFunc 86 args) w=.ok (.enter 86 args) w:=Tz.call_of Tz.func86 rfl (by decide) args w
theorem Tz.func87:Tz.prog.funcs[87]?=some Tryz.f87:=(Tz.same 87 (by decide)).trans Tryz.func87
theorem Tz.ntmps87:Tryz.f87.ntmps=24:=Tryz.ntmps87
@[simp] theorem Tz.call87 (args:Array Value) (w:World):Sem.run Tz.prog (Go.callFunc 87 args) w=.ok (.enter 87 args) w:=Tz.call_of Tz.func87 rfl (by decide) args w
theorem Tz.func91:Tz.prog.funcs[91]?=some Tryz.f91:=(Tz.same 91 (by decide)).trans Tryz.func91
theorem Tz.ntmps91:Tryz.f91.ntmps=6:=Tryz.ntmps91
@[simp] theorem Tz.call91 (args:Array Value) (w:World):Sem.run Tz.prog (Go.callFunc 91 args) w=.ok (.enter 91 args) w:=Tz.call_of Tz.func91 rfl (by decide) args w
theorem Tz.func94:Tz.prog.funcs[94]?=some Tryz.f94:=(Tz.same 94 (by decide)).trans Tryz.func94
theorem Tz.ntmps94:Tryz.f94.ntmps=19:=Tryz.ntmps94
@[simp] theorem Tz.call94 (args:Array Value) (w:World):Sem.run Tz.prog (Go.callFunc 94 args) w=.ok (.enter 94 args) w:=Tz.call_of Tz.func94 rfl (by decide) args w
theorem Tz.func95:Tz.prog.funcs[95]?=some Tryz.f95:=(Tz.same 95 (by decide)).trans Tryz.func95
theorem Tz.ntmps95:Tryz.f95.ntmps=19:=Tryz.ntmps95
@[simp] theorem Tz.call95 (args:Array Value) (w:World):Sem.run Tz.prog (Go.callFunc 95 args) w=.ok (.enter 95 args) w:=Tz.call_of Tz.func95 rfl (by decide) args w
theorem Tz.func96:Tz.prog.funcs[96]?=some Tryz.f96:=(Tz.same 96 (by decide)).trans Tryz.func96
theorem Tz.ntmps96:Tryz.f96.ntmps=9:=Tryz.ntmps96
theorem Tz.func98:Tz.prog.funcs[98]?=some Tryz.f98:=(Tz.same 98 (by decide)).trans Tryz.func98
theorem Tz.ntmps98:Tryz.f98.ntmps=43:=Tryz.ntmps98
@[simp] theorem Tz.call98 (args:Array Value) (w:World):Sem.run Tz.prog (Go.callFunc 98 args) w=.ok (.enter 98 args) w:=Tz.call_of Tz.func98 rfl (by decide) args w
theorem Tz.func99:Tz.prog.funcs[99]?=some Tryz.f99:=(Tz.same 99 (by decide)).trans Tryz.func99
theorem Tz.ntmps99:Tryz.f99.ntmps=9:=Tryz.ntmps99
@[simp] theorem Tz.call99 (args:Array Value) (w:World):Sem.run Tz.prog (Go.callFunc 99 args) w=.ok (.enter 99 args) w:=Tz.call_of Tz.func99 rfl (by decide) args w
theorem Tz.func100:Tz.prog.funcs[100]?=some Tryz.f100:=(Tz.same 100 (by decide)).trans Tryz.func100
theorem Tz.ntmps100:Tryz.f100.ntmps=12:=Tryz.ntmps100
@[simp] theorem Tz.call100 (args:Array Value) (w:World):Sem.run Tz.prog (Go.callFunc 100 args) w=.ok (.enter 100 args) w:=Tz.call_of Tz.func100 rfl (by decide) args w
theorem Tz.func101:Tz.prog.funcs[101]?=some Tryz.f101:=(Tz.same 101 (by decide)).trans Tryz.func101
theorem Tz.ntmps101:Tryz.f101.ntmps=18:=Tryz.ntmps101
@[simp] theorem Tz.call101 (args:Array Value) (w:World):Sem.run Tz.prog (Go.callFunc 101 args) w=.ok (.enter 101 args) w:=Tz.call_of Tz.func101 rfl (by decide) args w
theorem Tz.func102:Tz.prog.funcs[102]?=some Tryz.f102:=(Tz.same 102 (by decide)).trans Tryz.func102
theorem Tz.ntmps102:Tryz.f102.ntmps=24:=Tryz.ntmps102
@[simp] theorem Tz.call102 (args:Array Value) (w:World):Sem.run Tz.prog (Go.callFunc 102 args) w=.ok (.enter 102 args) w:=Tz.call_of Tz.func102 rfl (by decide) args w
theorem Tz.func109:Tz.prog.funcs[109]?=some Tryz.f109:=(Tz.same 109 (by decide)).trans Tryz.func109
theorem Tz.ntmps109:Tryz.f109.ntmps=34:=Tryz.ntmps109
@[simp] theorem Tz.call109 (args:Array Value) (w:World):Sem.run Tz.prog (Go.callFunc 109 args) w=.ok (.enter 109 args) w:=Tz.call_of Tz.func109 rfl (by decide) args w
theorem Tz.func110:Tz.prog.funcs[110]?=some Tryz.f110:=(Tz.same 110 (by decide)).trans Tryz.func110
theorem Tz.ntmps110:Tryz.f110.ntmps=9:=Tryz.ntmps110
theorem Tz.func111:Tz.prog.funcs[111]?=some Tryz.f111:=(Tz.same 111 (by decide)).trans Tryz.func111
theorem Tz.ntmps111:Tryz.f111.ntmps=65:=Tryz.ntmps111
@[simp] theorem Tz.call111 (args:Array Value) (w:World):Sem.run Tz.prog (Go.callFunc 111 args) w=.ok (.enter 111 args) w:=Tz.call_of Tz.func111 rfl (by decide) args w
theorem Tz.func113:Tz.prog.funcs[113]?=some Tryz.f113:=(Tz.same 113 (by decide)).trans Tryz.func113
theorem Tz.ntmps113:Tryz.f113.ntmps=54:=Tryz.ntmps113
@[simp] theorem Tz.call113 (args:Array Value) (w:World):Sem.run Tz.prog (Go.callFunc 113 args) w=.ok (.enter 113 args) w:=Tz.call_of Tz.func113 rfl (by decide) args w
theorem Tz.func114:Tz.prog.funcs[114]?=some Tryz.f114:=(Tz.same 114 (by decide)).trans Tryz.func114
theorem Tz.ntmps114:Tryz.f114.ntmps=11:=Tryz.ntmps114
@[simp] theorem Tz.call114 (args:Array Value) (w:World):Sem.run Tz.prog (Go.callFunc 114 args) w=.ok (.enter 114 args) w:=Tz.call_of Tz.func114 rfl (by decide) args w
theorem Tz.func115:Tz.prog.funcs[115]?=some Tryz.f115:=(Tz.same 115 (by decide)).trans Tryz.func115
theorem Tz.ntmps115:Tryz.f115.ntmps=19:=Tryz.ntmps115
@[simp] theorem Tz.call115 (args:Array Value) (w:World):Sem.run Tz.prog (Go.callFunc 115 args) w=.ok (.enter 115 args) w:=Tz.call_of Tz.func115 rfl (by decide) args w
theorem Tz.func116:Tz.prog.funcs[116]?=some Tryz.f116:=(Tz.same 116 (by decide)).trans Tryz.func116
theorem Tz.ntmps116:Tryz.f116.ntmps=9:=Tryz.ntmps116
@[simp] theorem Tz.call116 (args:Array Value) (w:World):Sem.run Tz.prog (Go.callFunc 116 args) w=.ok (.enter 116 args) w:=Tz.call_of Tz.func116 rfl (by decide) args w
theorem Tz.func128:Tz.prog.funcs[128]?=some Tryz.f128:=(Tz.same 128 (by decide)).trans Tryz.func128
theorem Tz.ntmps128:Tryz.f128.ntmps=9:=Tryz.ntmps128
@[simp] theorem Tz.call128 (args:Array Value) (w:World):Sem.run Tz.prog (Go.callFunc 128 args) w=.ok (.enter 128 args) w:=Tz.call_of Tz.func128 rfl (by decide) args w
theorem Tz.func129:Tz.prog.funcs[129]?=some Tryz.f129:=(Tz.same 129 (by decide)).trans Tryz.func129
theorem Tz.ntmps129:Tryz.f129.ntmps=9:=Tryz.ntmps129
@[simp] theorem Tz.call129 (args:Array Value) (w:World):Sem.run Tz.prog (Go.callFunc 129 args) w=.ok (.enter 129 args) w:=Tz.call_of Tz.func129 rfl (by decide) args w
theorem Tz.func131:Tz.prog.funcs[131]?=some Tryz.f131:=(Tz.same 131 (by decide)).trans Tryz.func131
theorem Tz.ntmps131:Tryz.f131.ntmps=9:=Tryz.ntmps131
@[simp] theorem Tz.call131 (args:Array Value) (w:World):Sem.run Tz.prog (Go.callFunc 131 args) w=.ok (.enter 131 args) w:=Tz.call_of Tz.func131 rfl (by decide) args w
theorem Tz.func133:Tz.prog.funcs[133]?=some Tryz.f133:=(Tz.same 133 (by decide)).trans Tryz.func133
theorem Tz.ntmps133:Tryz.f133.ntmps=19:=Tryz.ntmps133
@[simp] theorem Tz.call133 (args:Array Value) (w:World):Sem.run Tz.prog (Go.callFunc 133 args) w=.ok (.enter 133 args) w:=Tz.call_of Tz.func133 rfl (by decide) args w
theorem Tz.func139:Tz.prog.funcs[139]?=some Tryz.f139:=(Tz.same 139 (by decide)).trans Tryz.func139
theorem Tz.ntmps139:Tryz.f139.ntmps=19:=Tryz.ntmps139
@[simp] theorem Tz.call139 (args:Array Value) (w:World):Sem.run Tz.prog (Go.callFunc 139 args) w=.ok (.enter 139 args) w:=Tz.call_of Tz.func139 rfl (by decide) args w
theorem Tz.func157:Tz.prog.funcs[157]?=some Tryz.f157:=(Tz.same 157 (by decide)).trans Tryz.func157
theorem Tz.ntmps157:Tryz.f157.ntmps=15:=Tryz.ntmps157
@[simp] theorem Tz.call157 (args:Array Value) (w:World):Sem.run Tz.prog (Go.callFunc 157 args) w=.ok (.enter 157 args) w:=Tz.call_of Tz.func157 rfl (by decide) args w
theorem Tz.func158:Tz.prog.funcs[158]?=some Tryz.f158:=(Tz.same 158 (by decide)).trans Tryz.func158
theorem Tz.ntmps158:Tryz.f158.ntmps=79:=Tryz.ntmps158
@[simp] theorem Tz.call158 (args:Array Value) (w:World):Sem.run Tz.prog (Go.callFunc 158 args) w=.ok (.enter 158 args) w:=Tz.call_of Tz.func158 rfl (by decide) args w
theorem Tz.func159:Tz.prog.funcs[159]?=some Tryz.f159:=(Tz.same 159 (by decide)).trans Tryz.func159
theorem Tz.ntmps159:Tryz.f159.ntmps=53:=Tryz.ntmps159
@[simp] theorem Tz.call159 (args:Array Value) (w:World):Sem.run Tz.prog (Go.callFunc 159 args) w=.ok (.enter 159 args) w:=Tz.call_of Tz.func159 rfl (by decide) args w
theorem Tz.func160:Tz.prog.funcs[160]?=some Tryz.f160:=(Tz.same 160 (by decide)).trans Tryz.func160
theorem Tz.ntmps160:Tryz.f160.ntmps=31:=Tryz.ntmps160
@[simp] theorem Tz.call160 (args:Array Value) (w:World):Sem.run Tz.prog (Go.callFunc 160 args) w=.ok (.enter 160 args) w:=Tz.call_of Tz.func160 rfl (by decide) args w
theorem Tz.func161:Tz.prog.funcs[161]?=some Tryz.f161:=(Tz.same 161 (by decide)).trans Tryz.func161
theorem Tz.ntmps161:Tryz.f161.ntmps=36:=Tryz.ntmps161
@[simp] theorem Tz.call161 (args:Array Value) (w:World):Sem.run Tz.prog (Go.callFunc 161 args) w=.ok (.enter 161 args) w:=Tz.call_of Tz.func161 rfl (by decide) args w
theorem Tz.func162:Tz.prog.funcs[162]?=some Tryz.f162:=(Tz.same 162 (by decide)).trans Tryz.func162
theorem Tz.ntmps162:Tryz.f162.ntmps=9:=Tryz.ntmps162
@[simp] theorem Tz.call162 (args:Array Value) (w:World):Sem.run Tz.prog (Go.callFunc 162 args) w=.ok (.enter 162 args) w:=Tz.call_of Tz.func162 rfl (by decide) args w
theorem Tz.func163:Tz.prog.funcs[163]?=some Tryz.f163:=(Tz.same 163 (by decide)).trans Tryz.func163
theorem Tz.ntmps163:Tryz.f163.ntmps=9:=Tryz.ntmps163
@[simp] theorem Tz.call163 (args:Array Value) (w:World):Sem.run Tz.prog (Go.callFunc 163 args) w=.ok (.enter 163 args) w:=Tz.call_of Tz.func163 rfl (by decide) args w
theorem Tz.func164:Tz.prog.funcs[164]?=some Tryz.f164:=(Tz.same 164 (by decide)).trans Tryz.func164
theorem Tz.ntmps164:Tryz.f164.ntmps=19:=Tryz.ntmps164
@[simp] theorem Tz.call164 (args:Array Value) (w:World):Sem.run Tz.prog (Go.callFunc 164 args) w=.ok (.enter 164 args) w:=Tz.call_of Tz.func164 rfl (by decide) args w
@[simp] theorem Tz.call10 (args:Array Value) (w:World):Sem.run Tz.prog (Go.callFunc 10 args) w=.ok (.enter 10 args) w:=Tz.call_of Tz.func10 rfl (by decide) args w
end Go.Proofs
end
