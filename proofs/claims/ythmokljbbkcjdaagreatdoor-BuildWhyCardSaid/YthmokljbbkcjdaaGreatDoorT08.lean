/- A part of the proof that BuildWhy returns true. Conditions: none. -/
import Derived.Test.YthmokljbbkcjdaaGreatDoorT07
import Derived.Test.YthmokljbbkcjdaaGreatDoorProg
import Derived.WalkKit
set_option linter.unusedVariables false
set_option linter.unusedSimpArgs false
section
namespace Go.Proofs
def Tz.stub:Code:=.seq (.region 0 #[{dst:=some 0,op:=.assign (.const (.bool true)),type:=4,pos:= "",after:=#[],guard:=none}] false) .ret
noncomputable def Tz.f10:Func:={Tryz.f10 with body:=some Tz.stub}
noncomputable def Tz.funcs:Array Func:=Tryz.funcs.setIfInBounds 10 Tz.f10
noncomputable def Tz.prog:Program:={Tryz.prog with funcs:=Tz.funcs}
theorem Tz.funcs_eq:Tz.prog.funcs=Tz.funcs:=by simp only[Tz.prog]
theorem Tz.size:Tryz.funcs.size=169:=by kernel_rfl
theorem Tz.same (i:Nat) (h:10≠i):Tz.prog.funcs[i]?=Tryz.prog.funcs[i]?:=by
 have e2:Tryz.prog.funcs=Tryz.funcs:=by simp only[Tryz.prog]
 rw[Tz.funcs_eq,e2];unfold Tz.funcs;exact Array.getElem?_setIfInBounds_ne h
theorem Tz.func10:Tz.prog.funcs[10]?=some Tz.f10:=by
 rw[Tz.funcs_eq];unfold Tz.funcs
 rw[Array.getElem?_setIfInBounds]
 simp[Tz.size]
theorem Tz.ntmps10:Tz.f10.ntmps=288:=Tryz.ntmps10
section
variable (P:Program) (F:Array Func)
theorem wfz_under (t:TypeId):({P with funcs:=F}:Program).underlying t=P.underlying t:=rfl
theorem wfz_runUnder (t:TypeId) (w:World):Sem.run {P with funcs:=F} (Go.underlying t) w=Sem.run P (Go.underlying t) w:=by
 unfold Go.underlying
 show Sem.run _ ((match P.underlying t with|some d=>pure d|none=>stuck "no such type"):Sem TypeDesc) w=Sem.run _ ((match P.underlying t with|some d=>pure d|none=>stuck "no such type"):Sem TypeDesc) w
 cases P.underlying t<;>rfl
theorem wfz_runInfo (t:TypeId) (w:World):Sem.run {P with funcs:=F} (Go.typeInfo t) w=Sem.run P (Go.typeInfo t) w:=by
 unfold Go.typeInfo
 show Sem.run _ ((match P.info? t with|some d=>pure d|none=>stuck "no such type"):Sem TypeInfo) w=Sem.run _ ((match P.info? t with|some d=>pure d|none=>stuck "no such type"):Sem TypeInfo) w
 cases P.info? t<;>rfl
theorem wfz_runSize (t:TypeId) (w:World):Sem.run {P with funcs:=F} (Go.sizeOf t) w=Sem.run P (Go.sizeOf t) w:=by
 unfold Go.sizeOf
 simp only[Sem.run_bind,wfz_runInfo]
 cases Sem.run P (Go.typeInfo t) w<;>rfl
theorem wfz_runAgg (t:TypeId) (w:World):Sem.run {P with funcs:=F} (Go.isAgg t) w=Sem.run P (Go.isAgg t) w:=by
 unfold Go.isAgg
 simp only[Sem.run_bind,wfz_runUnder]
 cases Sem.run P (Go.underlying t) w with
 |ok d w1=>cases d<;>simp only[Result.andThen,Sem.run_pure]
 |halt h w1=>simp only[Result.andThen]
theorem wfz_runZero (t:TypeId) (w:World):Sem.run {P with funcs:=F} (Go.zeroValue t) w=Sem.run P (Go.zeroValue t) w:=by
 unfold Go.zeroValue
 simp only[Sem.run_bind,wfz_runInfo]
 cases Sem.run P (Go.typeInfo t) w with
 |ok d w1=>cases hz:d.zero<;>simp[Result.andThen,hz,Go.unsupported,Sem.run]
 |halt h w1=>simp only[Result.andThen]
end
@[simp] theorem Tz.under (t:TypeId):Tz.prog.underlying t=Tryz.prog.underlying t:=wfz_under Tryz.prog Tz.funcs t
@[simp] theorem Tz.stood (t:TypeId):Tz.prog.stoodInHeld t=Tryz.prog.stoodInHeld t:=Par.wf_stood Tryz.prog Tz.funcs t
@[simp] theorem Tz.runUnder (t:TypeId) (w:World):Sem.run Tz.prog (Go.underlying t) w=Sem.run Tryz.prog (Go.underlying t) w:=wfz_runUnder Tryz.prog Tz.funcs t w
@[simp] theorem Tz.runZero (t:TypeId) (w:World):Sem.run Tz.prog (Go.zeroValue t) w=Sem.run Tryz.prog (Go.zeroValue t) w:=wfz_runZero Tryz.prog Tz.funcs t w
@[simp] theorem Tz.runSize (t:TypeId) (w:World):Sem.run Tz.prog (Go.sizeOf t) w=Sem.run Tryz.prog (Go.sizeOf t) w:=wfz_runSize Tryz.prog Tz.funcs t w
@[simp] theorem Tz.runAgg (t:TypeId) (w:World):Sem.run Tz.prog (Go.isAgg t) w=Sem.run Tryz.prog (Go.isAgg t) w:=wfz_runAgg Tryz.prog Tz.funcs t w
theorem Tz.call_of {f:FuncId} {fn:Func} (h:Tz.prog.funcs[f]? =some fn) (hb:fn.body.isSome=true) (hn:fn.name≠ "runtime.NumGoroutine") (args:Array Value) (w:World):Sem.run Tz.prog (Go.callFunc f args) w=.ok (.enter f args) w:=by
 cases hc:fn.body with
 |none=>rw[hc]at hb;cases hb
 |some c=>
  unfold Go.callFunc
  simp[Go.program,Sem.run,h,hc,hn]
theorem Tz.func3:Tz.prog.funcs[3]?=some Tryz.f3:=(Tz.same 3 (by decide)).trans Tryz.func3
theorem Tz.ntmps3:Tryz.f3.ntmps=141:=Tryz.ntmps3
theorem Tz.func9:Tz.prog.funcs[9]?=some Tryz.f9:=(Tz.same 9 (by decide)).trans Tryz.func9
theorem Tz.ntmps9:Tryz.f9.ntmps=11:=Tryz.ntmps9
@[simp] theorem Tz.call9 (args:Array Value) (w:World):Sem.run Tz.prog (Go.callFunc 9 args) w=.ok (.enter 9 args) w:=Tz.call_of Tz.func9 rfl (by decide) args w
theorem Tz.func11:Tz.prog.funcs[11]?=some Tryz.f11:=(Tz.same 11 (by decide)).trans Tryz.func11
theorem Tz.ntmps11:Tryz.f11.ntmps=60:=Tryz.ntmps11
@[simp] theorem Tz.call11 (args:Array Value) (w:World):Sem.run Tz.prog (Go.callFunc 11 args) w=.ok (.enter 11 args) w:=Tz.call_of Tz.func11 rfl (by decide) args w
theorem Tz.func12:Tz.prog.funcs[12]?=some Tryz.f12:=(Tz.same 12 (by decide)).trans Tryz.func12
theorem Tz.ntmps12:Tryz.f12.ntmps=25:=Tryz.ntmps12
@[simp] theorem Tz.call12 (args:Array Value) (w:World):Sem.run Tz.prog (Go.callFunc 12 args) w=.ok (.enter 12 args) w:=Tz.call_of Tz.func12 rfl (by decide) args w
theorem Tz.func13:Tz.prog.funcs[13]?=some Tryz.f13:=(Tz.same 13 (by decide)).trans Tryz.func13
theorem Tz.ntmps13:Tryz.f13.ntmps=34:=Tryz.ntmps13
@[simp] theorem Tz.call13 (args:Array Value) (w:World):Sem.run Tz.prog (Go.callFunc 13 args) w=.ok (.enter 13 args) w:=Tz.call_of Tz.func13 rfl (by decide) args w
theorem Tz.func14:Tz.prog.funcs[14]?=some Tryz.f14:=(Tz.same 14 (by decide)).trans Tryz.func14
theorem Tz.ntmps14:Tryz.f14.ntmps=14:=Tryz.ntmps14
@[simp] theorem Tz.call14 (args:Array Value) (w:World):Sem.run Tz.prog (Go.callFunc 14 args) w=.ok (.enter 14 args) w:=Tz.call_of Tz.func14 rfl (by decide) args w
theorem Tz.func15:Tz.prog.funcs[15]?=some Tryz.f15:=(Tz.same 15 (by decide)).trans Tryz.func15
theorem Tz.ntmps15:Tryz.f15.ntmps=15:=Tryz.ntmps15
@[simp] theorem Tz.call15 (args:Array Value) (w:World):Sem.run Tz.prog (Go.callFunc 15 args) w=.ok (.enter 15 args) w:=Tz.call_of Tz.func15 rfl (by decide) args w
theorem Tz.func16:Tz.prog.funcs[16]?=some Tryz.f16:=(Tz.same 16 (by decide)).trans Tryz.func16
theorem Tz.ntmps16:Tryz.f16.ntmps=22:=Tryz.ntmps16
@[simp] theorem Tz.call16 (args:Array Value) (w:World):Sem.run Tz.prog (Go.callFunc 16 args) w=.ok (.enter 16 args) w:=Tz.call_of Tz.func16 rfl (by decide) args w
theorem Tz.func19:Tz.prog.funcs[19]?=some Tryz.f19:=(Tz.same 19 (by decide)).trans Tryz.func19
theorem Tz.ntmps19:Tryz.f19.ntmps=15:=Tryz.ntmps19
@[simp] theorem Tz.call19 (args:Array Value) (w:World):Sem.run Tz.prog (Go.callFunc 19 args) w=.ok (.enter 19 args) w:=Tz.call_of Tz.func19 rfl (by decide) args w
theorem Tz.func20:Tz.prog.funcs[20]?=some Tryz.f20:=(Tz.same 20 (by decide)).trans Tryz.func20
theorem Tz.ntmps20:Tryz.f20.ntmps=18:=Tryz.ntmps20
@[simp] theorem Tz.call20 (args:Array Value) (w:World):Sem.run Tz.prog (Go.callFunc 20 args) w=.ok (.enter 20 args) w:=Tz.call_of Tz.func20 rfl (by decide) args w
theorem Tz.func39:Tz.prog.funcs[39]?=some Tryz.f39:=(Tz.same 39 (by decide)).trans Tryz.func39
theorem Tz.ntmps39:Tryz.f39.ntmps=41:=Tryz.ntmps39
@[simp] theorem Tz.call39 (args:Array Value) (w:World):Sem.run Tz.prog (Go.callFunc 39 args) w=.ok (.enter 39 args) w:=Tz.call_of Tz.func39 rfl (by decide) args w
theorem Tz.func40:Tz.prog.funcs[40]?=some Tryz.f40:=(Tz.same 40 (by decide)).trans Tryz.func40
theorem Tz.ntmps40:Tryz.f40.ntmps=61:=Tryz.ntmps40
@[simp] theorem Tz.call40 (args:Array Value) (w:World):Sem.run Tz.prog (Go.callFunc 40 args) w=.ok (.enter 40 args) w:=Tz.call_of Tz.func40 rfl (by decide) args w
theorem Tz.func41:Tz.prog.funcs[41]?=some Tryz.f41:=(Tz.same 41 (by decide)).trans Tryz.func41
theorem Tz.ntmps41:Tryz.f41.ntmps=57:=Tryz.ntmps41
@[simp] theorem Tz.call41 (args:Array Value) (w:World):Sem.run Tz.prog (Go.callFunc 41 args) w=.ok (.enter 41 args) w:=Tz.call_of Tz.func41 rfl (by decide) args w
theorem Tz.func47:Tz.prog.funcs[47]?=some Tryz.f47:=(Tz.same 47 (by decide)).trans Tryz.func47
theorem Tz.ntmps47:Tryz.f47.ntmps=18:=Tryz.ntmps47
@[simp] theorem Tz.call47 (args:Array Value) (w:World):Sem.run Tz.prog (Go.callFunc 47 args) w=.ok (.enter 47 args) w:=Tz.call_of Tz.func47 rfl (by decide) args w
theorem Tz.func48:Tz.prog.funcs[48]?=some Tryz.f48:=(Tz.same 48 (by decide)).trans Tryz.func48
theorem Tz.ntmps48:Tryz.f48.ntmps=9:=Tryz.ntmps48
@[simp] theorem Tz.call48 (args:Array Value) (w:World):Sem.run Tz.prog (Go.callFunc 48 args) w=.ok (.enter 48 args) w:=Tz.call_of Tz.func48 rfl (by decide) args w
theorem Tz.func49:Tz.prog.funcs[49]?=some Tryz.f49:=(Tz.same 49 (by decide)).trans Tryz.func49
theorem Tz.ntmps49:Tryz.f49.ntmps=43:=Tryz.ntmps49
@[simp] theorem Tz.call49 (args:Array Value) (w:World):Sem.run Tz.prog (Go.callFunc 49 args) w=.ok (.enter 49 args) w:=Tz.call_of Tz.func49 rfl (by decide) args w
theorem Tz.func50:Tz.prog.funcs[50]?=some Tryz.f50:=(Tz.same 50 (by decide)).trans Tryz.func50
theorem Tz.ntmps50:Tryz.f50.ntmps=18:=Tryz.ntmps50
@[simp] theorem Tz.call50 (args:Array Value) (w:World):Sem.run Tz.prog (Go.callFunc 50 args) w=.ok (.enter 50 args) w:=Tz.call_of Tz.func50 rfl (by decide) args w
theorem Tz.func54:Tz.prog.funcs[54]?=some Tryz.f54:=(Tz.same 54 (by decide)).trans Tryz.func54
theorem Tz.ntmps54:Tryz.f54.ntmps=9:=Tryz.ntmps54
@[simp] theorem Tz.call54 (args:Array Value) (w:World):Sem.run Tz.prog (Go.callFunc 54 args) w=.ok (.enter 54 args) w:=Tz.call_of Tz.func54 rfl (by decide) args w
theorem Tz.func63:Tz.prog.funcs[63]?=some Tryz.f63:=(Tz.same 63 (by decide)).trans Tryz.func63
theorem Tz.ntmps63:Tryz.f63.ntmps=50:=Tryz.ntmps63
@[simp] theorem Tz.call63 (args:Array Value) (w:World):Sem.run Tz.prog (Go.callFunc 63 args) w=.ok (.enter 63 args) w:=Tz.call_of Tz.func63 rfl (by decide) args w
theorem Tz.func70:Tz.prog.funcs[70]?=some Tryz.f70:=(Tz.same 70 (by decide)).trans Tryz.func70
theorem Tz.ntmps70:Tryz.f70.ntmps=35:=Tryz.ntmps70
@[simp] theorem Tz.call70 (args:Array Value) (w:World):Sem.run Tz.prog (Go.callFunc 70 args) w=.ok (.enter 70 args) w:=Tz.call_of Tz.func70 rfl (by decide) args w
theorem Tz.func75:Tz.prog.funcs[75]?=some Tryz.f75:=(Tz.same 75 (by decide)).trans Tryz.func75
theorem Tz.ntmps75:Tryz.f75.ntmps=15:=Tryz.ntmps75
@[simp] theorem Tz.call75 (args:Array Value) (w:World):Sem.run Tz.prog (Go.callFunc 75 args) w=.ok (.enter 75 args) w:=Tz.call_of Tz.func75 rfl (by decide) args w
theorem Tz.func76:Tz.prog.funcs[76]?=some Tryz.f76:=(Tz.same 76 (by decide)).trans Tryz.func76
theorem Tz.ntmps76:Tryz.f76.ntmps=27:=Tryz.ntmps76
@[simp] theorem Tz.call76 (args:Array Value) (w:World):Sem.run Tz.prog (Go.callFunc 76 args) w=.ok (.enter 76 args) w:=Tz.call_of Tz.func76 rfl (by decide) args w
theorem Tz.func84:Tz.prog.funcs[84]?=some Tryz.f84:=(Tz.same 84 (by decide)).trans Tryz.func84
theorem Tz.ntmps84:Tryz.f84.ntmps=76:=Tryz.ntmps84
@[simp] theorem Tz.call84 (args:Array Value) (w:World):Sem.run Tz.prog (Go.callFunc 84 args) w=.ok (.enter 84 args) w:=Tz.call_of Tz.func84 rfl (by decide) args w
theorem Tz.func85:Tz.prog.funcs[85]?=some Tryz.f85:=(Tz.same 85 (by decide)).trans Tryz.func85
theorem Tz.ntmps85:Tryz.f85.ntmps=57:=Tryz.ntmps85
@[simp] theorem Tz.call85 (args:Array Value) (w:World):Sem.run Tz.prog (Go.callFunc 85 args) w=.ok (.enter 85 args) w:=Tz.call_of Tz.func85 rfl (by decide) args w
theorem Tz.func86:Tz.prog.funcs[86]?=some Tryz.f86:=(Tz.same 86 (by decide)).trans Tryz.func86
theorem Tz.ntmps86:Tryz.f86.ntmps=63:=Tryz.ntmps86
@[simp] theorem Tz.call86 (args:Array Value) (w:World):Sem.run Tz.prog (Go.callFunc 86 args) w=.ok (.enter 86 args) w:=Tz.call_of Tz.func86 rfl (by decide) args w
theorem Tz.func87:Tz.prog.funcs[87]?=some Tryz.f87:=(Tz.same 87 (by decide)).trans Tryz.func87
theorem Tz.ntmps87:Tryz.f87.ntmps=24:=Tryz.ntmps87
@[simp] theorem Tz.call87 (args:Array Value) (w:World):Sem.run Tz.prog (Go.callFunc 87 args) w=.ok (.enter 87 args) w:=Tz.call_of Tz.func87 rfl (by decide) args w
theorem Tz.func91:Tz.prog.funcs[91]?=some Tryz.f91:=(Tz.same 91 (by decide)).trans Tryz.func91
theorem Tz.ntmps91:Tryz.f91.ntmps=6:=Tryz.ntmps91
@[simp] theorem Tz.call91 (args:Array Value) (w:World):Sem.run Tz.prog (Go.callFunc 91 args) w=.ok (.enter 91 args) w:=Tz.call_of Tz.func91 rfl (by decide) args w
theorem Tz.func92:Tz.prog.funcs[92]?=some Tryz.f92:=(Tz.same 92 (by decide)).trans Tryz.func92
theorem Tz.ntmps92:Tryz.f92.ntmps=21:=Tryz.ntmps92
@[simp] theorem Tz.call92 (args:Array Value) (w:World):Sem.run Tz.prog (Go.callFunc 92 args) w=.ok (.enter 92 args) w:=Tz.call_of Tz.func92 rfl (by decide) args w
theorem Tz.func93:Tz.prog.funcs[93]?=some Tryz.f93:=(Tz.same 93 (by decide)).trans Tryz.func93
theorem Tz.ntmps93:Tryz.f93.ntmps=36:=Tryz.ntmps93
@[simp] theorem Tz.call93 (args:Array Value) (w:World):Sem.run Tz.prog (Go.callFunc 93 args) w=.ok (.enter 93 args) w:=Tz.call_of Tz.func93 rfl (by decide) args w
theorem Tz.func95:Tz.prog.funcs[95]?=some Tryz.f95:=(Tz.same 95 (by decide)).trans Tryz.func95
theorem Tz.ntmps95:Tryz.f95.ntmps=19:=Tryz.ntmps95
@[simp] theorem Tz.call95 (args:Array Value) (w:World):Sem.run Tz.prog (Go.callFunc 95 args) w=.ok (.enter 95 args) w:=Tz.call_of Tz.func95 rfl (by decide) args w
theorem Tz.func98:Tz.prog.funcs[98]?=some Tryz.f98:=(Tz.same 98 (by decide)).trans Tryz.func98
theorem Tz.ntmps98:Tryz.f98.ntmps=43:=Tryz.ntmps98
@[simp] theorem Tz.call98 (args:Array Value) (w:World):Sem.run Tz.prog (Go.callFunc 98 args) w=.ok (.enter 98 args) w:=Tz.call_of Tz.func98 rfl (by decide) args w
theorem Tz.func99:Tz.prog.funcs[99]?=some Tryz.f99:=(Tz.same 99 (by decide)).trans Tryz.func99
theorem Tz.ntmps99:Tryz.f99.ntmps=9:=Tryz.ntmps99
@[simp] theorem Tz.call99 (args:Array Value) (w:World):Sem.run Tz.prog (Go.callFunc 99 args) w=.ok (.enter 99 args) w:=Tz.call_of Tz.func99 rfl (by decide) args w
theorem Tz.func100:Tz.prog.funcs[100]?=some Tryz.f100:=(Tz.same 100 (by decide)).trans Tryz.func100
theorem Tz.ntmps100:Tryz.f100.ntmps=12:=Tryz.ntmps100
@[simp] theorem Tz.call100 (args:Array Value) (w:World):Sem.run Tz.prog (Go.callFunc 100 args) w=.ok (.enter 100 args) w:=Tz.call_of Tz.func100 rfl (by decide) args w
theorem Tz.func101:Tz.prog.funcs[101]?=some Tryz.f101:=(Tz.same 101 (by decide)).trans Tryz.func101
theorem Tz.ntmps101:Tryz.f101.ntmps=18:=Tryz.ntmps101
@[simp] theorem Tz.call101 (args:Array Value) (w:World):Sem.run Tz.prog (Go.callFunc 101 args) w=.ok (.enter 101 args) w:=Tz.call_of Tz.func101 rfl (by decide) args w
theorem Tz.func109:Tz.prog.funcs[109]?=some Tryz.f109:=(Tz.same 109 (by decide)).trans Tryz.func109
theorem Tz.ntmps109:Tryz.f109.ntmps=34:=Tryz.ntmps109
@[simp] theorem Tz.call109 (args:Array Value) (w:World):Sem.run Tz.prog (Go.callFunc 109 args) w=.ok (.enter 109 args) w:=Tz.call_of Tz.func109 rfl (by decide) args w
theorem Tz.func110:Tz.prog.funcs[110]?=some Tryz.f110:=(Tz.same 110 (by decide)).trans Tryz.func110
theorem Tz.ntmps110:Tryz.f110.ntmps=9:=Tryz.ntmps110
theorem Tz.func111:Tz.prog.funcs[111]?=some Tryz.f111:=(Tz.same 111 (by decide)).trans Tryz.func111
theorem Tz.ntmps111:Tryz.f111.ntmps=65:=Tryz.ntmps111
@[simp] theorem Tz.call111 (args:Array Value) (w:World):Sem.run Tz.prog (Go.callFunc 111 args) w=.ok (.enter 111 args) w:=Tz.call_of Tz.func111 rfl (by decide) args w
theorem Tz.func112:Tz.prog.funcs[112]?=some Tryz.f112:=(Tz.same 112 (by decide)).trans Tryz.func112
theorem Tz.ntmps112:Tryz.f112.ntmps=20:=Tryz.ntmps112
@[simp] theorem Tz.call112 (args:Array Value) (w:World):Sem.run Tz.prog (Go.callFunc 112 args) w=.ok (.enter 112 args) w:=Tz.call_of Tz.func112 rfl (by decide) args w
theorem Tz.func115:Tz.prog.funcs[115]?=some Tryz.f115:=(Tz.same 115 (by decide)).trans Tryz.func115
theorem Tz.ntmps115:Tryz.f115.ntmps=19:=Tryz.ntmps115
@[simp] theorem Tz.call115 (args:Array Value) (w:World):Sem.run Tz.prog (Go.callFunc 115 args) w=.ok (.enter 115 args) w:=Tz.call_of Tz.func115 rfl (by decide) args w
theorem Tz.func116:Tz.prog.funcs[116]?=some Tryz.f116:=(Tz.same 116 (by decide)).trans Tryz.func116
theorem Tz.ntmps116:Tryz.f116.ntmps=9:=Tryz.ntmps116
@[simp] theorem Tz.call116 (args:Array Value) (w:World):Sem.run Tz.prog (Go.callFunc 116 args) w=.ok (.enter 116 args) w:=Tz.call_of Tz.func116 rfl (by decide) args w
theorem Tz.func128:Tz.prog.funcs[128]?=some Tryz.f128:=(Tz.same 128 (by decide)).trans Tryz.func128
theorem Tz.ntmps128:Tryz.f128.ntmps=9:=Tryz.ntmps128
@[simp] theorem Tz.call128 (args:Array Value) (w:World):Sem.run Tz.prog (Go.callFunc 128 args) w=.ok (.enter 128 args) w:=Tz.call_of Tz.func128 rfl (by decide) args w
theorem Tz.func129:Tz.prog.funcs[129]?=some Tryz.f129:=(Tz.same 129 (by decide)).trans Tryz.func129
theorem Tz.ntmps129:Tryz.f129.ntmps=9:=Tryz.ntmps129
@[simp] theorem Tz.call129 (args:Array Value) (w:World):Sem.run Tz.prog (Go.callFunc 129 args) w=.ok (.enter 129 args) w:=Tz.call_of Tz.func129 rfl (by decide) args w
theorem Tz.func130:Tz.prog.funcs[130]?=some Tryz.f130:=(Tz.same 130 (by decide)).trans Tryz.func130
theorem Tz.ntmps130:Tryz.f130.ntmps=6:=Tryz.ntmps130
@[simp] theorem Tz.call130 (args:Array Value) (w:World):Sem.run Tz.prog (Go.callFunc 130 args) w=.ok (.enter 130 args) w:=Tz.call_of Tz.func130 rfl (by decide) args w
theorem Tz.func133:Tz.prog.funcs[133]?=some Tryz.f133:=(Tz.same 133 (by decide)).trans Tryz.func133
theorem Tz.ntmps133:Tryz.f133.ntmps=19:=Tryz.ntmps133
@[simp] theorem Tz.call133 (args:Array Value) (w:World):Sem.run Tz.prog (Go.callFunc 133 args) w=.ok (.enter 133 args) w:=Tz.call_of Tz.func133 rfl (by decide) args w
theorem Tz.func157:Tz.prog.funcs[157]?=some Tryz.f157:=(Tz.same 157 (by decide)).trans Tryz.func157
theorem Tz.ntmps157:Tryz.f157.ntmps=15:=Tryz.ntmps157
@[simp] theorem Tz.call157 (args:Array Value) (w:World):Sem.run Tz.prog (Go.callFunc 157 args) w=.ok (.enter 157 args) w:=Tz.call_of Tz.func157 rfl (by decide) args w
theorem Tz.func158:Tz.prog.funcs[158]?=some Tryz.f158:=(Tz.same 158 (by decide)).trans Tryz.func158
theorem Tz.ntmps158:Tryz.f158.ntmps=79:=Tryz.ntmps158
@[simp] theorem Tz.call158 (args:Array Value) (w:World):Sem.run Tz.prog (Go.callFunc 158 args) w=.ok (.enter 158 args) w:=Tz.call_of Tz.func158 rfl (by decide) args w
theorem Tz.func159:Tz.prog.funcs[159]?=some Tryz.f159:=(Tz.same 159 (by decide)).trans Tryz.func159
theorem Tz.ntmps159:Tryz.f159.ntmps=53:=Tryz.ntmps159
@[simp] theorem Tz.call159 (args:Array Value) (w:World):Sem.run Tz.prog (Go.callFunc 159 args) w=.ok (.enter 159 args) w:=Tz.call_of Tz.func159 rfl (by decide) args w
theorem Tz.func160:Tz.prog.funcs[160]?=some Tryz.f160:=(Tz.same 160 (by decide)).trans Tryz.func160
theorem Tz.ntmps160:Tryz.f160.ntmps=31:=Tryz.ntmps160
@[simp] theorem Tz.call160 (args:Array Value) (w:World):Sem.run Tz.prog (Go.callFunc 160 args) w=.ok (.enter 160 args) w:=Tz.call_of Tz.func160 rfl (by decide) args w
theorem Tz.func161:Tz.prog.funcs[161]?=some Tryz.f161:=(Tz.same 161 (by decide)).trans Tryz.func161
theorem Tz.ntmps161:Tryz.f161.ntmps=36:=Tryz.ntmps161
@[simp] theorem Tz.call161 (args:Array Value) (w:World):Sem.run Tz.prog (Go.callFunc 161 args) w=.ok (.enter 161 args) w:=Tz.call_of Tz.func161 rfl (by decide) args w
theorem Tz.func162:Tz.prog.funcs[162]?=some Tryz.f162:=(Tz.same 162 (by decide)).trans Tryz.func162
theorem Tz.ntmps162:Tryz.f162.ntmps=9:=Tryz.ntmps162
@[simp] theorem Tz.call162 (args:Array Value) (w:World):Sem.run Tz.prog (Go.callFunc 162 args) w=.ok (.enter 162 args) w:=Tz.call_of Tz.func162 rfl (by decide) args w
theorem Tz.func163:Tz.prog.funcs[163]?=some Tryz.f163:=(Tz.same 163 (by decide)).trans Tryz.func163
theorem Tz.ntmps163:Tryz.f163.ntmps=9:=Tryz.ntmps163
@[simp] theorem Tz.call163 (args:Array Value) (w:World):Sem.run Tz.prog (Go.callFunc 163 args) w=.ok (.enter 163 args) w:=Tz.call_of Tz.func163 rfl (by decide) args w
theorem Tz.func164:Tz.prog.funcs[164]?=some Tryz.f164:=(Tz.same 164 (by decide)).trans Tryz.func164
theorem Tz.ntmps164:Tryz.f164.ntmps=19:=Tryz.ntmps164
@[simp] theorem Tz.call164 (args:Array Value) (w:World):Sem.run Tz.prog (Go.callFunc 164 args) w=.ok (.enter 164 args) w:=Tz.call_of Tz.func164 rfl (by decide) args w
@[simp] theorem Tz.call10 (args:Array Value) (w:World):Sem.run Tz.prog (Go.callFunc 10 args) w=.ok (.enter 10 args) w:=Tz.call_of Tz.func10 rfl (by decide) args w
end Go.Proofs
end
