/- A part. Conditions: none. -/
import Derived.Test.YtehbindidbgacaaGreatDoorT07
import Derived.Test.YtehbindidbgacaaGreatDoorProg
import Derived.WalkKit
set_option linter.all false
namespace Go.Proofs
def Tz.stub:Code:=.seq (.region 0 #[{dst:=some 0,op:=.assign (.const (.bool true)),type:=4,pos:= "",after:=#[],guard:=none}] false) .ret
noncomputable def Tz.f7:Func:={Tryz.f7 with body:=some Tz.stub}
noncomputable def Tz.funcs:Array Func:=Tryz.funcs.setIfInBounds 7 Tz.f7
noncomputable def ZP:Program:={Tryz.prog with funcs:=Tz.funcs}
theorem Tz.oP:ZP.funcs=Tz.funcs:=by simp only[ZP]
theorem Tz.size:Tryz.funcs.size=167:=by kernel_rfl
theorem Tz.same (i:Nat) (h:7≠i):ZP.funcs[i]?=Tryz.prog.funcs[i]?:=by
 have e2:Tryz.prog.funcs=Tryz.funcs:=by simp only[Tryz.prog]
 rw[Tz.oP,e2];unfold Tz.funcs;exact Array.getElem?_setIfInBounds_ne h
abbrev ZO (n:Nat):Prop:=∀(args:Array Value) (w:World),Sem.run ZP (Go.callFunc n args) w=.ok (.enter n args) w
abbrev ZQ (n:Nat) (f:Func):Prop:=ZP.funcs[n]?=some f
theorem ZS {n:Nat} {f:Func} (h:Tryz.prog.funcs[n]?=some f) (k:7≠n):ZQ n f:=(Tz.same n k).trans h
theorem ZF7:ZP.funcs[7]?=some Tz.f7:=by
 rw[Tz.oP];unfold Tz.funcs;rw[Array.getElem?_setIfInBounds];simp[Tz.size]
theorem Tz.ntmps7:Tz.f7.ntmps=288:=Tryz.ntmps7
section
variable (P:Program) (F:Array Func)
theorem Ai (t:TypeId):({P with funcs:=F}:Program).underlying t=P.underlying t:=rfl
theorem lE (t:TypeId) (w:World):Sem.run {P with funcs:=F} (Go.underlying t) w=Sem.run P (Go.underlying t) w:=by
 unfold Go.underlying;show Sem.run _ ((match P.underlying t with|some d=>pure d|none=>stuck "no such type"):Sem TypeDesc) w=Sem.run _ ((match P.underlying t with|some d=>pure d|none=>stuck "no such type"):Sem TypeDesc) w;cases P.underlying t<;>rfl
theorem mY (t:TypeId) (w:World):Sem.run {P with funcs:=F} (Go.typeInfo t) w=Sem.run P (Go.typeInfo t) w:=by
 unfold Go.typeInfo;show Sem.run _ ((match P.info? t with|some d=>pure d|none=>stuck "no such type"):Sem TypeInfo) w=Sem.run _ ((match P.info? t with|some d=>pure d|none=>stuck "no such type"):Sem TypeInfo) w;cases P.info? t<;>rfl
theorem uQ (t:TypeId) (w:World):Sem.run {P with funcs:=F} (Go.sizeOf t) w=Sem.run P (Go.sizeOf t) w:=by
 unfold Go.sizeOf;simp only[Sem.run_bind,mY];cases Sem.run P (Go.typeInfo t) w<;>rfl
theorem xj (t:TypeId) (w:World):Sem.run {P with funcs:=F} (Go.isAgg t) w=Sem.run P (Go.isAgg t) w:=by
 unfold Go.isAgg;simp only[Sem.run_bind,lE];cases Sem.run P (Go.underlying t) w with
 |ok d w1=>cases d<;>simp only[Result.andThen,Sem.run_pure]
 |halt h w1=>simp only[Result.andThen]
theorem uR (t:TypeId) (w:World):Sem.run {P with funcs:=F} (Go.zeroValue t) w=Sem.run P (Go.zeroValue t) w:=by
 unfold Go.zeroValue;simp only[Sem.run_bind,mY];cases Sem.run P (Go.typeInfo t) w with
 |ok d w1=>cases hz:d.zero<;>simp[Result.andThen,hz,Go.unsupported,Sem.run]
 |halt h w1=>simp only[Result.andThen]
end
@[simp] theorem Tz.under (t:TypeId):ZP.underlying t=Tryz.prog.underlying t:=Ai Tryz.prog Tz.funcs t
@[simp] theorem Tz.stood (t:TypeId):ZP.stoodInHeld t=Tryz.prog.stoodInHeld t:=aB.bN Tryz.prog Tz.funcs t
@[simp] theorem Tz.NA (t:TypeId) (w:World):Sem.run ZP (Go.underlying t) w=Sem.run Tryz.prog (Go.underlying t) w:=lE Tryz.prog Tz.funcs t w
@[simp] theorem Tz.bS (t:TypeId) (w:World):Sem.run ZP (Go.zeroValue t) w=Sem.run Tryz.prog (Go.zeroValue t) w:=uR Tryz.prog Tz.funcs t w
@[simp] theorem Tz.bZ (t:TypeId) (w:World):Sem.run ZP (Go.sizeOf t) w=Sem.run Tryz.prog (Go.sizeOf t) w:=uQ Tryz.prog Tz.funcs t w
@[simp] theorem Tz.cM (t:TypeId) (w:World):Sem.run ZP (Go.isAgg t) w=Sem.run Tryz.prog (Go.isAgg t) w:=xj Tryz.prog Tz.funcs t w
theorem Tz.am {f:FuncId} {fn:Func} (h:ZP.funcs[f]? =some fn) (hb:fn.body.isSome=true) (hn:fn.name≠ "runtime.NumGoroutine") (args:Array Value) (w:World):Sem.run ZP (Go.callFunc f args) w=.ok (.enter f args) w:=by
 cases hc:fn.body with
 |none=>rw[hc]at hb;cases hb
 |some c=>
  unfold Go.callFunc;simp[Go.program,Sem.run,h,hc,hn]
@[simp] theorem ZC7:ZO 7:=Tz.am ZF7 rfl (by decide)
theorem ZF4:ZQ 4 Tryz.f4:=ZS Tryz.func4 (by decide)
theorem ZF6:ZQ 6 Tryz.f6:=ZS Tryz.func6 (by decide)
@[simp] theorem ZC6:ZO 6:=Tz.am ZF6 rfl (by decide)
theorem ZF10:ZQ 10 Tryz.f10:=ZS Tryz.func10 (by decide)
@[simp] theorem ZC10:ZO 10:=Tz.am ZF10 rfl (by decide)
theorem ZF12:ZQ 12 Tryz.f12:=ZS Tryz.func12 (by decide)
@[simp] theorem ZC12:ZO 12:=Tz.am ZF12 rfl (by decide)
theorem ZF17:ZQ 17 Tryz.f17:=ZS Tryz.func17 (by decide)
@[simp] theorem ZC17:ZO 17:=Tz.am ZF17 rfl (by decide)
theorem ZF18:ZQ 18 Tryz.f18:=ZS Tryz.func18 (by decide)
@[simp] theorem ZC18:ZO 18:=Tz.am ZF18 rfl (by decide)
theorem ZF20:ZQ 20 Tryz.f20:=ZS Tryz.func20 (by decide)
@[simp] theorem ZC20:ZO 20:=Tz.am ZF20 rfl (by decide)
theorem ZF25:ZQ 25 Tryz.f25:=ZS Tryz.func25 (by decide)
@[simp] theorem ZC25:ZO 25:=Tz.am ZF25 rfl (by decide)
theorem ZF26:ZQ 26 Tryz.f26:=ZS Tryz.func26 (by decide)
@[simp] theorem ZC26:ZO 26:=Tz.am ZF26 rfl (by decide)
theorem ZF32:ZQ 32 Tryz.f32:=ZS Tryz.func32 (by decide)
@[simp] theorem ZC32:ZO 32:=Tz.am ZF32 rfl (by decide)
theorem ZF33:ZQ 33 Tryz.f33:=ZS Tryz.func33 (by decide)
@[simp] theorem ZC33:ZO 33:=Tz.am ZF33 rfl (by decide)
theorem ZF38:ZQ 38 Tryz.f38:=ZS Tryz.func38 (by decide)
@[simp] theorem ZC38:ZO 38:=Tz.am ZF38 rfl (by decide)
theorem ZF41:ZQ 41 Tryz.f41:=ZS Tryz.func41 (by decide)
@[simp] theorem ZC41:ZO 41:=Tz.am ZF41 rfl (by decide)
theorem ZF44:ZQ 44 Tryz.f44:=ZS Tryz.func44 (by decide)
@[simp] theorem ZC44:ZO 44:=Tz.am ZF44 rfl (by decide)
theorem ZF45:ZQ 45 Tryz.f45:=ZS Tryz.func45 (by decide)
@[simp] theorem ZC45:ZO 45:=Tz.am ZF45 rfl (by decide)
theorem ZF50:ZQ 50 Tryz.f50:=ZS Tryz.func50 (by decide)
@[simp] theorem ZC50:ZO 50:=Tz.am ZF50 rfl (by decide)
theorem ZF51:ZQ 51 Tryz.f51:=ZS Tryz.func51 (by decide)
@[simp] theorem ZC51:ZO 51:=Tz.am ZF51 rfl (by decide)
theorem ZF52:ZQ 52 Tryz.f52:=ZS Tryz.func52 (by decide)
@[simp] theorem ZC52:ZO 52:=Tz.am ZF52 rfl (by decide)
theorem ZF53:ZQ 53 Tryz.f53:=ZS Tryz.func53 (by decide)
@[simp] theorem ZC53:ZO 53:=Tz.am ZF53 rfl (by decide)
theorem ZF54:ZQ 54 Tryz.f54:=ZS Tryz.func54 (by decide)
@[simp] theorem ZC54:ZO 54:=Tz.am ZF54 rfl (by decide)
theorem ZF63:ZQ 63 Tryz.f63:=ZS Tryz.func63 (by decide)
@[simp] theorem ZC63:ZO 63:=Tz.am ZF63 rfl (by decide)
theorem ZF66:ZQ 66 Tryz.f66:=ZS Tryz.func66 (by decide)
@[simp] theorem ZC66:ZO 66:=Tz.am ZF66 rfl (by decide)
theorem ZF67:ZQ 67 Tryz.f67:=ZS Tryz.func67 (by decide)
@[simp] theorem ZC67:ZO 67:=Tz.am ZF67 rfl (by decide)
theorem ZF71:ZQ 71 Tryz.f71:=ZS Tryz.func71 (by decide)
@[simp] theorem ZC71:ZO 71:=Tz.am ZF71 rfl (by decide)
theorem ZF77:ZQ 77 Tryz.f77:=ZS Tryz.func77 (by decide)
@[simp] theorem ZC77:ZO 77:=Tz.am ZF77 rfl (by decide)
theorem ZF79:ZQ 79 Tryz.f79:=ZS Tryz.func79 (by decide)
@[simp] theorem ZC79:ZO 79:=Tz.am ZF79 rfl (by decide)
theorem ZF80:ZQ 80 Tryz.f80:=ZS Tryz.func80 (by decide)
@[simp] theorem ZC80:ZO 80:=Tz.am ZF80 rfl (by decide)
theorem ZF81:ZQ 81 Tryz.f81:=ZS Tryz.func81 (by decide)
@[simp] theorem ZC81:ZO 81:=Tz.am ZF81 rfl (by decide)
theorem ZF84:ZQ 84 Tryz.f84:=ZS Tryz.func84 (by decide)
@[simp] theorem ZC84:ZO 84:=Tz.am ZF84 rfl (by decide)
theorem ZF88:ZQ 88 Tryz.f88:=ZS Tryz.func88 (by decide)
theorem ZF91:ZQ 91 Tryz.f91:=ZS Tryz.func91 (by decide)
@[simp] theorem ZC91:ZO 91:=Tz.am ZF91 rfl (by decide)
theorem ZF92:ZQ 92 Tryz.f92:=ZS Tryz.func92 (by decide)
@[simp] theorem ZC92:ZO 92:=Tz.am ZF92 rfl (by decide)
theorem ZF93:ZQ 93 Tryz.f93:=ZS Tryz.func93 (by decide)
theorem ZF94:ZQ 94 Tryz.f94:=ZS Tryz.func94 (by decide)
theorem ZF96:ZQ 96 Tryz.f96:=ZS Tryz.func96 (by decide)
@[simp] theorem ZC96:ZO 96:=Tz.am ZF96 rfl (by decide)
theorem ZF98:ZQ 98 Tryz.f98:=ZS Tryz.func98 (by decide)
@[simp] theorem ZC98:ZO 98:=Tz.am ZF98 rfl (by decide)
theorem ZF99:ZQ 99 Tryz.f99:=ZS Tryz.func99 (by decide)
@[simp] theorem ZC99:ZO 99:=Tz.am ZF99 rfl (by decide)
theorem ZF100:ZQ 100 Tryz.f100:=ZS Tryz.func100 (by decide)
@[simp] theorem ZC100:ZO 100:=Tz.am ZF100 rfl (by decide)
theorem ZF103:ZQ 103 Tryz.f103:=ZS Tryz.func103 (by decide)
@[simp] theorem ZC103:ZO 103:=Tz.am ZF103 rfl (by decide)
theorem ZF104:ZQ 104 Tryz.f104:=ZS Tryz.func104 (by decide)
@[simp] theorem ZC104:ZO 104:=Tz.am ZF104 rfl (by decide)
theorem ZF106:ZQ 106 Tryz.f106:=ZS Tryz.func106 (by decide)
@[simp] theorem ZC106:ZO 106:=Tz.am ZF106 rfl (by decide)
theorem ZF107:ZQ 107 Tryz.f107:=ZS Tryz.func107 (by decide)
@[simp] theorem ZC107:ZO 107:=Tz.am ZF107 rfl (by decide)
theorem ZF108:ZQ 108 Tryz.f108:=ZS Tryz.func108 (by decide)
@[simp] theorem ZC108:ZO 108:=Tz.am ZF108 rfl (by decide)
theorem ZF110:ZQ 110 Tryz.f110:=ZS Tryz.func110 (by decide)
theorem ZF111:ZQ 111 Tryz.f111:=ZS Tryz.func111 (by decide)
theorem ZF112:ZQ 112 Tryz.f112:=ZS Tryz.func112 (by decide)
theorem ZF113:ZQ 113 Tryz.f113:=ZS Tryz.func113 (by decide)
theorem ZF114:ZQ 114 Tryz.f114:=ZS Tryz.func114 (by decide)
theorem ZF115:ZQ 115 Tryz.f115:=ZS Tryz.func115 (by decide)
theorem ZF116:ZQ 116 Tryz.f116:=ZS Tryz.func116 (by decide)
theorem ZF117:ZQ 117 Tryz.f117:=ZS Tryz.func117 (by decide)
theorem ZF118:ZQ 118 Tryz.f118:=ZS Tryz.func118 (by decide)
theorem ZF119:ZQ 119 Tryz.f119:=ZS Tryz.func119 (by decide)
theorem ZF120:ZQ 120 Tryz.f120:=ZS Tryz.func120 (by decide)
theorem ZF121:ZQ 121 Tryz.f121:=ZS Tryz.func121 (by decide)
@[simp] theorem ZC121:ZO 121:=Tz.am ZF121 rfl (by decide)
theorem ZF122:ZQ 122 Tryz.f122:=ZS Tryz.func122 (by decide)
@[simp] theorem ZC122:ZO 122:=Tz.am ZF122 rfl (by decide)
theorem ZF123:ZQ 123 Tryz.f123:=ZS Tryz.func123 (by decide)
@[simp] theorem ZC123:ZO 123:=Tz.am ZF123 rfl (by decide)
theorem ZF124:ZQ 124 Tryz.f124:=ZS Tryz.func124 (by decide)
@[simp] theorem ZC124:ZO 124:=Tz.am ZF124 rfl (by decide)
theorem ZF128:ZQ 128 Tryz.f128:=ZS Tryz.func128 (by decide)
@[simp] theorem ZC128:ZO 128:=Tz.am ZF128 rfl (by decide)
theorem ZF129:ZQ 129 Tryz.f129:=ZS Tryz.func129 (by decide)
@[simp] theorem ZC129:ZO 129:=Tz.am ZF129 rfl (by decide)
theorem ZF130:ZQ 130 Tryz.f130:=ZS Tryz.func130 (by decide)
theorem ZF131:ZQ 131 Tryz.f131:=ZS Tryz.func131 (by decide)
theorem ZF132:ZQ 132 Tryz.f132:=ZS Tryz.func132 (by decide)
theorem ZF133:ZQ 133 Tryz.f133:=ZS Tryz.func133 (by decide)
theorem ZF134:ZQ 134 Tryz.f134:=ZS Tryz.func134 (by decide)
theorem ZF135:ZQ 135 Tryz.f135:=ZS Tryz.func135 (by decide)
theorem ZF136:ZQ 136 Tryz.f136:=ZS Tryz.func136 (by decide)
@[simp] theorem ZC136:ZO 136:=Tz.am ZF136 rfl (by decide)
theorem ZF137:ZQ 137 Tryz.f137:=ZS Tryz.func137 (by decide)
@[simp] theorem ZC137:ZO 137:=Tz.am ZF137 rfl (by decide)
theorem ZF138:ZQ 138 Tryz.f138:=ZS Tryz.func138 (by decide)
theorem ZF155:ZQ 155 Tryz.f155:=ZS Tryz.func155 (by decide)
@[simp] theorem ZC155:ZO 155:=Tz.am ZF155 rfl (by decide)
theorem ZF156:ZQ 156 Tryz.f156:=ZS Tryz.func156 (by decide)
@[simp] theorem ZC156:ZO 156:=Tz.am ZF156 rfl (by decide)
theorem ZF157:ZQ 157 Tryz.f157:=ZS Tryz.func157 (by decide)
@[simp] theorem ZC157:ZO 157:=Tz.am ZF157 rfl (by decide)
theorem ZF158:ZQ 158 Tryz.f158:=ZS Tryz.func158 (by decide)
@[simp] theorem ZC158:ZO 158:=Tz.am ZF158 rfl (by decide)
theorem ZF159:ZQ 159 Tryz.f159:=ZS Tryz.func159 (by decide)
@[simp] theorem ZC159:ZO 159:=Tz.am ZF159 rfl (by decide)
theorem ZF160:ZQ 160 Tryz.f160:=ZS Tryz.func160 (by decide)
@[simp] theorem ZC160:ZO 160:=Tz.am ZF160 rfl (by decide)
theorem ZF161:ZQ 161 Tryz.f161:=ZS Tryz.func161 (by decide)
@[simp] theorem ZC161:ZO 161:=Tz.am ZF161 rfl (by decide)
theorem ZF162:ZQ 162 Tryz.f162:=ZS Tryz.func162 (by decide)
@[simp] theorem ZC162:ZO 162:=Tz.am ZF162 rfl (by decide)
end Go.Proofs
