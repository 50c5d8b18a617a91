/- A part. Conditions: none. -/
import Derived.Test.YthmokljbbkcjdaaGreatDoorT07
import Derived.Test.YthmokljbbkcjdaaGreatDoorProg
import Derived.WalkKit
set_option linter.all false
namespace Go.Proofs
def Tz.stub:Code:=.seq (.region 0 #[{dst:=some 0,op:=.assign (.const (.bool true)),type:=4,pos:= "",after:=#[],guard:=none}] false) .ret
noncomputable def Tz.f10:Func:={Tryz.f10 with body:=some Tz.stub}
noncomputable def Tz.funcs:Array Func:=Tryz.funcs.setIfInBounds 10 Tz.f10
noncomputable def ZP:Program:={Tryz.prog with funcs:=Tz.funcs}
theorem Tz.pw:ZP.funcs=Tz.funcs:=by simp only[ZP]
theorem Tz.size:Tryz.funcs.size=169:=by kernel_rfl
theorem Tz.same (i:Nat) (h:10≠i):ZP.funcs[i]?=Tryz.prog.funcs[i]?:=by
 have e2:Tryz.prog.funcs=Tryz.funcs:=by simp only[Tryz.prog]
 rw[Tz.pw,e2];unfold Tz.funcs;exact Array.getElem?_setIfInBounds_ne h
abbrev ZO (n:Nat):Prop:=∀(args:Array Value) (w:World),Sem.run ZP (Go.callFunc n args) w=.ok (.enter n args) w
abbrev ZQ (n:Nat) (f:Func):Prop:=ZP.funcs[n]?=some f
theorem ZS {n:Nat} {f:Func} (h:Tryz.prog.funcs[n]?=some f) (k:10≠n):ZQ n f:=(Tz.same n k).trans h
theorem ZF10:ZP.funcs[10]?=some Tz.f10:=by
 rw[Tz.pw];unfold Tz.funcs;rw[Array.getElem?_setIfInBounds];simp[Tz.size]
theorem Tz.ntmps10:Tz.f10.ntmps=288:=Tryz.ntmps10
section
variable (P:Program) (F:Array Func)
theorem Bi (t:TypeId):({P with funcs:=F}:Program).underlying t=P.underlying t:=rfl
theorem mh (t:TypeId) (w:World):Sem.run {P with funcs:=F} (Go.underlying t) w=Sem.run P (Go.underlying t) w:=by
 unfold Go.underlying;show Sem.run _ ((match P.underlying t with|some d=>pure d|none=>stuck "no such type"):Sem TypeDesc) w=Sem.run _ ((match P.underlying t with|some d=>pure d|none=>stuck "no such type"):Sem TypeDesc) w;cases P.underlying t<;>rfl
theorem nD (t:TypeId) (w:World):Sem.run {P with funcs:=F} (Go.typeInfo t) w=Sem.run P (Go.typeInfo t) w:=by
 unfold Go.typeInfo;show Sem.run _ ((match P.info? t with|some d=>pure d|none=>stuck "no such type"):Sem TypeInfo) w=Sem.run _ ((match P.info? t with|some d=>pure d|none=>stuck "no such type"):Sem TypeInfo) w;cases P.info? t<;>rfl
theorem vG (t:TypeId) (w:World):Sem.run {P with funcs:=F} (Go.sizeOf t) w=Sem.run P (Go.sizeOf t) w:=by
 unfold Go.sizeOf;simp only[Sem.run_bind,nD];cases Sem.run P (Go.typeInfo t) w<;>rfl
theorem yd (t:TypeId) (w:World):Sem.run {P with funcs:=F} (Go.isAgg t) w=Sem.run P (Go.isAgg t) w:=by
 unfold Go.isAgg;simp only[Sem.run_bind,mh];cases Sem.run P (Go.underlying t) w with
 |ok d w1=>cases d<;>simp only[Result.andThen,Sem.run_pure]
 |halt h w1=>simp only[Result.andThen]
theorem vH (t:TypeId) (w:World):Sem.run {P with funcs:=F} (Go.zeroValue t) w=Sem.run P (Go.zeroValue t) w:=by
 unfold Go.zeroValue;simp only[Sem.run_bind,nD];cases Sem.run P (Go.typeInfo t) w with
 |ok d w1=>cases hz:d.zero<;>simp[Result.andThen,hz,Go.unsupported,Sem.run]
 |halt h w1=>simp only[Result.andThen]
end
@[simp] theorem Tz.under (t:TypeId):ZP.underlying t=Tryz.prog.underlying t:=Bi Tryz.prog Tz.funcs t
@[simp] theorem Tz.stood (t:TypeId):ZP.stoodInHeld t=Tryz.prog.stoodInHeld t:=aC.bQ Tryz.prog Tz.funcs t
@[simp] theorem Tz.Pm (t:TypeId) (w:World):Sem.run ZP (Go.underlying t) w=Sem.run Tryz.prog (Go.underlying t) w:=mh Tryz.prog Tz.funcs t w
@[simp] theorem Tz.cj (t:TypeId) (w:World):Sem.run ZP (Go.zeroValue t) w=Sem.run Tryz.prog (Go.zeroValue t) w:=vH Tryz.prog Tz.funcs t w
@[simp] theorem Tz.ck (t:TypeId) (w:World):Sem.run ZP (Go.sizeOf t) w=Sem.run Tryz.prog (Go.sizeOf t) w:=vG Tryz.prog Tz.funcs t w
@[simp] theorem Tz.cX (t:TypeId) (w:World):Sem.run ZP (Go.isAgg t) w=Sem.run Tryz.prog (Go.isAgg t) w:=yd Tryz.prog Tz.funcs t w
theorem Tz.ak {f:FuncId} {fn:Func} (h:ZP.funcs[f]? =some fn) (hb:fn.body.isSome=true) (hn:fn.name≠ "runtime.NumGoroutine") (args:Array Value) (w:World):Sem.run ZP (Go.callFunc f args) w=.ok (.enter f args) w:=by
 cases hc:fn.body with
 |none=>rw[hc]at hb;cases hb
 |some c=>
  unfold Go.callFunc;simp[Go.program,Sem.run,h,hc,hn]
theorem ZF6:ZQ 6 Tryz.f6:=ZS Tryz.func6 (by decide)
theorem ZF9:ZQ 9 Tryz.f9:=ZS Tryz.func9 (by decide)
@[simp] theorem ZC9:ZO 9:=Tz.ak ZF9 rfl (by decide)
theorem ZF13:ZQ 13 Tryz.f13:=ZS Tryz.func13 (by decide)
@[simp] theorem ZC13:ZO 13:=Tz.ak ZF13 rfl (by decide)
theorem ZF19:ZQ 19 Tryz.f19:=ZS Tryz.func19 (by decide)
@[simp] theorem ZC19:ZO 19:=Tz.ak ZF19 rfl (by decide)
theorem ZF20:ZQ 20 Tryz.f20:=ZS Tryz.func20 (by decide)
@[simp] theorem ZC20:ZO 20:=Tz.ak ZF20 rfl (by decide)
theorem ZF22:ZQ 22 Tryz.f22:=ZS Tryz.func22 (by decide)
@[simp] theorem ZC22:ZO 22:=Tz.ak ZF22 rfl (by decide)
theorem ZF25:ZQ 25 Tryz.f25:=ZS Tryz.func25 (by decide)
@[simp] theorem ZC25:ZO 25:=Tz.ak ZF25 rfl (by decide)
theorem ZF26:ZQ 26 Tryz.f26:=ZS Tryz.func26 (by decide)
@[simp] theorem ZC26:ZO 26:=Tz.ak ZF26 rfl (by decide)
theorem ZF27:ZQ 27 Tryz.f27:=ZS Tryz.func27 (by decide)
@[simp] theorem ZC27:ZO 27:=Tz.ak ZF27 rfl (by decide)
theorem ZF28:ZQ 28 Tryz.f28:=ZS Tryz.func28 (by decide)
@[simp] theorem ZC28:ZO 28:=Tz.ak ZF28 rfl (by decide)
theorem ZF29:ZQ 29 Tryz.f29:=ZS Tryz.func29 (by decide)
@[simp] theorem ZC29:ZO 29:=Tz.ak ZF29 rfl (by decide)
theorem ZF30:ZQ 30 Tryz.f30:=ZS Tryz.func30 (by decide)
@[simp] theorem ZC30:ZO 30:=Tz.ak ZF30 rfl (by decide)
theorem ZF40:ZQ 40 Tryz.f40:=ZS Tryz.func40 (by decide)
@[simp] theorem ZC40:ZO 40:=Tz.ak ZF40 rfl (by decide)
theorem ZF41:ZQ 41 Tryz.f41:=ZS Tryz.func41 (by decide)
@[simp] theorem ZC41:ZO 41:=Tz.ak ZF41 rfl (by decide)
theorem ZF46:ZQ 46 Tryz.f46:=ZS Tryz.func46 (by decide)
@[simp] theorem ZC46:ZO 46:=Tz.ak ZF46 rfl (by decide)
theorem ZF47:ZQ 47 Tryz.f47:=ZS Tryz.func47 (by decide)
@[simp] theorem ZC47:ZO 47:=Tz.ak ZF47 rfl (by decide)
theorem ZF54:ZQ 54 Tryz.f54:=ZS Tryz.func54 (by decide)
@[simp] theorem ZC54:ZO 54:=Tz.ak ZF54 rfl (by decide)
theorem ZF55:ZQ 55 Tryz.f55:=ZS Tryz.func55 (by decide)
@[simp] theorem ZC55:ZO 55:=Tz.ak ZF55 rfl (by decide)
theorem ZF56:ZQ 56 Tryz.f56:=ZS Tryz.func56 (by decide)
@[simp] theorem ZC56:ZO 56:=Tz.ak ZF56 rfl (by decide)
theorem ZF60:ZQ 60 Tryz.f60:=ZS Tryz.func60 (by decide)
@[simp] theorem ZC60:ZO 60:=Tz.ak ZF60 rfl (by decide)
theorem ZF63:ZQ 63 Tryz.f63:=ZS Tryz.func63 (by decide)
@[simp] theorem ZC63:ZO 63:=Tz.ak ZF63 rfl (by decide)
theorem ZF64:ZQ 64 Tryz.f64:=ZS Tryz.func64 (by decide)
@[simp] theorem ZC64:ZO 64:=Tz.ak ZF64 rfl (by decide)
theorem ZF67:ZQ 67 Tryz.f67:=ZS Tryz.func67 (by decide)
@[simp] theorem ZC67:ZO 67:=Tz.ak ZF67 rfl (by decide)
theorem ZF68:ZQ 68 Tryz.f68:=ZS Tryz.func68 (by decide)
@[simp] theorem ZC68:ZO 68:=Tz.ak ZF68 rfl (by decide)
theorem ZF69:ZQ 69 Tryz.f69:=ZS Tryz.func69 (by decide)
@[simp] theorem ZC69:ZO 69:=Tz.ak ZF69 rfl (by decide)
theorem ZF70:ZQ 70 Tryz.f70:=ZS Tryz.func70 (by decide)
@[simp] theorem ZC70:ZO 70:=Tz.ak ZF70 rfl (by decide)
theorem ZF71:ZQ 71 Tryz.f71:=ZS Tryz.func71 (by decide)
@[simp] theorem ZC71:ZO 71:=Tz.ak ZF71 rfl (by decide)
theorem ZF72:ZQ 72 Tryz.f72:=ZS Tryz.func72 (by decide)
@[simp] theorem ZC72:ZO 72:=Tz.ak ZF72 rfl (by decide)
theorem ZF73:ZQ 73 Tryz.f73:=ZS Tryz.func73 (by decide)
@[simp] theorem ZC73:ZO 73:=Tz.ak ZF73 rfl (by decide)
theorem ZF74:ZQ 74 Tryz.f74:=ZS Tryz.func74 (by decide)
@[simp] theorem ZC74:ZO 74:=Tz.ak ZF74 rfl (by decide)
theorem ZF75:ZQ 75 Tryz.f75:=ZS Tryz.func75 (by decide)
@[simp] theorem ZC75:ZO 75:=Tz.ak ZF75 rfl (by decide)
theorem ZF84:ZQ 84 Tryz.f84:=ZS Tryz.func84 (by decide)
@[simp] theorem ZC84:ZO 84:=Tz.ak ZF84 rfl (by decide)
theorem ZF85:ZQ 85 Tryz.f85:=ZS Tryz.func85 (by decide)
@[simp] theorem ZC85:ZO 85:=Tz.ak ZF85 rfl (by decide)
theorem ZF86:ZQ 86 Tryz.f86:=ZS Tryz.func86 (by decide)
@[simp] theorem ZC86:ZO 86:=Tz.ak ZF86 rfl (by decide)
theorem ZF87:ZQ 87 Tryz.f87:=ZS Tryz.func87 (by decide)
@[simp] theorem ZC87:ZO 87:=Tz.ak ZF87 rfl (by decide)
theorem ZF95:ZQ 95 Tryz.f95:=ZS Tryz.func95 (by decide)
@[simp] theorem ZC95:ZO 95:=Tz.ak ZF95 rfl (by decide)
theorem ZF96:ZQ 96 Tryz.f96:=ZS Tryz.func96 (by decide)
theorem ZF98:ZQ 98 Tryz.f98:=ZS Tryz.func98 (by decide)
@[simp] theorem ZC98:ZO 98:=Tz.ak ZF98 rfl (by decide)
theorem ZF99:ZQ 99 Tryz.f99:=ZS Tryz.func99 (by decide)
@[simp] theorem ZC99:ZO 99:=Tz.ak ZF99 rfl (by decide)
theorem ZF100:ZQ 100 Tryz.f100:=ZS Tryz.func100 (by decide)
@[simp] theorem ZC100:ZO 100:=Tz.ak ZF100 rfl (by decide)
theorem ZF101:ZQ 101 Tryz.f101:=ZS Tryz.func101 (by decide)
@[simp] theorem ZC101:ZO 101:=Tz.ak ZF101 rfl (by decide)
theorem ZF102:ZQ 102 Tryz.f102:=ZS Tryz.func102 (by decide)
@[simp] theorem ZC102:ZO 102:=Tz.ak ZF102 rfl (by decide)
theorem ZF103:ZQ 103 Tryz.f103:=ZS Tryz.func103 (by decide)
@[simp] theorem ZC103:ZO 103:=Tz.ak ZF103 rfl (by decide)
theorem ZF104:ZQ 104 Tryz.f104:=ZS Tryz.func104 (by decide)
theorem ZF105:ZQ 105 Tryz.f105:=ZS Tryz.func105 (by decide)
theorem ZF106:ZQ 106 Tryz.f106:=ZS Tryz.func106 (by decide)
@[simp] theorem ZC106:ZO 106:=Tz.ak ZF106 rfl (by decide)
theorem ZF107:ZQ 107 Tryz.f107:=ZS Tryz.func107 (by decide)
@[simp] theorem ZC107:ZO 107:=Tz.ak ZF107 rfl (by decide)
theorem ZF108:ZQ 108 Tryz.f108:=ZS Tryz.func108 (by decide)
@[simp] theorem ZC108:ZO 108:=Tz.ak ZF108 rfl (by decide)
theorem ZF109:ZQ 109 Tryz.f109:=ZS Tryz.func109 (by decide)
@[simp] theorem ZC109:ZO 109:=Tz.ak ZF109 rfl (by decide)
theorem ZF113:ZQ 113 Tryz.f113:=ZS Tryz.func113 (by decide)
@[simp] theorem ZC113:ZO 113:=Tz.ak ZF113 rfl (by decide)
theorem ZF114:ZQ 114 Tryz.f114:=ZS Tryz.func114 (by decide)
@[simp] theorem ZC114:ZO 114:=Tz.ak ZF114 rfl (by decide)
theorem ZF115:ZQ 115 Tryz.f115:=ZS Tryz.func115 (by decide)
@[simp] theorem ZC115:ZO 115:=Tz.ak ZF115 rfl (by decide)
theorem ZF116:ZQ 116 Tryz.f116:=ZS Tryz.func116 (by decide)
@[simp] theorem ZC116:ZO 116:=Tz.ak ZF116 rfl (by decide)
theorem ZF117:ZQ 117 Tryz.f117:=ZS Tryz.func117 (by decide)
theorem ZF118:ZQ 118 Tryz.f118:=ZS Tryz.func118 (by decide)
theorem ZF119:ZQ 119 Tryz.f119:=ZS Tryz.func119 (by decide)
theorem ZF120:ZQ 120 Tryz.f120:=ZS Tryz.func120 (by decide)
theorem ZF121:ZQ 121 Tryz.f121:=ZS Tryz.func121 (by decide)
theorem ZF122:ZQ 122 Tryz.f122:=ZS Tryz.func122 (by decide)
theorem ZF123:ZQ 123 Tryz.f123:=ZS Tryz.func123 (by decide)
theorem ZF124:ZQ 124 Tryz.f124:=ZS Tryz.func124 (by decide)
theorem ZF125:ZQ 125 Tryz.f125:=ZS Tryz.func125 (by decide)
theorem ZF126:ZQ 126 Tryz.f126:=ZS Tryz.func126 (by decide)
theorem ZF127:ZQ 127 Tryz.f127:=ZS Tryz.func127 (by decide)
theorem ZF128:ZQ 128 Tryz.f128:=ZS Tryz.func128 (by decide)
@[simp] theorem ZC128:ZO 128:=Tz.ak ZF128 rfl (by decide)
theorem ZF129:ZQ 129 Tryz.f129:=ZS Tryz.func129 (by decide)
@[simp] theorem ZC129:ZO 129:=Tz.ak ZF129 rfl (by decide)
theorem ZF130:ZQ 130 Tryz.f130:=ZS Tryz.func130 (by decide)
theorem ZF131:ZQ 131 Tryz.f131:=ZS Tryz.func131 (by decide)
@[simp] theorem ZC131:ZO 131:=Tz.ak ZF131 rfl (by decide)
theorem ZF132:ZQ 132 Tryz.f132:=ZS Tryz.func132 (by decide)
@[simp] theorem ZC132:ZO 132:=Tz.ak ZF132 rfl (by decide)
theorem ZF133:ZQ 133 Tryz.f133:=ZS Tryz.func133 (by decide)
@[simp] theorem ZC133:ZO 133:=Tz.ak ZF133 rfl (by decide)
theorem ZF134:ZQ 134 Tryz.f134:=ZS Tryz.func134 (by decide)
theorem ZF135:ZQ 135 Tryz.f135:=ZS Tryz.func135 (by decide)
theorem ZF136:ZQ 136 Tryz.f136:=ZS Tryz.func136 (by decide)
theorem ZF137:ZQ 137 Tryz.f137:=ZS Tryz.func137 (by decide)
theorem ZF138:ZQ 138 Tryz.f138:=ZS Tryz.func138 (by decide)
theorem ZF139:ZQ 139 Tryz.f139:=ZS Tryz.func139 (by decide)
@[simp] theorem ZC139:ZO 139:=Tz.ak ZF139 rfl (by decide)
theorem ZF140:ZQ 140 Tryz.f140:=ZS Tryz.func140 (by decide)
theorem ZF157:ZQ 157 Tryz.f157:=ZS Tryz.func157 (by decide)
@[simp] theorem ZC157:ZO 157:=Tz.ak ZF157 rfl (by decide)
theorem ZF158:ZQ 158 Tryz.f158:=ZS Tryz.func158 (by decide)
@[simp] theorem ZC158:ZO 158:=Tz.ak ZF158 rfl (by decide)
theorem ZF159:ZQ 159 Tryz.f159:=ZS Tryz.func159 (by decide)
@[simp] theorem ZC159:ZO 159:=Tz.ak ZF159 rfl (by decide)
theorem ZF160:ZQ 160 Tryz.f160:=ZS Tryz.func160 (by decide)
@[simp] theorem ZC160:ZO 160:=Tz.ak ZF160 rfl (by decide)
theorem ZF161:ZQ 161 Tryz.f161:=ZS Tryz.func161 (by decide)
@[simp] theorem ZC161:ZO 161:=Tz.ak ZF161 rfl (by decide)
theorem ZF162:ZQ 162 Tryz.f162:=ZS Tryz.func162 (by decide)
@[simp] theorem ZC162:ZO 162:=Tz.ak ZF162 rfl (by decide)
theorem ZF163:ZQ 163 Tryz.f163:=ZS Tryz.func163 (by decide)
@[simp] theorem ZC163:ZO 163:=Tz.ak ZF163 rfl (by decide)
theorem ZF164:ZQ 164 Tryz.f164:=ZS Tryz.func164 (by decide)
@[simp] theorem ZC164:ZO 164:=Tz.ak ZF164 rfl (by decide)
@[simp] theorem ZC10:ZO 10:=Tz.ak ZF10 rfl (by decide)
end Go.Proofs
