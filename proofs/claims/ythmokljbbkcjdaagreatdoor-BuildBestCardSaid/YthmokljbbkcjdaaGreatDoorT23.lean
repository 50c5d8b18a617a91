/- A part. Conditions: none. -/
import Derived.Test.YthmokljbbkcjdaaGreatDoorT07
import Derived.Test.YthmokljbbkcjdaaGreatDoorProg
import Derived.WalkKit
set_option linter.all false
namespace Go.Proofs
def Tz.stub:Code:=.seq (.region 0 #[{dst:=some 0,op:=.assign (.const (.bool true)),type:=4,pos:= "",after:=#[],guard:=none}] false) .ret
noncomputable def Tz.f10:Func:={Tryz.f10 with body:=some Tz.stub}
noncomputable def Tz.funcs:Array Func:=Tryz.funcs.setIfInBounds 10 Tz.f10
noncomputable def ZP:Program:={Tryz.prog with funcs:=Tz.funcs}
theorem Tz.sg:ZP.funcs=Tz.funcs:=by simp only[ZP]
theorem Tz.size:Tryz.funcs.size=169:=by kernel_rfl
theorem Tz.same (i:Nat) (h:10≠i):ZP.funcs[i]?=Tryz.prog.funcs[i]?:=by
 have e2:Tryz.prog.funcs=Tryz.funcs:=by simp only[Tryz.prog]
 rw[Tz.sg,e2];unfold Tz.funcs;exact Array.getElem?_setIfInBounds_ne h
abbrev ZO (n:Nat):Prop:=∀(args:Array Value) (w:World),Sem.run ZP (Go.callFunc n args) w=.ok (.enter n args) w
abbrev ZQ (n:Nat) (f:Func):Prop:=ZP.funcs[n]?=some f
theorem ZS {n:Nat} {f:Func} (h:Tryz.prog.funcs[n]?=some f) (k:10≠n):ZQ n f:=(Tz.same n k).trans h
theorem ZF10:ZP.funcs[10]?=some Tz.f10:=by
 rw[Tz.sg];unfold Tz.funcs;rw[Array.getElem?_setIfInBounds];simp[Tz.size]
theorem Tz.ntmps10:Tz.f10.ntmps=288:=Tryz.ntmps10
section
variable (P:Program) (F:Array Func)
theorem E5 (t:TypeId):({P with funcs:=F}:Program).underlying t=P.underlying t:=rfl
theorem oD (t:TypeId) (w:World):Sem.run {P with funcs:=F} (Go.underlying t) w=Sem.run P (Go.underlying t) w:=by
 unfold Go.underlying;show Sem.run _ ((match P.underlying t with|some d=>pure d|none=>stuck "no such type"):Sem TypeDesc) w=Sem.run _ ((match P.underlying t with|some d=>pure d|none=>stuck "no such type"):Sem TypeDesc) w;cases P.underlying t<;>rfl
theorem qs (t:TypeId) (w:World):Sem.run {P with funcs:=F} (Go.typeInfo t) w=Sem.run P (Go.typeInfo t) w:=by
 unfold Go.typeInfo;show Sem.run _ ((match P.info? t with|some d=>pure d|none=>stuck "no such type"):Sem TypeInfo) w=Sem.run _ ((match P.info? t with|some d=>pure d|none=>stuck "no such type"):Sem TypeInfo) w;cases P.info? t<;>rfl
theorem zq (t:TypeId) (w:World):Sem.run {P with funcs:=F} (Go.sizeOf t) w=Sem.run P (Go.sizeOf t) w:=by
 unfold Go.sizeOf;simp only[Sem.run_bind,qs];cases Sem.run P (Go.typeInfo t) w<;>rfl
theorem BJ (t:TypeId) (w:World):Sem.run {P with funcs:=F} (Go.isAgg t) w=Sem.run P (Go.isAgg t) w:=by
 unfold Go.isAgg;simp only[Sem.run_bind,oD];cases Sem.run P (Go.underlying t) w with
 |ok d w1=>cases d<;>simp only[Result.andThen,Sem.run_pure]
 |halt h w1=>simp only[Result.andThen]
theorem zr (t:TypeId) (w:World):Sem.run {P with funcs:=F} (Go.zeroValue t) w=Sem.run P (Go.zeroValue t) w:=by
 unfold Go.zeroValue;simp only[Sem.run_bind,qs];cases Sem.run P (Go.typeInfo t) w with
 |ok d w1=>cases hz:d.zero<;>simp[Result.andThen,hz,Go.unsupported,Sem.run]
 |halt h w1=>simp only[Result.andThen]
end
@[simp] theorem Tz.under (t:TypeId):ZP.underlying t=Tryz.prog.underlying t:=E5 Tryz.prog Tz.funcs t
@[simp] theorem Tz.stood (t:TypeId):ZP.stoodInHeld t=Tryz.prog.stoodInHeld t:=aO.cD Tryz.prog Tz.funcs t
@[simp] theorem Tz.Uv (t:TypeId) (w:World):Sem.run ZP (Go.underlying t) w=Sem.run Tryz.prog (Go.underlying t) w:=oD Tryz.prog Tz.funcs t w
@[simp] theorem Tz.cR (t:TypeId) (w:World):Sem.run ZP (Go.zeroValue t) w=Sem.run Tryz.prog (Go.zeroValue t) w:=zr Tryz.prog Tz.funcs t w
@[simp] theorem Tz.cS (t:TypeId) (w:World):Sem.run ZP (Go.sizeOf t) w=Sem.run Tryz.prog (Go.sizeOf t) w:=zq Tryz.prog Tz.funcs t w
@[simp] theorem Tz.dA (t:TypeId) (w:World):Sem.run ZP (Go.isAgg t) w=Sem.run Tryz.prog (Go.isAgg t) w:=BJ Tryz.prog Tz.funcs t w
theorem Tz.ar {f:FuncId} {fn:Func} (h:ZP.funcs[f]? =some fn) (hb:fn.body.isSome=true) (hn:fn.name≠ "runtime.NumGoroutine") (args:Array Value) (w:World):Sem.run ZP (Go.callFunc f args) w=.ok (.enter f args) w:=by
 cases hc:fn.body with
 |none=>rw[hc]at hb;cases hb
 |some c=>
  unfold Go.callFunc;simp[Go.program,Sem.run,h,hc,hn]
theorem ZF8:ZQ 8 Tryz.f8:=ZS Tryz.func8 (by decide)
theorem ZF9:ZQ 9 Tryz.f9:=ZS Tryz.func9 (by decide)
@[simp] theorem ZC9:ZO 9:=Tz.ar ZF9 rfl (by decide)
theorem ZF13:ZQ 13 Tryz.f13:=ZS Tryz.func13 (by decide)
@[simp] theorem ZC13:ZO 13:=Tz.ar ZF13 rfl (by decide)
theorem ZF17:ZQ 17 Tryz.f17:=ZS Tryz.func17 (by decide)
@[simp] theorem ZC17:ZO 17:=Tz.ar ZF17 rfl (by decide)
theorem ZF19:ZQ 19 Tryz.f19:=ZS Tryz.func19 (by decide)
@[simp] theorem ZC19:ZO 19:=Tz.ar ZF19 rfl (by decide)
theorem ZF20:ZQ 20 Tryz.f20:=ZS Tryz.func20 (by decide)
@[simp] theorem ZC20:ZO 20:=Tz.ar ZF20 rfl (by decide)
theorem ZF23:ZQ 23 Tryz.f23:=ZS Tryz.func23 (by decide)
@[simp] theorem ZC23:ZO 23:=Tz.ar ZF23 rfl (by decide)
theorem ZF24:ZQ 24 Tryz.f24:=ZS Tryz.func24 (by decide)
@[simp] theorem ZC24:ZO 24:=Tz.ar ZF24 rfl (by decide)
theorem ZF33:ZQ 33 Tryz.f33:=ZS Tryz.func33 (by decide)
@[simp] theorem ZC33:ZO 33:=Tz.ar ZF33 rfl (by decide)
theorem ZF34:ZQ 34 Tryz.f34:=ZS Tryz.func34 (by decide)
@[simp] theorem ZC34:ZO 34:=Tz.ar ZF34 rfl (by decide)
theorem ZF35:ZQ 35 Tryz.f35:=ZS Tryz.func35 (by decide)
@[simp] theorem ZC35:ZO 35:=Tz.ar ZF35 rfl (by decide)
theorem ZF36:ZQ 36 Tryz.f36:=ZS Tryz.func36 (by decide)
@[simp] theorem ZC36:ZO 36:=Tz.ar ZF36 rfl (by decide)
theorem ZF37:ZQ 37 Tryz.f37:=ZS Tryz.func37 (by decide)
@[simp] theorem ZC37:ZO 37:=Tz.ar ZF37 rfl (by decide)
theorem ZF38:ZQ 38 Tryz.f38:=ZS Tryz.func38 (by decide)
@[simp] theorem ZC38:ZO 38:=Tz.ar ZF38 rfl (by decide)
theorem ZF39:ZQ 39 Tryz.f39:=ZS Tryz.func39 (by decide)
@[simp] theorem ZC39:ZO 39:=Tz.ar ZF39 rfl (by decide)
theorem ZF40:ZQ 40 Tryz.f40:=ZS Tryz.func40 (by decide)
@[simp] theorem ZC40:ZO 40:=Tz.ar ZF40 rfl (by decide)
theorem ZF41:ZQ 41 Tryz.f41:=ZS Tryz.func41 (by decide)
@[simp] theorem ZC41:ZO 41:=Tz.ar ZF41 rfl (by decide)
theorem ZF47:ZQ 47 Tryz.f47:=ZS Tryz.func47 (by decide)
@[simp] theorem ZC47:ZO 47:=Tz.ar ZF47 rfl (by decide)
theorem ZF50:ZQ 50 Tryz.f50:=ZS Tryz.func50 (by decide)
@[simp] theorem ZC50:ZO 50:=Tz.ar ZF50 rfl (by decide)
theorem ZF51:ZQ 51 Tryz.f51:=ZS Tryz.func51 (by decide)
@[simp] theorem ZC51:ZO 51:=Tz.ar ZF51 rfl (by decide)
theorem ZF52:ZQ 52 Tryz.f52:=ZS Tryz.func52 (by decide)
@[simp] theorem ZC52:ZO 52:=Tz.ar ZF52 rfl (by decide)
theorem ZF53:ZQ 53 Tryz.f53:=ZS Tryz.func53 (by decide)
@[simp] theorem ZC53:ZO 53:=Tz.ar ZF53 rfl (by decide)
theorem ZF54:ZQ 54 Tryz.f54:=ZS Tryz.func54 (by decide)
@[simp] theorem ZC54:ZO 54:=Tz.ar ZF54 rfl (by decide)
theorem ZF55:ZQ 55 Tryz.f55:=ZS Tryz.func55 (by decide)
@[simp] theorem ZC55:ZO 55:=Tz.ar ZF55 rfl (by decide)
theorem ZF56:ZQ 56 Tryz.f56:=ZS Tryz.func56 (by decide)
@[simp] theorem ZC56:ZO 56:=Tz.ar ZF56 rfl (by decide)
theorem ZF57:ZQ 57 Tryz.f57:=ZS Tryz.func57 (by decide)
@[simp] theorem ZC57:ZO 57:=Tz.ar ZF57 rfl (by decide)
theorem ZF60:ZQ 60 Tryz.f60:=ZS Tryz.func60 (by decide)
@[simp] theorem ZC60:ZO 60:=Tz.ar ZF60 rfl (by decide)
theorem ZF61:ZQ 61 Tryz.f61:=ZS Tryz.func61 (by decide)
@[simp] theorem ZC61:ZO 61:=Tz.ar ZF61 rfl (by decide)
theorem ZF62:ZQ 62 Tryz.f62:=ZS Tryz.func62 (by decide)
@[simp] theorem ZC62:ZO 62:=Tz.ar ZF62 rfl (by decide)
theorem ZF63:ZQ 63 Tryz.f63:=ZS Tryz.func63 (by decide)
@[simp] theorem ZC63:ZO 63:=Tz.ar ZF63 rfl (by decide)
theorem ZF64:ZQ 64 Tryz.f64:=ZS Tryz.func64 (by decide)
@[simp] theorem ZC64:ZO 64:=Tz.ar ZF64 rfl (by decide)
theorem ZF65:ZQ 65 Tryz.f65:=ZS Tryz.func65 (by decide)
@[simp] theorem ZC65:ZO 65:=Tz.ar ZF65 rfl (by decide)
theorem ZF66:ZQ 66 Tryz.f66:=ZS Tryz.func66 (by decide)
@[simp] theorem ZC66:ZO 66:=Tz.ar ZF66 rfl (by decide)
theorem ZF68:ZQ 68 Tryz.f68:=ZS Tryz.func68 (by decide)
@[simp] theorem ZC68:ZO 68:=Tz.ar ZF68 rfl (by decide)
theorem ZF69:ZQ 69 Tryz.f69:=ZS Tryz.func69 (by decide)
@[simp] theorem ZC69:ZO 69:=Tz.ar ZF69 rfl (by decide)
theorem ZF70:ZQ 70 Tryz.f70:=ZS Tryz.func70 (by decide)
@[simp] theorem ZC70:ZO 70:=Tz.ar ZF70 rfl (by decide)
theorem ZF75:ZQ 75 Tryz.f75:=ZS Tryz.func75 (by decide)
@[simp] theorem ZC75:ZO 75:=Tz.ar ZF75 rfl (by decide)
theorem ZF76:ZQ 76 Tryz.f76:=ZS Tryz.func76 (by decide)
@[simp] theorem ZC76:ZO 76:=Tz.ar ZF76 rfl (by decide)
theorem ZF77:ZQ 77 Tryz.f77:=ZS Tryz.func77 (by decide)
@[simp] theorem ZC77:ZO 77:=Tz.ar ZF77 rfl (by decide)
theorem ZF78:ZQ 78 Tryz.f78:=ZS Tryz.func78 (by decide)
@[simp] theorem ZC78:ZO 78:=Tz.ar ZF78 rfl (by decide)
theorem ZF79:ZQ 79 Tryz.f79:=ZS Tryz.func79 (by decide)
@[simp] theorem ZC79:ZO 79:=Tz.ar ZF79 rfl (by decide)
theorem ZF80:ZQ 80 Tryz.f80:=ZS Tryz.func80 (by decide)
@[simp] theorem ZC80:ZO 80:=Tz.ar ZF80 rfl (by decide)
theorem ZF81:ZQ 81 Tryz.f81:=ZS Tryz.func81 (by decide)
@[simp] theorem ZC81:ZO 81:=Tz.ar ZF81 rfl (by decide)
theorem ZF82:ZQ 82 Tryz.f82:=ZS Tryz.func82 (by decide)
@[simp] theorem ZC82:ZO 82:=Tz.ar ZF82 rfl (by decide)
theorem ZF83:ZQ 83 Tryz.f83:=ZS Tryz.func83 (by decide)
@[simp] theorem ZC83:ZO 83:=Tz.ar ZF83 rfl (by decide)
theorem ZF84:ZQ 84 Tryz.f84:=ZS Tryz.func84 (by decide)
@[simp] theorem ZC84:ZO 84:=Tz.ar ZF84 rfl (by decide)
theorem ZF85:ZQ 85 Tryz.f85:=ZS Tryz.func85 (by decide)
@[simp] theorem ZC85:ZO 85:=Tz.ar ZF85 rfl (by decide)
theorem ZF86:ZQ 86 Tryz.f86:=ZS Tryz.func86 (by decide)
@[simp] theorem ZC86:ZO 86:=Tz.ar ZF86 rfl (by decide)
theorem ZF87:ZQ 87 Tryz.f87:=ZS Tryz.func87 (by decide)
@[simp] theorem ZC87:ZO 87:=Tz.ar ZF87 rfl (by decide)
theorem ZF91:ZQ 91 Tryz.f91:=ZS Tryz.func91 (by decide)
@[simp] theorem ZC91:ZO 91:=Tz.ar ZF91 rfl (by decide)
theorem ZF94:ZQ 94 Tryz.f94:=ZS Tryz.func94 (by decide)
@[simp] theorem ZC94:ZO 94:=Tz.ar ZF94 rfl (by decide)
theorem ZF95:ZQ 95 Tryz.f95:=ZS Tryz.func95 (by decide)
@[simp] theorem ZC95:ZO 95:=Tz.ar ZF95 rfl (by decide)
theorem ZF96:ZQ 96 Tryz.f96:=ZS Tryz.func96 (by decide)
theorem ZF97:ZQ 97 Tryz.f97:=ZS Tryz.func97 (by decide)
@[simp] theorem ZC97:ZO 97:=Tz.ar ZF97 rfl (by decide)
theorem ZF98:ZQ 98 Tryz.f98:=ZS Tryz.func98 (by decide)
@[simp] theorem ZC98:ZO 98:=Tz.ar ZF98 rfl (by decide)
theorem ZF99:ZQ 99 Tryz.f99:=ZS Tryz.func99 (by decide)
@[simp] theorem ZC99:ZO 99:=Tz.ar ZF99 rfl (by decide)
theorem ZF100:ZQ 100 Tryz.f100:=ZS Tryz.func100 (by decide)
@[simp] theorem ZC100:ZO 100:=Tz.ar ZF100 rfl (by decide)
theorem ZF101:ZQ 101 Tryz.f101:=ZS Tryz.func101 (by decide)
@[simp] theorem ZC101:ZO 101:=Tz.ar ZF101 rfl (by decide)
theorem ZF102:ZQ 102 Tryz.f102:=ZS Tryz.func102 (by decide)
@[simp] theorem ZC102:ZO 102:=Tz.ar ZF102 rfl (by decide)
theorem ZF104:ZQ 104 Tryz.f104:=ZS Tryz.func104 (by decide)
theorem ZF105:ZQ 105 Tryz.f105:=ZS Tryz.func105 (by decide)
theorem ZF108:ZQ 108 Tryz.f108:=ZS Tryz.func108 (by decide)
@[simp] theorem ZC108:ZO 108:=Tz.ar ZF108 rfl (by decide)
theorem ZF109:ZQ 109 Tryz.f109:=ZS Tryz.func109 (by decide)
@[simp] theorem ZC109:ZO 109:=Tz.ar ZF109 rfl (by decide)
theorem ZF110:ZQ 110 Tryz.f110:=ZS Tryz.func110 (by decide)
theorem ZF111:ZQ 111 Tryz.f111:=ZS Tryz.func111 (by decide)
@[simp] theorem ZC111:ZO 111:=Tz.ar ZF111 rfl (by decide)
theorem ZF113:ZQ 113 Tryz.f113:=ZS Tryz.func113 (by decide)
@[simp] theorem ZC113:ZO 113:=Tz.ar ZF113 rfl (by decide)
theorem ZF114:ZQ 114 Tryz.f114:=ZS Tryz.func114 (by decide)
@[simp] theorem ZC114:ZO 114:=Tz.ar ZF114 rfl (by decide)
theorem ZF115:ZQ 115 Tryz.f115:=ZS Tryz.func115 (by decide)
@[simp] theorem ZC115:ZO 115:=Tz.ar ZF115 rfl (by decide)
theorem ZF116:ZQ 116 Tryz.f116:=ZS Tryz.func116 (by decide)
@[simp] theorem ZC116:ZO 116:=Tz.ar ZF116 rfl (by decide)
theorem ZF117:ZQ 117 Tryz.f117:=ZS Tryz.func117 (by decide)
theorem ZF118:ZQ 118 Tryz.f118:=ZS Tryz.func118 (by decide)
theorem ZF119:ZQ 119 Tryz.f119:=ZS Tryz.func119 (by decide)
theorem ZF120:ZQ 120 Tryz.f120:=ZS Tryz.func120 (by decide)
theorem ZF121:ZQ 121 Tryz.f121:=ZS Tryz.func121 (by decide)
theorem ZF122:ZQ 122 Tryz.f122:=ZS Tryz.func122 (by decide)
theorem ZF123:ZQ 123 Tryz.f123:=ZS Tryz.func123 (by decide)
theorem ZF124:ZQ 124 Tryz.f124:=ZS Tryz.func124 (by decide)
theorem ZF125:ZQ 125 Tryz.f125:=ZS Tryz.func125 (by decide)
theorem ZF126:ZQ 126 Tryz.f126:=ZS Tryz.func126 (by decide)
theorem ZF127:ZQ 127 Tryz.f127:=ZS Tryz.func127 (by decide)
theorem ZF128:ZQ 128 Tryz.f128:=ZS Tryz.func128 (by decide)
@[simp] theorem ZC128:ZO 128:=Tz.ar ZF128 rfl (by decide)
theorem ZF129:ZQ 129 Tryz.f129:=ZS Tryz.func129 (by decide)
@[simp] theorem ZC129:ZO 129:=Tz.ar ZF129 rfl (by decide)
theorem ZF130:ZQ 130 Tryz.f130:=ZS Tryz.func130 (by decide)
theorem ZF131:ZQ 131 Tryz.f131:=ZS Tryz.func131 (by decide)
@[simp] theorem ZC131:ZO 131:=Tz.ar ZF131 rfl (by decide)
theorem ZF132:ZQ 132 Tryz.f132:=ZS Tryz.func132 (by decide)
@[simp] theorem ZC132:ZO 132:=Tz.ar ZF132 rfl (by decide)
theorem ZF133:ZQ 133 Tryz.f133:=ZS Tryz.func133 (by decide)
@[simp] theorem ZC133:ZO 133:=Tz.ar ZF133 rfl (by decide)
theorem ZF134:ZQ 134 Tryz.f134:=ZS Tryz.func134 (by decide)
theorem ZF135:ZQ 135 Tryz.f135:=ZS Tryz.func135 (by decide)
theorem ZF136:ZQ 136 Tryz.f136:=ZS Tryz.func136 (by decide)
theorem ZF137:ZQ 137 Tryz.f137:=ZS Tryz.func137 (by decide)
theorem ZF138:ZQ 138 Tryz.f138:=ZS Tryz.func138 (by decide)
theorem ZF139:ZQ 139 Tryz.f139:=ZS Tryz.func139 (by decide)
@[simp] theorem ZC139:ZO 139:=Tz.ar ZF139 rfl (by decide)
theorem ZF140:ZQ 140 Tryz.f140:=ZS Tryz.func140 (by decide)
theorem ZF157:ZQ 157 Tryz.f157:=ZS Tryz.func157 (by decide)
@[simp] theorem ZC157:ZO 157:=Tz.ar ZF157 rfl (by decide)
theorem ZF158:ZQ 158 Tryz.f158:=ZS Tryz.func158 (by decide)
@[simp] theorem ZC158:ZO 158:=Tz.ar ZF158 rfl (by decide)
theorem ZF159:ZQ 159 Tryz.f159:=ZS Tryz.func159 (by decide)
@[simp] theorem ZC159:ZO 159:=Tz.ar ZF159 rfl (by decide)
theorem ZF160:ZQ 160 Tryz.f160:=ZS Tryz.func160 (by decide)
@[simp] theorem ZC160:ZO 160:=Tz.ar ZF160 rfl (by decide)
theorem ZF161:ZQ 161 Tryz.f161:=ZS Tryz.func161 (by decide)
@[simp] theorem ZC161:ZO 161:=Tz.ar ZF161 rfl (by decide)
theorem ZF162:ZQ 162 Tryz.f162:=ZS Tryz.func162 (by decide)
@[simp] theorem ZC162:ZO 162:=Tz.ar ZF162 rfl (by decide)
theorem ZF163:ZQ 163 Tryz.f163:=ZS Tryz.func163 (by decide)
@[simp] theorem ZC163:ZO 163:=Tz.ar ZF163 rfl (by decide)
theorem ZF164:ZQ 164 Tryz.f164:=ZS Tryz.func164 (by decide)
@[simp] theorem ZC164:ZO 164:=Tz.ar ZF164 rfl (by decide)
@[simp] theorem ZC10:ZO 10:=Tz.ar ZF10 rfl (by decide)
end Go.Proofs
