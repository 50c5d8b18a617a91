/- A part. Conditions: none. -/
import Derived.Test.YtehbindidbgacaaGreatDoorT07
import Derived.Test.YtehbindidbgacaaGreatDoorProg
import Derived.WalkKit
set_option linter.all false
namespace Go.Proofs
def Tz.stub:Code:=.seq (.region 0 #[{dst:=some 0,op:=.assign (.const (.bool true)),type:=4,pos:= "",after:=#[],guard:=none}] false) .ret
noncomputable def Tz.f7:Func:={Tryz.f7 with body:=some Tz.stub}
def Tz.cut (t:Code):Code->Code
 |.seq x1 (.seq x2 (.seq x3 (.seq x4 _)))=>.seq x1 (.seq x2 (.seq x3 (.seq x4 t)))
 |c=>c
noncomputable def Tz.f11:Func:={Tryz.f11 with body:=some (Tz.cut (.refuse "") ((Tryz.f11.body).getD .skip))}
noncomputable def Tz.funcs:Array Func:=(Tryz.funcs.setIfInBounds 7 Tz.f7).setIfInBounds 11 Tz.f11
noncomputable def ZP:Program:={Tryz.prog with funcs:=Tz.funcs}
theorem Tz.od:ZP.funcs=Tz.funcs:=by simp only[ZP]
theorem Tz.size:Tryz.funcs.size=167:=by kernel_rfl
theorem Tz.same (i:Nat) (h:7≠i/\11≠i):ZP.funcs[i]?=Tryz.prog.funcs[i]?:=by
 have e2:Tryz.prog.funcs=Tryz.funcs:=by simp only[Tryz.prog]
 rw[Tz.od,e2];unfold Tz.funcs;rw[Array.getElem?_setIfInBounds_ne h.2];exact Array.getElem?_setIfInBounds_ne h.1
abbrev ZO (n:Nat):Prop:=∀(args:Array Value) (w:World),Sem.run ZP (Go.callFunc n args) w=.ok (.enter n args) w
abbrev ZQ (n:Nat) (f:Func):Prop:=ZP.funcs[n]?=some f
theorem ZS {n:Nat} {f:Func} (h:Tryz.prog.funcs[n]?=some f) (k:7≠n/\11≠n):ZQ n f:=(Tz.same n k).trans h
theorem ZF7:ZP.funcs[7]?=some Tz.f7:=by
 rw[Tz.od];unfold Tz.funcs;rw[Array.getElem?_setIfInBounds_ne (by decide),Array.getElem?_setIfInBounds];simp[Tz.size]
theorem ZF11:ZP.funcs[11]?=some Tz.f11:=by
 rw[Tz.od];unfold Tz.funcs;rw[Array.getElem?_setIfInBounds];simp[Tz.size]
theorem Tz.ntmps11:Tz.f11.ntmps=60:=Tryz.ntmps11
theorem Tz.ntmps7:Tz.f7.ntmps=288:=Tryz.ntmps7
section
variable (P:Program) (F:Array Func)
theorem E5 (t:TypeId):({P with funcs:=F}:Program).underlying t=P.underlying t:=rfl
theorem oe (t:TypeId) (w:World):Sem.run {P with funcs:=F} (Go.underlying t) w=Sem.run P (Go.underlying t) w:=by
 unfold Go.underlying;show Sem.run _ ((match P.underlying t with|some d=>pure d|none=>stuck "no such type"):Sem TypeDesc) w=Sem.run _ ((match P.underlying t with|some d=>pure d|none=>stuck "no such type"):Sem TypeDesc) w;cases P.underlying t<;>rfl
theorem pY (t:TypeId) (w:World):Sem.run {P with funcs:=F} (Go.typeInfo t) w=Sem.run P (Go.typeInfo t) w:=by
 unfold Go.typeInfo;show Sem.run _ ((match P.info? t with|some d=>pure d|none=>stuck "no such type"):Sem TypeInfo) w=Sem.run _ ((match P.info? t with|some d=>pure d|none=>stuck "no such type"):Sem TypeInfo) w;cases P.info? t<;>rfl
theorem zc (t:TypeId) (w:World):Sem.run {P with funcs:=F} (Go.sizeOf t) w=Sem.run P (Go.sizeOf t) w:=by
 unfold Go.sizeOf;simp only[Sem.run_bind,pY];cases Sem.run P (Go.typeInfo t) w<;>rfl
theorem By (t:TypeId) (w:World):Sem.run {P with funcs:=F} (Go.isAgg t) w=Sem.run P (Go.isAgg t) w:=by
 unfold Go.isAgg;simp only[Sem.run_bind,oe];cases Sem.run P (Go.underlying t) w with
 |ok d w1=>cases d<;>simp only[Result.andThen,Sem.run_pure]
 |halt h w1=>simp only[Result.andThen]
theorem zd (t:TypeId) (w:World):Sem.run {P with funcs:=F} (Go.zeroValue t) w=Sem.run P (Go.zeroValue t) w:=by
 unfold Go.zeroValue;simp only[Sem.run_bind,pY];cases Sem.run P (Go.typeInfo t) w with
 |ok d w1=>cases hz:d.zero<;>simp[Result.andThen,hz,Go.unsupported,Sem.run]
 |halt h w1=>simp only[Result.andThen]
end
@[simp] theorem Tz.under (t:TypeId):ZP.underlying t=Tryz.prog.underlying t:=E5 Tryz.prog Tz.funcs t
@[simp] theorem Tz.stood (t:TypeId):ZP.stoodInHeld t=Tryz.prog.stoodInHeld t:=av.jv Tryz.prog Tz.funcs t
@[simp] theorem Tz.UQ (t:TypeId) (w:World):Sem.run ZP (Go.underlying t) w=Sem.run Tryz.prog (Go.underlying t) w:=oe Tryz.prog Tz.funcs t w
@[simp] theorem Tz.bZ (t:TypeId) (w:World):Sem.run ZP (Go.zeroValue t) w=Sem.run Tryz.prog (Go.zeroValue t) w:=zd Tryz.prog Tz.funcs t w
@[simp] theorem Tz.cg (t:TypeId) (w:World):Sem.run ZP (Go.sizeOf t) w=Sem.run Tryz.prog (Go.sizeOf t) w:=zc Tryz.prog Tz.funcs t w
@[simp] theorem Tz.cW (t:TypeId) (w:World):Sem.run ZP (Go.isAgg t) w=Sem.run Tryz.prog (Go.isAgg t) w:=By Tryz.prog Tz.funcs t w
theorem Tz.ak {f:FuncId} {fn:Func} (h:ZP.funcs[f]? =some fn) (hb:fn.body.isSome=true) (hn:fn.name≠ "runtime.NumGoroutine") (args:Array Value) (w:World):Sem.run ZP (Go.callFunc f args) w=.ok (.enter f args) w:=by
 cases hc:fn.body with
 |none=>rw[hc]at hb;cases hb
 |some c=>
  unfold Go.callFunc;simp[Go.program,Sem.run,h,hc,hn]
@[simp] theorem ZC7:ZO 7:=Tz.ak ZF7 rfl (by decide)
theorem ZF3:ZQ 3 Tryz.f3:=ZS Tryz.func3 (by decide)
theorem ZF6:ZQ 6 Tryz.f6:=ZS Tryz.func6 (by decide)
@[simp] theorem ZC6:ZO 6:=Tz.ak ZF6 rfl (by decide)
theorem ZF8:ZQ 8 Tryz.f8:=ZS Tryz.func8 (by decide)
@[simp] theorem ZC8:ZO 8:=Tz.ak ZF8 rfl (by decide)
theorem ZF9:ZQ 9 Tryz.f9:=ZS Tryz.func9 (by decide)
@[simp] theorem ZC9:ZO 9:=Tz.ak ZF9 rfl (by decide)
theorem ZF10:ZQ 10 Tryz.f10:=ZS Tryz.func10 (by decide)
@[simp] theorem ZC10:ZO 10:=Tz.ak ZF10 rfl (by decide)
@[simp] theorem ZC11:ZO 11:=Tz.ak ZF11 rfl (by decide)
theorem ZF12:ZQ 12 Tryz.f12:=ZS Tryz.func12 (by decide)
@[simp] theorem ZC12:ZO 12:=Tz.ak ZF12 rfl (by decide)
theorem ZF13:ZQ 13 Tryz.f13:=ZS Tryz.func13 (by decide)
@[simp] theorem ZC13:ZO 13:=Tz.ak ZF13 rfl (by decide)
theorem ZF14:ZQ 14 Tryz.f14:=ZS Tryz.func14 (by decide)
@[simp] theorem ZC14:ZO 14:=Tz.ak ZF14 rfl (by decide)
theorem ZF15:ZQ 15 Tryz.f15:=ZS Tryz.func15 (by decide)
@[simp] theorem ZC15:ZO 15:=Tz.ak ZF15 rfl (by decide)
theorem ZF16:ZQ 16 Tryz.f16:=ZS Tryz.func16 (by decide)
@[simp] theorem ZC16:ZO 16:=Tz.ak ZF16 rfl (by decide)
theorem ZF17:ZQ 17 Tryz.f17:=ZS Tryz.func17 (by decide)
@[simp] theorem ZC17:ZO 17:=Tz.ak ZF17 rfl (by decide)
theorem ZF18:ZQ 18 Tryz.f18:=ZS Tryz.func18 (by decide)
@[simp] theorem ZC18:ZO 18:=Tz.ak ZF18 rfl (by decide)
theorem ZF19:ZQ 19 Tryz.f19:=ZS Tryz.func19 (by decide)
@[simp] theorem ZC19:ZO 19:=Tz.ak ZF19 rfl (by decide)
theorem ZF20:ZQ 20 Tryz.f20:=ZS Tryz.func20 (by decide)
@[simp] theorem ZC20:ZO 20:=Tz.ak ZF20 rfl (by decide)
theorem ZF21:ZQ 21 Tryz.f21:=ZS Tryz.func21 (by decide)
@[simp] theorem ZC21:ZO 21:=Tz.ak ZF21 rfl (by decide)
theorem ZF22:ZQ 22 Tryz.f22:=ZS Tryz.func22 (by decide)
@[simp] theorem ZC22:ZO 22:=Tz.ak ZF22 rfl (by decide)
theorem ZF23:ZQ 23 Tryz.f23:=ZS Tryz.func23 (by decide)
@[simp] theorem ZC23:ZO 23:=Tz.ak ZF23 rfl (by decide)
theorem ZF24:ZQ 24 Tryz.f24:=ZS Tryz.func24 (by decide)
@[simp] theorem ZC24:ZO 24:=Tz.ak ZF24 rfl (by decide)
theorem ZF32:ZQ 32 Tryz.f32:=ZS Tryz.func32 (by decide)
@[simp] theorem ZC32:ZO 32:=Tz.ak ZF32 rfl (by decide)
theorem ZF33:ZQ 33 Tryz.f33:=ZS Tryz.func33 (by decide)
@[simp] theorem ZC33:ZO 33:=Tz.ak ZF33 rfl (by decide)
theorem ZF41:ZQ 41 Tryz.f41:=ZS Tryz.func41 (by decide)
@[simp] theorem ZC41:ZO 41:=Tz.ak ZF41 rfl (by decide)
theorem ZF42:ZQ 42 Tryz.f42:=ZS Tryz.func42 (by decide)
@[simp] theorem ZC42:ZO 42:=Tz.ak ZF42 rfl (by decide)
theorem ZF43:ZQ 43 Tryz.f43:=ZS Tryz.func43 (by decide)
@[simp] theorem ZC43:ZO 43:=Tz.ak ZF43 rfl (by decide)
theorem ZF44:ZQ 44 Tryz.f44:=ZS Tryz.func44 (by decide)
@[simp] theorem ZC44:ZO 44:=Tz.ak ZF44 rfl (by decide)
theorem ZF45:ZQ 45 Tryz.f45:=ZS Tryz.func45 (by decide)
@[simp] theorem ZC45:ZO 45:=Tz.ak ZF45 rfl (by decide)
theorem ZF50:ZQ 50 Tryz.f50:=ZS Tryz.func50 (by decide)
@[simp] theorem ZC50:ZO 50:=Tz.ak ZF50 rfl (by decide)
theorem ZF51:ZQ 51 Tryz.f51:=ZS Tryz.func51 (by decide)
@[simp] theorem ZC51:ZO 51:=Tz.ak ZF51 rfl (by decide)
theorem ZF52:ZQ 52 Tryz.f52:=ZS Tryz.func52 (by decide)
@[simp] theorem ZC52:ZO 52:=Tz.ak ZF52 rfl (by decide)
theorem ZF53:ZQ 53 Tryz.f53:=ZS Tryz.func53 (by decide)
@[simp] theorem ZC53:ZO 53:=Tz.ak ZF53 rfl (by decide)
theorem ZF54:ZQ 54 Tryz.f54:=ZS Tryz.func54 (by decide)
@[simp] theorem ZC54:ZO 54:=Tz.ak ZF54 rfl (by decide)
theorem ZF55:ZQ 55 Tryz.f55:=ZS Tryz.func55 (by decide)
@[simp] theorem ZC55:ZO 55:=Tz.ak ZF55 rfl (by decide)
theorem ZF56:ZQ 56 Tryz.f56:=ZS Tryz.func56 (by decide)
@[simp] theorem ZC56:ZO 56:=Tz.ak ZF56 rfl (by decide)
theorem ZF57:ZQ 57 Tryz.f57:=ZS Tryz.func57 (by decide)
@[simp] theorem ZC57:ZO 57:=Tz.ak ZF57 rfl (by decide)
theorem ZF58:ZQ 58 Tryz.f58:=ZS Tryz.func58 (by decide)
@[simp] theorem ZC58:ZO 58:=Tz.ak ZF58 rfl (by decide)
theorem ZF59:ZQ 59 Tryz.f59:=ZS Tryz.func59 (by decide)
@[simp] theorem ZC59:ZO 59:=Tz.ak ZF59 rfl (by decide)
theorem ZF60:ZQ 60 Tryz.f60:=ZS Tryz.func60 (by decide)
@[simp] theorem ZC60:ZO 60:=Tz.ak ZF60 rfl (by decide)
theorem ZF61:ZQ 61 Tryz.f61:=ZS Tryz.func61 (by decide)
@[simp] theorem ZC61:ZO 61:=Tz.ak ZF61 rfl (by decide)
theorem ZF62:ZQ 62 Tryz.f62:=ZS Tryz.func62 (by decide)
@[simp] theorem ZC62:ZO 62:=Tz.ak ZF62 rfl (by decide)
theorem ZF63:ZQ 63 Tryz.f63:=ZS Tryz.func63 (by decide)
@[simp] theorem ZC63:ZO 63:=Tz.ak ZF63 rfl (by decide)
theorem ZF64:ZQ 64 Tryz.f64:=ZS Tryz.func64 (by decide)
@[simp] theorem ZC64:ZO 64:=Tz.ak ZF64 rfl (by decide)
theorem ZF65:ZQ 65 Tryz.f65:=ZS Tryz.func65 (by decide)
@[simp] theorem ZC65:ZO 65:=Tz.ak ZF65 rfl (by decide)
theorem ZF66:ZQ 66 Tryz.f66:=ZS Tryz.func66 (by decide)
@[simp] theorem ZC66:ZO 66:=Tz.ak ZF66 rfl (by decide)
theorem ZF67:ZQ 67 Tryz.f67:=ZS Tryz.func67 (by decide)
@[simp] theorem ZC67:ZO 67:=Tz.ak ZF67 rfl (by decide)
theorem ZF68:ZQ 68 Tryz.f68:=ZS Tryz.func68 (by decide)
@[simp] theorem ZC68:ZO 68:=Tz.ak ZF68 rfl (by decide)
theorem ZF69:ZQ 69 Tryz.f69:=ZS Tryz.func69 (by decide)
@[simp] theorem ZC69:ZO 69:=Tz.ak ZF69 rfl (by decide)
theorem ZF70:ZQ 70 Tryz.f70:=ZS Tryz.func70 (by decide)
@[simp] theorem ZC70:ZO 70:=Tz.ak ZF70 rfl (by decide)
theorem ZF77:ZQ 77 Tryz.f77:=ZS Tryz.func77 (by decide)
@[simp] theorem ZC77:ZO 77:=Tz.ak ZF77 rfl (by decide)
theorem ZF79:ZQ 79 Tryz.f79:=ZS Tryz.func79 (by decide)
@[simp] theorem ZC79:ZO 79:=Tz.ak ZF79 rfl (by decide)
theorem ZF80:ZQ 80 Tryz.f80:=ZS Tryz.func80 (by decide)
@[simp] theorem ZC80:ZO 80:=Tz.ak ZF80 rfl (by decide)
theorem ZF81:ZQ 81 Tryz.f81:=ZS Tryz.func81 (by decide)
@[simp] theorem ZC81:ZO 81:=Tz.ak ZF81 rfl (by decide)
theorem ZF82:ZQ 82 Tryz.f82:=ZS Tryz.func82 (by decide)
@[simp] theorem ZC82:ZO 82:=Tz.ak ZF82 rfl (by decide)
theorem ZF84:ZQ 84 Tryz.f84:=ZS Tryz.func84 (by decide)
@[simp] theorem ZC84:ZO 84:=Tz.ak ZF84 rfl (by decide)
theorem ZF88:ZQ 88 Tryz.f88:=ZS Tryz.func88 (by decide)
theorem ZF91:ZQ 91 Tryz.f91:=ZS Tryz.func91 (by decide)
@[simp] theorem ZC91:ZO 91:=Tz.ak ZF91 rfl (by decide)
theorem ZF92:ZQ 92 Tryz.f92:=ZS Tryz.func92 (by decide)
@[simp] theorem ZC92:ZO 92:=Tz.ak ZF92 rfl (by decide)
theorem ZF93:ZQ 93 Tryz.f93:=ZS Tryz.func93 (by decide)
theorem ZF94:ZQ 94 Tryz.f94:=ZS Tryz.func94 (by decide)
theorem ZF95:ZQ 95 Tryz.f95:=ZS Tryz.func95 (by decide)
@[simp] theorem ZC95:ZO 95:=Tz.ak ZF95 rfl (by decide)
theorem ZF96:ZQ 96 Tryz.f96:=ZS Tryz.func96 (by decide)
@[simp] theorem ZC96:ZO 96:=Tz.ak ZF96 rfl (by decide)
theorem ZF97:ZQ 97 Tryz.f97:=ZS Tryz.func97 (by decide)
@[simp] theorem ZC97:ZO 97:=Tz.ak ZF97 rfl (by decide)
theorem ZF98:ZQ 98 Tryz.f98:=ZS Tryz.func98 (by decide)
@[simp] theorem ZC98:ZO 98:=Tz.ak ZF98 rfl (by decide)
theorem ZF99:ZQ 99 Tryz.f99:=ZS Tryz.func99 (by decide)
@[simp] theorem ZC99:ZO 99:=Tz.ak ZF99 rfl (by decide)
theorem ZF100:ZQ 100 Tryz.f100:=ZS Tryz.func100 (by decide)
@[simp] theorem ZC100:ZO 100:=Tz.ak ZF100 rfl (by decide)
theorem ZF101:ZQ 101 Tryz.f101:=ZS Tryz.func101 (by decide)
@[simp] theorem ZC101:ZO 101:=Tz.ak ZF101 rfl (by decide)
theorem ZF103:ZQ 103 Tryz.f103:=ZS Tryz.func103 (by decide)
@[simp] theorem ZC103:ZO 103:=Tz.ak ZF103 rfl (by decide)
theorem ZF104:ZQ 104 Tryz.f104:=ZS Tryz.func104 (by decide)
@[simp] theorem ZC104:ZO 104:=Tz.ak ZF104 rfl (by decide)
theorem ZF105:ZQ 105 Tryz.f105:=ZS Tryz.func105 (by decide)
@[simp] theorem ZC105:ZO 105:=Tz.ak ZF105 rfl (by decide)
theorem ZF106:ZQ 106 Tryz.f106:=ZS Tryz.func106 (by decide)
@[simp] theorem ZC106:ZO 106:=Tz.ak ZF106 rfl (by decide)
theorem ZF107:ZQ 107 Tryz.f107:=ZS Tryz.func107 (by decide)
@[simp] theorem ZC107:ZO 107:=Tz.ak ZF107 rfl (by decide)
theorem ZF108:ZQ 108 Tryz.f108:=ZS Tryz.func108 (by decide)
@[simp] theorem ZC108:ZO 108:=Tz.ak ZF108 rfl (by decide)
theorem ZF110:ZQ 110 Tryz.f110:=ZS Tryz.func110 (by decide)
theorem ZF111:ZQ 111 Tryz.f111:=ZS Tryz.func111 (by decide)
theorem ZF112:ZQ 112 Tryz.f112:=ZS Tryz.func112 (by decide)
theorem ZF113:ZQ 113 Tryz.f113:=ZS Tryz.func113 (by decide)
theorem ZF114:ZQ 114 Tryz.f114:=ZS Tryz.func114 (by decide)
theorem ZF115:ZQ 115 Tryz.f115:=ZS Tryz.func115 (by decide)
theorem ZF116:ZQ 116 Tryz.f116:=ZS Tryz.func116 (by decide)
theorem ZF117:ZQ 117 Tryz.f117:=ZS Tryz.func117 (by decide)
theorem ZF118:ZQ 118 Tryz.f118:=ZS Tryz.func118 (by decide)
theorem ZF119:ZQ 119 Tryz.f119:=ZS Tryz.func119 (by decide)
theorem ZF120:ZQ 120 Tryz.f120:=ZS Tryz.func120 (by decide)
theorem ZF121:ZQ 121 Tryz.f121:=ZS Tryz.func121 (by decide)
@[simp] theorem ZC121:ZO 121:=Tz.ak ZF121 rfl (by decide)
theorem ZF122:ZQ 122 Tryz.f122:=ZS Tryz.func122 (by decide)
@[simp] theorem ZC122:ZO 122:=Tz.ak ZF122 rfl (by decide)
theorem ZF123:ZQ 123 Tryz.f123:=ZS Tryz.func123 (by decide)
@[simp] theorem ZC123:ZO 123:=Tz.ak ZF123 rfl (by decide)
theorem ZF124:ZQ 124 Tryz.f124:=ZS Tryz.func124 (by decide)
@[simp] theorem ZC124:ZO 124:=Tz.ak ZF124 rfl (by decide)
theorem ZF125:ZQ 125 Tryz.f125:=ZS Tryz.func125 (by decide)
theorem ZF126:ZQ 126 Tryz.f126:=ZS Tryz.func126 (by decide)
@[simp] theorem ZC126:ZO 126:=Tz.ak ZF126 rfl (by decide)
theorem ZF127:ZQ 127 Tryz.f127:=ZS Tryz.func127 (by decide)
@[simp] theorem ZC127:ZO 127:=Tz.ak ZF127 rfl (by decide)
theorem ZF128:ZQ 128 Tryz.f128:=ZS Tryz.func128 (by decide)
@[simp] theorem ZC128:ZO 128:=Tz.ak ZF128 rfl (by decide)
theorem ZF129:ZQ 129 Tryz.f129:=ZS Tryz.func129 (by decide)
@[simp] theorem ZC129:ZO 129:=Tz.ak ZF129 rfl (by decide)
theorem ZF130:ZQ 130 Tryz.f130:=ZS Tryz.func130 (by decide)
theorem ZF131:ZQ 131 Tryz.f131:=ZS Tryz.func131 (by decide)
theorem ZF132:ZQ 132 Tryz.f132:=ZS Tryz.func132 (by decide)
theorem ZF133:ZQ 133 Tryz.f133:=ZS Tryz.func133 (by decide)
theorem ZF134:ZQ 134 Tryz.f134:=ZS Tryz.func134 (by decide)
theorem ZF135:ZQ 135 Tryz.f135:=ZS Tryz.func135 (by decide)
theorem ZF136:ZQ 136 Tryz.f136:=ZS Tryz.func136 (by decide)
@[simp] theorem ZC136:ZO 136:=Tz.ak ZF136 rfl (by decide)
theorem ZF137:ZQ 137 Tryz.f137:=ZS Tryz.func137 (by decide)
@[simp] theorem ZC137:ZO 137:=Tz.ak ZF137 rfl (by decide)
theorem ZF138:ZQ 138 Tryz.f138:=ZS Tryz.func138 (by decide)
theorem ZF155:ZQ 155 Tryz.f155:=ZS Tryz.func155 (by decide)
@[simp] theorem ZC155:ZO 155:=Tz.ak ZF155 rfl (by decide)
theorem ZF156:ZQ 156 Tryz.f156:=ZS Tryz.func156 (by decide)
@[simp] theorem ZC156:ZO 156:=Tz.ak ZF156 rfl (by decide)
theorem ZF157:ZQ 157 Tryz.f157:=ZS Tryz.func157 (by decide)
@[simp] theorem ZC157:ZO 157:=Tz.ak ZF157 rfl (by decide)
theorem ZF158:ZQ 158 Tryz.f158:=ZS Tryz.func158 (by decide)
@[simp] theorem ZC158:ZO 158:=Tz.ak ZF158 rfl (by decide)
theorem ZF159:ZQ 159 Tryz.f159:=ZS Tryz.func159 (by decide)
@[simp] theorem ZC159:ZO 159:=Tz.ak ZF159 rfl (by decide)
theorem ZF160:ZQ 160 Tryz.f160:=ZS Tryz.func160 (by decide)
@[simp] theorem ZC160:ZO 160:=Tz.ak ZF160 rfl (by decide)
theorem ZF161:ZQ 161 Tryz.f161:=ZS Tryz.func161 (by decide)
@[simp] theorem ZC161:ZO 161:=Tz.ak ZF161 rfl (by decide)
theorem ZF162:ZQ 162 Tryz.f162:=ZS Tryz.func162 (by decide)
@[simp] theorem ZC162:ZO 162:=Tz.ak ZF162 rfl (by decide)
end Go.Proofs
