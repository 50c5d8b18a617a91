/- A part. Conditions: none. -/
import Derived.Test.YtboiakcocelkmaaGreatDoorT07
import Derived.Test.YtboiakcocelkmaaGreatDoorProg
import Derived.WalkKit
set_option linter.all false
namespace Go.Proofs
def Tz.stub:Code:=.seq (.region 0 #[{dst:=some 0,op:=.assign (.const (.bool true)),type:=4,pos:= "",after:=#[],guard:=none}] false) .ret
noncomputable def Tz.f6:Func:={Tryz.f6 with body:=some Tz.stub}
def Tz.cut (t:Code):Code->Code
 |.seq x1 (.seq x2 (.seq x3 (.seq x4 _)))=>.seq x1 (.seq x2 (.seq x3 (.seq x4 t)))
 |c=>c
noncomputable def Tz.f39:Func:={Tryz.f39 with body:=some (Tz.cut (.refuse "") ((Tryz.f39.body).getD .skip))}
noncomputable def Tz.funcs:Array Func:=(Tryz.funcs.setIfInBounds 6 Tz.f6).setIfInBounds 39 Tz.f39
noncomputable def ZP:Program:={Tryz.prog with funcs:=Tz.funcs}
theorem Tz.nr:ZP.funcs=Tz.funcs:=by simp only[ZP]
theorem Tz.size:Tryz.funcs.size=180:=by kernel_rfl
theorem Tz.same (i:Nat) (h:6≠i/\39≠i):ZP.funcs[i]?=Tryz.prog.funcs[i]?:=by
 have e2:Tryz.prog.funcs=Tryz.funcs:=by simp only[Tryz.prog]
 rw[Tz.nr,e2];unfold Tz.funcs;rw[Array.getElem?_setIfInBounds_ne h.2];exact Array.getElem?_setIfInBounds_ne h.1
abbrev ZO (n:Nat):Prop:=∀(args:Array Value) (w:World),Sem.run ZP (Go.callFunc n args) w=.ok (.enter n args) w
abbrev ZQ (n:Nat) (f:Func):Prop:=ZP.funcs[n]?=some f
theorem ZS {n:Nat} {f:Func} (h:Tryz.prog.funcs[n]?=some f) (k:6≠n/\39≠n):ZQ n f:=(Tz.same n k).trans h
theorem ZF6:ZP.funcs[6]?=some Tz.f6:=by
 rw[Tz.nr];unfold Tz.funcs;rw[Array.getElem?_setIfInBounds_ne (by decide),Array.getElem?_setIfInBounds];simp[Tz.size]
theorem ZF39:ZP.funcs[39]?=some Tz.f39:=by
 rw[Tz.nr];unfold Tz.funcs;rw[Array.getElem?_setIfInBounds];simp[Tz.size]
theorem Tz.ntmps6:Tz.f6.ntmps=288:=Tryz.ntmps6
section
variable (P:Program) (F:Array Func)
theorem DJ (t:TypeId):({P with funcs:=F}:Program).underlying t=P.underlying t:=rfl
theorem ns (t:TypeId) (w:World):Sem.run {P with funcs:=F} (Go.underlying t) w=Sem.run P (Go.underlying t) w:=by
 unfold Go.underlying;show Sem.run _ ((match P.underlying t with|some d=>pure d|none=>stuck "no such type"):Sem TypeDesc) w=Sem.run _ ((match P.underlying t with|some d=>pure d|none=>stuck "no such type"):Sem TypeDesc) w;cases P.underlying t<;>rfl
theorem py (t:TypeId) (w:World):Sem.run {P with funcs:=F} (Go.typeInfo t) w=Sem.run P (Go.typeInfo t) w:=by
 unfold Go.typeInfo;show Sem.run _ ((match P.info? t with|some d=>pure d|none=>stuck "no such type"):Sem TypeInfo) w=Sem.run _ ((match P.info? t with|some d=>pure d|none=>stuck "no such type"):Sem TypeInfo) w;cases P.info? t<;>rfl
theorem xW (t:TypeId) (w:World):Sem.run {P with funcs:=F} (Go.sizeOf t) w=Sem.run P (Go.sizeOf t) w:=by
 unfold Go.sizeOf;simp only[Sem.run_bind,py];cases Sem.run P (Go.typeInfo t) w<;>rfl
theorem Ay (t:TypeId) (w:World):Sem.run {P with funcs:=F} (Go.isAgg t) w=Sem.run P (Go.isAgg t) w:=by
 unfold Go.isAgg;simp only[Sem.run_bind,ns];cases Sem.run P (Go.underlying t) w with
 |ok d w1=>cases d<;>simp only[Result.andThen,Sem.run_pure]
 |halt h w1=>simp only[Result.andThen]
theorem xX (t:TypeId) (w:World):Sem.run {P with funcs:=F} (Go.zeroValue t) w=Sem.run P (Go.zeroValue t) w:=by
 unfold Go.zeroValue;simp only[Sem.run_bind,py];cases Sem.run P (Go.typeInfo t) w with
 |ok d w1=>cases hz:d.zero<;>simp[Result.andThen,hz,Go.unsupported,Sem.run]
 |halt h w1=>simp only[Result.andThen]
end
@[simp] theorem Tz.under (t:TypeId):ZP.underlying t=Tryz.prog.underlying t:=DJ Tryz.prog Tz.funcs t
@[simp] theorem Tz.stood (t:TypeId):ZP.stoodInHeld t=Tryz.prog.stoodInHeld t:=au.iW Tryz.prog Tz.funcs t
@[simp] theorem Tz.Si (t:TypeId) (w:World):Sem.run ZP (Go.underlying t) w=Sem.run Tryz.prog (Go.underlying t) w:=ns Tryz.prog Tz.funcs t w
@[simp] theorem Tz.bS (t:TypeId) (w:World):Sem.run ZP (Go.zeroValue t) w=Sem.run Tryz.prog (Go.zeroValue t) w:=xX Tryz.prog Tz.funcs t w
@[simp] theorem Tz.bT (t:TypeId) (w:World):Sem.run ZP (Go.sizeOf t) w=Sem.run Tryz.prog (Go.sizeOf t) w:=xW Tryz.prog Tz.funcs t w
@[simp] theorem Tz.da (t:TypeId) (w:World):Sem.run ZP (Go.isAgg t) w=Sem.run Tryz.prog (Go.isAgg t) w:=Ay Tryz.prog Tz.funcs t w
theorem Tz.am {f:FuncId} {fn:Func} (h:ZP.funcs[f]? =some fn) (hb:fn.body.isSome=true) (hn:fn.name≠ "runtime.NumGoroutine") (args:Array Value) (w:World):Sem.run ZP (Go.callFunc f args) w=.ok (.enter f args) w:=by
 cases hc:fn.body with
 |none=>rw[hc]at hb;cases hb
 |some c=>
  unfold Go.callFunc;simp[Go.program,Sem.run,h,hc,hn]
theorem ZF4:ZQ 4 Tryz.f4:=ZS Tryz.func4 (by decide)
theorem ZF5:ZQ 5 Tryz.f5:=ZS Tryz.func5 (by decide)
@[simp] theorem ZC5:ZO 5:=Tz.am ZF5 rfl (by decide)
@[simp] theorem ZC6:ZO 6:=Tz.am ZF6 rfl (by decide)
theorem ZF11:ZQ 11 Tryz.f11:=ZS Tryz.func11 (by decide)
@[simp] theorem ZC11:ZO 11:=Tz.am ZF11 rfl (by decide)
theorem ZF18:ZQ 18 Tryz.f18:=ZS Tryz.func18 (by decide)
@[simp] theorem ZC18:ZO 18:=Tz.am ZF18 rfl (by decide)
theorem ZF19:ZQ 19 Tryz.f19:=ZS Tryz.func19 (by decide)
@[simp] theorem ZC19:ZO 19:=Tz.am ZF19 rfl (by decide)
theorem ZF20:ZQ 20 Tryz.f20:=ZS Tryz.func20 (by decide)
@[simp] theorem ZC20:ZO 20:=Tz.am ZF20 rfl (by decide)
theorem ZF21:ZQ 21 Tryz.f21:=ZS Tryz.func21 (by decide)
@[simp] theorem ZC21:ZO 21:=Tz.am ZF21 rfl (by decide)
theorem ZF22:ZQ 22 Tryz.f22:=ZS Tryz.func22 (by decide)
@[simp] theorem ZC22:ZO 22:=Tz.am ZF22 rfl (by decide)
theorem ZF23:ZQ 23 Tryz.f23:=ZS Tryz.func23 (by decide)
@[simp] theorem ZC23:ZO 23:=Tz.am ZF23 rfl (by decide)
theorem ZF24:ZQ 24 Tryz.f24:=ZS Tryz.func24 (by decide)
@[simp] theorem ZC24:ZO 24:=Tz.am ZF24 rfl (by decide)
theorem ZF25:ZQ 25 Tryz.f25:=ZS Tryz.func25 (by decide)
@[simp] theorem ZC25:ZO 25:=Tz.am ZF25 rfl (by decide)
theorem ZF26:ZQ 26 Tryz.f26:=ZS Tryz.func26 (by decide)
@[simp] theorem ZC26:ZO 26:=Tz.am ZF26 rfl (by decide)
theorem ZF27:ZQ 27 Tryz.f27:=ZS Tryz.func27 (by decide)
@[simp] theorem ZC27:ZO 27:=Tz.am ZF27 rfl (by decide)
theorem ZF28:ZQ 28 Tryz.f28:=ZS Tryz.func28 (by decide)
@[simp] theorem ZC28:ZO 28:=Tz.am ZF28 rfl (by decide)
theorem ZF29:ZQ 29 Tryz.f29:=ZS Tryz.func29 (by decide)
@[simp] theorem ZC29:ZO 29:=Tz.am ZF29 rfl (by decide)
theorem ZF47:ZQ 47 Tryz.f47:=ZS Tryz.func47 (by decide)
@[simp] theorem ZC47:ZO 47:=Tz.am ZF47 rfl (by decide)
theorem ZF48:ZQ 48 Tryz.f48:=ZS Tryz.func48 (by decide)
@[simp] theorem ZC48:ZO 48:=Tz.am ZF48 rfl (by decide)
theorem ZF51:ZQ 51 Tryz.f51:=ZS Tryz.func51 (by decide)
@[simp] theorem ZC51:ZO 51:=Tz.am ZF51 rfl (by decide)
theorem ZF53:ZQ 53 Tryz.f53:=ZS Tryz.func53 (by decide)
@[simp] theorem ZC53:ZO 53:=Tz.am ZF53 rfl (by decide)
theorem ZF55:ZQ 55 Tryz.f55:=ZS Tryz.func55 (by decide)
@[simp] theorem ZC55:ZO 55:=Tz.am ZF55 rfl (by decide)
theorem ZF56:ZQ 56 Tryz.f56:=ZS Tryz.func56 (by decide)
@[simp] theorem ZC56:ZO 56:=Tz.am ZF56 rfl (by decide)
theorem ZF66:ZQ 66 Tryz.f66:=ZS Tryz.func66 (by decide)
@[simp] theorem ZC66:ZO 66:=Tz.am ZF66 rfl (by decide)
theorem ZF67:ZQ 67 Tryz.f67:=ZS Tryz.func67 (by decide)
@[simp] theorem ZC67:ZO 67:=Tz.am ZF67 rfl (by decide)
theorem ZF68:ZQ 68 Tryz.f68:=ZS Tryz.func68 (by decide)
@[simp] theorem ZC68:ZO 68:=Tz.am ZF68 rfl (by decide)
theorem ZF69:ZQ 69 Tryz.f69:=ZS Tryz.func69 (by decide)
@[simp] theorem ZC69:ZO 69:=Tz.am ZF69 rfl (by decide)
theorem ZF70:ZQ 70 Tryz.f70:=ZS Tryz.func70 (by decide)
@[simp] theorem ZC70:ZO 70:=Tz.am ZF70 rfl (by decide)
theorem ZF71:ZQ 71 Tryz.f71:=ZS Tryz.func71 (by decide)
@[simp] theorem ZC71:ZO 71:=Tz.am ZF71 rfl (by decide)
theorem ZF72:ZQ 72 Tryz.f72:=ZS Tryz.func72 (by decide)
@[simp] theorem ZC72:ZO 72:=Tz.am ZF72 rfl (by decide)
theorem ZF73:ZQ 73 Tryz.f73:=ZS Tryz.func73 (by decide)
@[simp] theorem ZC73:ZO 73:=Tz.am ZF73 rfl (by decide)
theorem ZF74:ZQ 74 Tryz.f74:=ZS Tryz.func74 (by decide)
@[simp] theorem ZC74:ZO 74:=Tz.am ZF74 rfl (by decide)
theorem ZF75:ZQ 75 Tryz.f75:=ZS Tryz.func75 (by decide)
@[simp] theorem ZC75:ZO 75:=Tz.am ZF75 rfl (by decide)
theorem ZF76:ZQ 76 Tryz.f76:=ZS Tryz.func76 (by decide)
@[simp] theorem ZC76:ZO 76:=Tz.am ZF76 rfl (by decide)
theorem ZF77:ZQ 77 Tryz.f77:=ZS Tryz.func77 (by decide)
@[simp] theorem ZC77:ZO 77:=Tz.am ZF77 rfl (by decide)
theorem ZF78:ZQ 78 Tryz.f78:=ZS Tryz.func78 (by decide)
@[simp] theorem ZC78:ZO 78:=Tz.am ZF78 rfl (by decide)
theorem ZF79:ZQ 79 Tryz.f79:=ZS Tryz.func79 (by decide)
@[simp] theorem ZC79:ZO 79:=Tz.am ZF79 rfl (by decide)
theorem ZF80:ZQ 80 Tryz.f80:=ZS Tryz.func80 (by decide)
@[simp] theorem ZC80:ZO 80:=Tz.am ZF80 rfl (by decide)
theorem ZF81:ZQ 81 Tryz.f81:=ZS Tryz.func81 (by decide)
@[simp] theorem ZC81:ZO 81:=Tz.am ZF81 rfl (by decide)
theorem ZF82:ZQ 82 Tryz.f82:=ZS Tryz.func82 (by decide)
@[simp] theorem ZC82:ZO 82:=Tz.am ZF82 rfl (by decide)
theorem ZF83:ZQ 83 Tryz.f83:=ZS Tryz.func83 (by decide)
@[simp] theorem ZC83:ZO 83:=Tz.am ZF83 rfl (by decide)
theorem ZF84:ZQ 84 Tryz.f84:=ZS Tryz.func84 (by decide)
@[simp] theorem ZC84:ZO 84:=Tz.am ZF84 rfl (by decide)
theorem ZF85:ZQ 85 Tryz.f85:=ZS Tryz.func85 (by decide)
@[simp] theorem ZC85:ZO 85:=Tz.am ZF85 rfl (by decide)
theorem ZF88:ZQ 88 Tryz.f88:=ZS Tryz.func88 (by decide)
@[simp] theorem ZC88:ZO 88:=Tz.am ZF88 rfl (by decide)
theorem ZF91:ZQ 91 Tryz.f91:=ZS Tryz.func91 (by decide)
@[simp] theorem ZC91:ZO 91:=Tz.am ZF91 rfl (by decide)
theorem ZF94:ZQ 94 Tryz.f94:=ZS Tryz.func94 (by decide)
@[simp] theorem ZC94:ZO 94:=Tz.am ZF94 rfl (by decide)
theorem ZF102:ZQ 102 Tryz.f102:=ZS Tryz.func102 (by decide)
theorem ZF103:ZQ 103 Tryz.f103:=ZS Tryz.func103 (by decide)
theorem ZF104:ZQ 104 Tryz.f104:=ZS Tryz.func104 (by decide)
@[simp] theorem ZC104:ZO 104:=Tz.am ZF104 rfl (by decide)
theorem ZF105:ZQ 105 Tryz.f105:=ZS Tryz.func105 (by decide)
@[simp] theorem ZC105:ZO 105:=Tz.am ZF105 rfl (by decide)
theorem ZF106:ZQ 106 Tryz.f106:=ZS Tryz.func106 (by decide)
@[simp] theorem ZC106:ZO 106:=Tz.am ZF106 rfl (by decide)
theorem ZF108:ZQ 108 Tryz.f108:=ZS Tryz.func108 (by decide)
@[simp] theorem ZC108:ZO 108:=Tz.am ZF108 rfl (by decide)
theorem ZF109:ZQ 109 Tryz.f109:=ZS Tryz.func109 (by decide)
@[simp] theorem ZC109:ZO 109:=Tz.am ZF109 rfl (by decide)
theorem ZF111:ZQ 111 Tryz.f111:=ZS Tryz.func111 (by decide)
@[simp] theorem ZC111:ZO 111:=Tz.am ZF111 rfl (by decide)
theorem ZF112:ZQ 112 Tryz.f112:=ZS Tryz.func112 (by decide)
@[simp] theorem ZC112:ZO 112:=Tz.am ZF112 rfl (by decide)
theorem ZF113:ZQ 113 Tryz.f113:=ZS Tryz.func113 (by decide)
@[simp] theorem ZC113:ZO 113:=Tz.am ZF113 rfl (by decide)
theorem ZF114:ZQ 114 Tryz.f114:=ZS Tryz.func114 (by decide)
@[simp] theorem ZC114:ZO 114:=Tz.am ZF114 rfl (by decide)
theorem ZF115:ZQ 115 Tryz.f115:=ZS Tryz.func115 (by decide)
@[simp] theorem ZC115:ZO 115:=Tz.am ZF115 rfl (by decide)
theorem ZF116:ZQ 116 Tryz.f116:=ZS Tryz.func116 (by decide)
@[simp] theorem ZC116:ZO 116:=Tz.am ZF116 rfl (by decide)
theorem ZF117:ZQ 117 Tryz.f117:=ZS Tryz.func117 (by decide)
@[simp] theorem ZC117:ZO 117:=Tz.am ZF117 rfl (by decide)
theorem ZF118:ZQ 118 Tryz.f118:=ZS Tryz.func118 (by decide)
@[simp] theorem ZC118:ZO 118:=Tz.am ZF118 rfl (by decide)
theorem ZF123:ZQ 123 Tryz.f123:=ZS Tryz.func123 (by decide)
theorem ZF124:ZQ 124 Tryz.f124:=ZS Tryz.func124 (by decide)
theorem ZF125:ZQ 125 Tryz.f125:=ZS Tryz.func125 (by decide)
theorem ZF126:ZQ 126 Tryz.f126:=ZS Tryz.func126 (by decide)
theorem ZF127:ZQ 127 Tryz.f127:=ZS Tryz.func127 (by decide)
theorem ZF128:ZQ 128 Tryz.f128:=ZS Tryz.func128 (by decide)
theorem ZF129:ZQ 129 Tryz.f129:=ZS Tryz.func129 (by decide)
theorem ZF130:ZQ 130 Tryz.f130:=ZS Tryz.func130 (by decide)
theorem ZF131:ZQ 131 Tryz.f131:=ZS Tryz.func131 (by decide)
theorem ZF132:ZQ 132 Tryz.f132:=ZS Tryz.func132 (by decide)
theorem ZF133:ZQ 133 Tryz.f133:=ZS Tryz.func133 (by decide)
theorem ZF134:ZQ 134 Tryz.f134:=ZS Tryz.func134 (by decide)
@[simp] theorem ZC134:ZO 134:=Tz.am ZF134 rfl (by decide)
theorem ZF135:ZQ 135 Tryz.f135:=ZS Tryz.func135 (by decide)
@[simp] theorem ZC135:ZO 135:=Tz.am ZF135 rfl (by decide)
theorem ZF136:ZQ 136 Tryz.f136:=ZS Tryz.func136 (by decide)
@[simp] theorem ZC136:ZO 136:=Tz.am ZF136 rfl (by decide)
theorem ZF137:ZQ 137 Tryz.f137:=ZS Tryz.func137 (by decide)
@[simp] theorem ZC137:ZO 137:=Tz.am ZF137 rfl (by decide)
theorem ZF138:ZQ 138 Tryz.f138:=ZS Tryz.func138 (by decide)
theorem ZF139:ZQ 139 Tryz.f139:=ZS Tryz.func139 (by decide)
@[simp] theorem ZC139:ZO 139:=Tz.am ZF139 rfl (by decide)
theorem ZF140:ZQ 140 Tryz.f140:=ZS Tryz.func140 (by decide)
@[simp] theorem ZC140:ZO 140:=Tz.am ZF140 rfl (by decide)
theorem ZF143:ZQ 143 Tryz.f143:=ZS Tryz.func143 (by decide)
theorem ZF144:ZQ 144 Tryz.f144:=ZS Tryz.func144 (by decide)
theorem ZF145:ZQ 145 Tryz.f145:=ZS Tryz.func145 (by decide)
theorem ZF146:ZQ 146 Tryz.f146:=ZS Tryz.func146 (by decide)
theorem ZF147:ZQ 147 Tryz.f147:=ZS Tryz.func147 (by decide)
theorem ZF148:ZQ 148 Tryz.f148:=ZS Tryz.func148 (by decide)
@[simp] theorem ZC148:ZO 148:=Tz.am ZF148 rfl (by decide)
theorem ZF149:ZQ 149 Tryz.f149:=ZS Tryz.func149 (by decide)
@[simp] theorem ZC149:ZO 149:=Tz.am ZF149 rfl (by decide)
theorem ZF151:ZQ 151 Tryz.f151:=ZS Tryz.func151 (by decide)
theorem ZF168:ZQ 168 Tryz.f168:=ZS Tryz.func168 (by decide)
@[simp] theorem ZC168:ZO 168:=Tz.am ZF168 rfl (by decide)
theorem ZF169:ZQ 169 Tryz.f169:=ZS Tryz.func169 (by decide)
@[simp] theorem ZC169:ZO 169:=Tz.am ZF169 rfl (by decide)
theorem ZF170:ZQ 170 Tryz.f170:=ZS Tryz.func170 (by decide)
@[simp] theorem ZC170:ZO 170:=Tz.am ZF170 rfl (by decide)
theorem ZF171:ZQ 171 Tryz.f171:=ZS Tryz.func171 (by decide)
@[simp] theorem ZC171:ZO 171:=Tz.am ZF171 rfl (by decide)
theorem ZF172:ZQ 172 Tryz.f172:=ZS Tryz.func172 (by decide)
@[simp] theorem ZC172:ZO 172:=Tz.am ZF172 rfl (by decide)
theorem ZF173:ZQ 173 Tryz.f173:=ZS Tryz.func173 (by decide)
@[simp] theorem ZC173:ZO 173:=Tz.am ZF173 rfl (by decide)
theorem ZF174:ZQ 174 Tryz.f174:=ZS Tryz.func174 (by decide)
@[simp] theorem ZC174:ZO 174:=Tz.am ZF174 rfl (by decide)
theorem ZF175:ZQ 175 Tryz.f175:=ZS Tryz.func175 (by decide)
@[simp] theorem ZC175:ZO 175:=Tz.am ZF175 rfl (by decide)
end Go.Proofs
