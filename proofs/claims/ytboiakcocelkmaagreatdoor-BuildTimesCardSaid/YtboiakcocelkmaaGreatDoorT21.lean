/- A part. Conditions: none. -/
import Derived.Test.YtboiakcocelkmaaGreatDoorT07
import Derived.Test.YtboiakcocelkmaaGreatDoorProg
import Derived.WalkKit
set_option linter.all false
namespace Go.Proofs
def Tz.stub:Code:=.seq (.region 0 #[{dst:=some 0,op:=.assign (.const (.bool true)),type:=4,pos:= "",after:=#[],guard:=none}] false) .ret
noncomputable def Tz.f6:Func:={Tryz.f6 with body:=some Tz.stub}
def Tz.cut (t:Code):Code->Code
 |.seq x1 (.seq x2 (.seq x3 (.seq x4 _)))=>.seq x1 (.seq x2 (.seq x3 (.seq x4 t)))
 |c=>c
noncomputable def Tz.f39:Func:={Tryz.f39 with body:=some (Tz.cut (.refuse "") ((Tryz.f39.body).getD .skip))}
noncomputable def Tz.funcs:Array Func:=(Tryz.funcs.setIfInBounds 6 Tz.f6).setIfInBounds 39 Tz.f39
noncomputable def ZP:Program:={Tryz.prog with funcs:=Tz.funcs}
theorem Tz.nU:ZP.funcs=Tz.funcs:=by simp only[ZP]
theorem Tz.size:Tryz.funcs.size=180:=by kernel_rfl
theorem Tz.same (i:Nat) (h:6≠i/\39≠i):ZP.funcs[i]?=Tryz.prog.funcs[i]?:=by
 have e2:Tryz.prog.funcs=Tryz.funcs:=by simp only[Tryz.prog]
 rw[Tz.nU,e2];unfold Tz.funcs;rw[Array.getElem?_setIfInBounds_ne h.2];exact Array.getElem?_setIfInBounds_ne h.1
abbrev ZO (n:Nat):Prop:=∀(args:Array Value) (w:World),Sem.run ZP (Go.callFunc n args) w=.ok (.enter n args) w
abbrev ZQ (n:Nat) (f:Func):Prop:=ZP.funcs[n]?=some f
theorem ZS {n:Nat} {f:Func} (h:Tryz.prog.funcs[n]?=some f) (k:6≠n/\39≠n):ZQ n f:=(Tz.same n k).trans h
theorem ZF6:ZP.funcs[6]?=some Tz.f6:=by
 rw[Tz.nU];unfold Tz.funcs;rw[Array.getElem?_setIfInBounds_ne (by decide),Array.getElem?_setIfInBounds];simp[Tz.size]
theorem ZF39:ZP.funcs[39]?=some Tz.f39:=by
 rw[Tz.nU];unfold Tz.funcs;rw[Array.getElem?_setIfInBounds];simp[Tz.size]
theorem Tz.ntmps6:Tz.f6.ntmps=288:=Tryz.ntmps6
section
variable (P:Program) (F:Array Func)
theorem FC (t:TypeId):({P with funcs:=F}:Program).underlying t=P.underlying t:=rfl
theorem nV (t:TypeId) (w:World):Sem.run {P with funcs:=F} (Go.underlying t) w=Sem.run P (Go.underlying t) w:=by
 unfold Go.underlying;show Sem.run _ ((match P.underlying t with|some d=>pure d|none=>stuck "no such type"):Sem TypeDesc) w=Sem.run _ ((match P.underlying t with|some d=>pure d|none=>stuck "no such type"):Sem TypeDesc) w;cases P.underlying t<;>rfl
theorem pX (t:TypeId) (w:World):Sem.run {P with funcs:=F} (Go.typeInfo t) w=Sem.run P (Go.typeInfo t) w:=by
 unfold Go.typeInfo;show Sem.run _ ((match P.info? t with|some d=>pure d|none=>stuck "no such type"):Sem TypeInfo) w=Sem.run _ ((match P.info? t with|some d=>pure d|none=>stuck "no such type"):Sem TypeInfo) w;cases P.info? t<;>rfl
theorem zm (t:TypeId) (w:World):Sem.run {P with funcs:=F} (Go.sizeOf t) w=Sem.run P (Go.sizeOf t) w:=by
 unfold Go.sizeOf;simp only[Sem.run_bind,pX];cases Sem.run P (Go.typeInfo t) w<;>rfl
theorem Cf (t:TypeId) (w:World):Sem.run {P with funcs:=F} (Go.isAgg t) w=Sem.run P (Go.isAgg t) w:=by
 unfold Go.isAgg;simp only[Sem.run_bind,nV];cases Sem.run P (Go.underlying t) w with
 |ok d w1=>cases d<;>simp only[Result.andThen,Sem.run_pure]
 |halt h w1=>simp only[Result.andThen]
theorem zn (t:TypeId) (w:World):Sem.run {P with funcs:=F} (Go.zeroValue t) w=Sem.run P (Go.zeroValue t) w:=by
 unfold Go.zeroValue;simp only[Sem.run_bind,pX];cases Sem.run P (Go.typeInfo t) w with
 |ok d w1=>cases hz:d.zero<;>simp[Result.andThen,hz,Go.unsupported,Sem.run]
 |halt h w1=>simp only[Result.andThen]
end
@[simp] theorem Tz.under (t:TypeId):ZP.underlying t=Tryz.prog.underlying t:=FC Tryz.prog Tz.funcs t
@[simp] theorem Tz.stood (t:TypeId):ZP.stoodInHeld t=Tryz.prog.stoodInHeld t:=aA.jt Tryz.prog Tz.funcs t
@[simp] theorem Tz.U5 (t:TypeId) (w:World):Sem.run ZP (Go.underlying t) w=Sem.run Tryz.prog (Go.underlying t) w:=nV Tryz.prog Tz.funcs t w
@[simp] theorem Tz.cr (t:TypeId) (w:World):Sem.run ZP (Go.zeroValue t) w=Sem.run Tryz.prog (Go.zeroValue t) w:=zn Tryz.prog Tz.funcs t w
@[simp] theorem Tz.cu (t:TypeId) (w:World):Sem.run ZP (Go.sizeOf t) w=Sem.run Tryz.prog (Go.sizeOf t) w:=zm Tryz.prog Tz.funcs t w
@[simp] theorem Tz.dk (t:TypeId) (w:World):Sem.run ZP (Go.isAgg t) w=Sem.run Tryz.prog (Go.isAgg t) w:=Cf Tryz.prog Tz.funcs t w
theorem Tz.ap {f:FuncId} {fn:Func} (h:ZP.funcs[f]? =some fn) (hb:fn.body.isSome=true) (hn:fn.name≠ "runtime.NumGoroutine") (args:Array Value) (w:World):Sem.run ZP (Go.callFunc f args) w=.ok (.enter f args) w:=by
 cases hc:fn.body with
 |none=>rw[hc]at hb;cases hb
 |some c=>
  unfold Go.callFunc;simp[Go.program,Sem.run,h,hc,hn]
theorem ZF3:ZQ 3 Tryz.f3:=ZS Tryz.func3 (by decide)
theorem ZF5:ZQ 5 Tryz.f5:=ZS Tryz.func5 (by decide)
@[simp] theorem ZC5:ZO 5:=Tz.ap ZF5 rfl (by decide)
@[simp] theorem ZC6:ZO 6:=Tz.ap ZF6 rfl (by decide)
theorem ZF7:ZQ 7 Tryz.f7:=ZS Tryz.func7 (by decide)
@[simp] theorem ZC7:ZO 7:=Tz.ap ZF7 rfl (by decide)
theorem ZF8:ZQ 8 Tryz.f8:=ZS Tryz.func8 (by decide)
@[simp] theorem ZC8:ZO 8:=Tz.ap ZF8 rfl (by decide)
theorem ZF9:ZQ 9 Tryz.f9:=ZS Tryz.func9 (by decide)
@[simp] theorem ZC9:ZO 9:=Tz.ap ZF9 rfl (by decide)
theorem ZF10:ZQ 10 Tryz.f10:=ZS Tryz.func10 (by decide)
@[simp] theorem ZC10:ZO 10:=Tz.ap ZF10 rfl (by decide)
theorem ZF11:ZQ 11 Tryz.f11:=ZS Tryz.func11 (by decide)
@[simp] theorem ZC11:ZO 11:=Tz.ap ZF11 rfl (by decide)
theorem ZF12:ZQ 12 Tryz.f12:=ZS Tryz.func12 (by decide)
@[simp] theorem ZC12:ZO 12:=Tz.ap ZF12 rfl (by decide)
theorem ZF13:ZQ 13 Tryz.f13:=ZS Tryz.func13 (by decide)
@[simp] theorem ZC13:ZO 13:=Tz.ap ZF13 rfl (by decide)
theorem ZF14:ZQ 14 Tryz.f14:=ZS Tryz.func14 (by decide)
@[simp] theorem ZC14:ZO 14:=Tz.ap ZF14 rfl (by decide)
theorem ZF15:ZQ 15 Tryz.f15:=ZS Tryz.func15 (by decide)
@[simp] theorem ZC15:ZO 15:=Tz.ap ZF15 rfl (by decide)
theorem ZF16:ZQ 16 Tryz.f16:=ZS Tryz.func16 (by decide)
@[simp] theorem ZC16:ZO 16:=Tz.ap ZF16 rfl (by decide)
theorem ZF17:ZQ 17 Tryz.f17:=ZS Tryz.func17 (by decide)
@[simp] theorem ZC17:ZO 17:=Tz.ap ZF17 rfl (by decide)
theorem ZF20:ZQ 20 Tryz.f20:=ZS Tryz.func20 (by decide)
@[simp] theorem ZC20:ZO 20:=Tz.ap ZF20 rfl (by decide)
theorem ZF21:ZQ 21 Tryz.f21:=ZS Tryz.func21 (by decide)
@[simp] theorem ZC21:ZO 21:=Tz.ap ZF21 rfl (by decide)
theorem ZF43:ZQ 43 Tryz.f43:=ZS Tryz.func43 (by decide)
@[simp] theorem ZC43:ZO 43:=Tz.ap ZF43 rfl (by decide)
theorem ZF44:ZQ 44 Tryz.f44:=ZS Tryz.func44 (by decide)
@[simp] theorem ZC44:ZO 44:=Tz.ap ZF44 rfl (by decide)
theorem ZF45:ZQ 45 Tryz.f45:=ZS Tryz.func45 (by decide)
@[simp] theorem ZC45:ZO 45:=Tz.ap ZF45 rfl (by decide)
theorem ZF46:ZQ 46 Tryz.f46:=ZS Tryz.func46 (by decide)
@[simp] theorem ZC46:ZO 46:=Tz.ap ZF46 rfl (by decide)
theorem ZF47:ZQ 47 Tryz.f47:=ZS Tryz.func47 (by decide)
@[simp] theorem ZC47:ZO 47:=Tz.ap ZF47 rfl (by decide)
theorem ZF48:ZQ 48 Tryz.f48:=ZS Tryz.func48 (by decide)
@[simp] theorem ZC48:ZO 48:=Tz.ap ZF48 rfl (by decide)
theorem ZF49:ZQ 49 Tryz.f49:=ZS Tryz.func49 (by decide)
@[simp] theorem ZC49:ZO 49:=Tz.ap ZF49 rfl (by decide)
theorem ZF50:ZQ 50 Tryz.f50:=ZS Tryz.func50 (by decide)
@[simp] theorem ZC50:ZO 50:=Tz.ap ZF50 rfl (by decide)
theorem ZF51:ZQ 51 Tryz.f51:=ZS Tryz.func51 (by decide)
@[simp] theorem ZC51:ZO 51:=Tz.ap ZF51 rfl (by decide)
theorem ZF52:ZQ 52 Tryz.f52:=ZS Tryz.func52 (by decide)
@[simp] theorem ZC52:ZO 52:=Tz.ap ZF52 rfl (by decide)
theorem ZF53:ZQ 53 Tryz.f53:=ZS Tryz.func53 (by decide)
@[simp] theorem ZC53:ZO 53:=Tz.ap ZF53 rfl (by decide)
theorem ZF54:ZQ 54 Tryz.f54:=ZS Tryz.func54 (by decide)
@[simp] theorem ZC54:ZO 54:=Tz.ap ZF54 rfl (by decide)
theorem ZF55:ZQ 55 Tryz.f55:=ZS Tryz.func55 (by decide)
@[simp] theorem ZC55:ZO 55:=Tz.ap ZF55 rfl (by decide)
theorem ZF56:ZQ 56 Tryz.f56:=ZS Tryz.func56 (by decide)
@[simp] theorem ZC56:ZO 56:=Tz.ap ZF56 rfl (by decide)
theorem ZF57:ZQ 57 Tryz.f57:=ZS Tryz.func57 (by decide)
@[simp] theorem ZC57:ZO 57:=Tz.ap ZF57 rfl (by decide)
theorem ZF58:ZQ 58 Tryz.f58:=ZS Tryz.func58 (by decide)
@[simp] theorem ZC58:ZO 58:=Tz.ap ZF58 rfl (by decide)
theorem ZF59:ZQ 59 Tryz.f59:=ZS Tryz.func59 (by decide)
@[simp] theorem ZC59:ZO 59:=Tz.ap ZF59 rfl (by decide)
theorem ZF60:ZQ 60 Tryz.f60:=ZS Tryz.func60 (by decide)
@[simp] theorem ZC60:ZO 60:=Tz.ap ZF60 rfl (by decide)
theorem ZF61:ZQ 61 Tryz.f61:=ZS Tryz.func61 (by decide)
@[simp] theorem ZC61:ZO 61:=Tz.ap ZF61 rfl (by decide)
theorem ZF62:ZQ 62 Tryz.f62:=ZS Tryz.func62 (by decide)
@[simp] theorem ZC62:ZO 62:=Tz.ap ZF62 rfl (by decide)
theorem ZF63:ZQ 63 Tryz.f63:=ZS Tryz.func63 (by decide)
@[simp] theorem ZC63:ZO 63:=Tz.ap ZF63 rfl (by decide)
theorem ZF64:ZQ 64 Tryz.f64:=ZS Tryz.func64 (by decide)
@[simp] theorem ZC64:ZO 64:=Tz.ap ZF64 rfl (by decide)
theorem ZF65:ZQ 65 Tryz.f65:=ZS Tryz.func65 (by decide)
@[simp] theorem ZC65:ZO 65:=Tz.ap ZF65 rfl (by decide)
theorem ZF66:ZQ 66 Tryz.f66:=ZS Tryz.func66 (by decide)
@[simp] theorem ZC66:ZO 66:=Tz.ap ZF66 rfl (by decide)
theorem ZF67:ZQ 67 Tryz.f67:=ZS Tryz.func67 (by decide)
@[simp] theorem ZC67:ZO 67:=Tz.ap ZF67 rfl (by decide)
theorem ZF68:ZQ 68 Tryz.f68:=ZS Tryz.func68 (by decide)
@[simp] theorem ZC68:ZO 68:=Tz.ap ZF68 rfl (by decide)
theorem ZF69:ZQ 69 Tryz.f69:=ZS Tryz.func69 (by decide)
@[simp] theorem ZC69:ZO 69:=Tz.ap ZF69 rfl (by decide)
theorem ZF70:ZQ 70 Tryz.f70:=ZS Tryz.func70 (by decide)
@[simp] theorem ZC70:ZO 70:=Tz.ap ZF70 rfl (by decide)
theorem ZF71:ZQ 71 Tryz.f71:=ZS Tryz.func71 (by decide)
@[simp] theorem ZC71:ZO 71:=Tz.ap ZF71 rfl (by decide)
theorem ZF72:ZQ 72 Tryz.f72:=ZS Tryz.func72 (by decide)
@[simp] theorem ZC72:ZO 72:=Tz.ap ZF72 rfl (by decide)
theorem ZF73:ZQ 73 Tryz.f73:=ZS Tryz.func73 (by decide)
@[simp] theorem ZC73:ZO 73:=Tz.ap ZF73 rfl (by decide)
theorem ZF74:ZQ 74 Tryz.f74:=ZS Tryz.func74 (by decide)
@[simp] theorem ZC74:ZO 74:=Tz.ap ZF74 rfl (by decide)
theorem ZF91:ZQ 91 Tryz.f91:=ZS Tryz.func91 (by decide)
@[simp] theorem ZC91:ZO 91:=Tz.ap ZF91 rfl (by decide)
theorem ZF94:ZQ 94 Tryz.f94:=ZS Tryz.func94 (by decide)
@[simp] theorem ZC94:ZO 94:=Tz.ap ZF94 rfl (by decide)
theorem ZF100:ZQ 100 Tryz.f100:=ZS Tryz.func100 (by decide)
theorem ZF101:ZQ 101 Tryz.f101:=ZS Tryz.func101 (by decide)
@[simp] theorem ZC101:ZO 101:=Tz.ap ZF101 rfl (by decide)
theorem ZF102:ZQ 102 Tryz.f102:=ZS Tryz.func102 (by decide)
theorem ZF103:ZQ 103 Tryz.f103:=ZS Tryz.func103 (by decide)
theorem ZF104:ZQ 104 Tryz.f104:=ZS Tryz.func104 (by decide)
@[simp] theorem ZC104:ZO 104:=Tz.ap ZF104 rfl (by decide)
theorem ZF105:ZQ 105 Tryz.f105:=ZS Tryz.func105 (by decide)
@[simp] theorem ZC105:ZO 105:=Tz.ap ZF105 rfl (by decide)
theorem ZF106:ZQ 106 Tryz.f106:=ZS Tryz.func106 (by decide)
@[simp] theorem ZC106:ZO 106:=Tz.ap ZF106 rfl (by decide)
theorem ZF107:ZQ 107 Tryz.f107:=ZS Tryz.func107 (by decide)
@[simp] theorem ZC107:ZO 107:=Tz.ap ZF107 rfl (by decide)
theorem ZF108:ZQ 108 Tryz.f108:=ZS Tryz.func108 (by decide)
@[simp] theorem ZC108:ZO 108:=Tz.ap ZF108 rfl (by decide)
theorem ZF109:ZQ 109 Tryz.f109:=ZS Tryz.func109 (by decide)
@[simp] theorem ZC109:ZO 109:=Tz.ap ZF109 rfl (by decide)
theorem ZF110:ZQ 110 Tryz.f110:=ZS Tryz.func110 (by decide)
@[simp] theorem ZC110:ZO 110:=Tz.ap ZF110 rfl (by decide)
theorem ZF111:ZQ 111 Tryz.f111:=ZS Tryz.func111 (by decide)
@[simp] theorem ZC111:ZO 111:=Tz.ap ZF111 rfl (by decide)
theorem ZF112:ZQ 112 Tryz.f112:=ZS Tryz.func112 (by decide)
@[simp] theorem ZC112:ZO 112:=Tz.ap ZF112 rfl (by decide)
theorem ZF113:ZQ 113 Tryz.f113:=ZS Tryz.func113 (by decide)
@[simp] theorem ZC113:ZO 113:=Tz.ap ZF113 rfl (by decide)
theorem ZF118:ZQ 118 Tryz.f118:=ZS Tryz.func118 (by decide)
@[simp] theorem ZC118:ZO 118:=Tz.ap ZF118 rfl (by decide)
theorem ZF121:ZQ 121 Tryz.f121:=ZS Tryz.func121 (by decide)
@[simp] theorem ZC121:ZO 121:=Tz.ap ZF121 rfl (by decide)
theorem ZF122:ZQ 122 Tryz.f122:=ZS Tryz.func122 (by decide)
@[simp] theorem ZC122:ZO 122:=Tz.ap ZF122 rfl (by decide)
theorem ZF123:ZQ 123 Tryz.f123:=ZS Tryz.func123 (by decide)
theorem ZF124:ZQ 124 Tryz.f124:=ZS Tryz.func124 (by decide)
theorem ZF125:ZQ 125 Tryz.f125:=ZS Tryz.func125 (by decide)
theorem ZF126:ZQ 126 Tryz.f126:=ZS Tryz.func126 (by decide)
theorem ZF127:ZQ 127 Tryz.f127:=ZS Tryz.func127 (by decide)
theorem ZF128:ZQ 128 Tryz.f128:=ZS Tryz.func128 (by decide)
theorem ZF129:ZQ 129 Tryz.f129:=ZS Tryz.func129 (by decide)
theorem ZF130:ZQ 130 Tryz.f130:=ZS Tryz.func130 (by decide)
theorem ZF131:ZQ 131 Tryz.f131:=ZS Tryz.func131 (by decide)
theorem ZF132:ZQ 132 Tryz.f132:=ZS Tryz.func132 (by decide)
theorem ZF133:ZQ 133 Tryz.f133:=ZS Tryz.func133 (by decide)
theorem ZF134:ZQ 134 Tryz.f134:=ZS Tryz.func134 (by decide)
@[simp] theorem ZC134:ZO 134:=Tz.ap ZF134 rfl (by decide)
theorem ZF135:ZQ 135 Tryz.f135:=ZS Tryz.func135 (by decide)
@[simp] theorem ZC135:ZO 135:=Tz.ap ZF135 rfl (by decide)
theorem ZF136:ZQ 136 Tryz.f136:=ZS Tryz.func136 (by decide)
@[simp] theorem ZC136:ZO 136:=Tz.ap ZF136 rfl (by decide)
theorem ZF137:ZQ 137 Tryz.f137:=ZS Tryz.func137 (by decide)
@[simp] theorem ZC137:ZO 137:=Tz.ap ZF137 rfl (by decide)
theorem ZF138:ZQ 138 Tryz.f138:=ZS Tryz.func138 (by decide)
theorem ZF139:ZQ 139 Tryz.f139:=ZS Tryz.func139 (by decide)
@[simp] theorem ZC139:ZO 139:=Tz.ap ZF139 rfl (by decide)
theorem ZF141:ZQ 141 Tryz.f141:=ZS Tryz.func141 (by decide)
@[simp] theorem ZC141:ZO 141:=Tz.ap ZF141 rfl (by decide)
theorem ZF142:ZQ 142 Tryz.f142:=ZS Tryz.func142 (by decide)
@[simp] theorem ZC142:ZO 142:=Tz.ap ZF142 rfl (by decide)
theorem ZF143:ZQ 143 Tryz.f143:=ZS Tryz.func143 (by decide)
theorem ZF144:ZQ 144 Tryz.f144:=ZS Tryz.func144 (by decide)
theorem ZF145:ZQ 145 Tryz.f145:=ZS Tryz.func145 (by decide)
theorem ZF146:ZQ 146 Tryz.f146:=ZS Tryz.func146 (by decide)
theorem ZF147:ZQ 147 Tryz.f147:=ZS Tryz.func147 (by decide)
theorem ZF148:ZQ 148 Tryz.f148:=ZS Tryz.func148 (by decide)
theorem ZF149:ZQ 149 Tryz.f149:=ZS Tryz.func149 (by decide)
@[simp] theorem ZC149:ZO 149:=Tz.ap ZF149 rfl (by decide)
theorem ZF150:ZQ 150 Tryz.f150:=ZS Tryz.func150 (by decide)
@[simp] theorem ZC150:ZO 150:=Tz.ap ZF150 rfl (by decide)
theorem ZF151:ZQ 151 Tryz.f151:=ZS Tryz.func151 (by decide)
theorem ZF168:ZQ 168 Tryz.f168:=ZS Tryz.func168 (by decide)
@[simp] theorem ZC168:ZO 168:=Tz.ap ZF168 rfl (by decide)
theorem ZF169:ZQ 169 Tryz.f169:=ZS Tryz.func169 (by decide)
@[simp] theorem ZC169:ZO 169:=Tz.ap ZF169 rfl (by decide)
theorem ZF170:ZQ 170 Tryz.f170:=ZS Tryz.func170 (by decide)
@[simp] theorem ZC170:ZO 170:=Tz.ap ZF170 rfl (by decide)
theorem ZF171:ZQ 171 Tryz.f171:=ZS Tryz.func171 (by decide)
@[simp] theorem ZC171:ZO 171:=Tz.ap ZF171 rfl (by decide)
theorem ZF172:ZQ 172 Tryz.f172:=ZS Tryz.func172 (by decide)
@[simp] theorem ZC172:ZO 172:=Tz.ap ZF172 rfl (by decide)
theorem ZF173:ZQ 173 Tryz.f173:=ZS Tryz.func173 (by decide)
@[simp] theorem ZC173:ZO 173:=Tz.ap ZF173 rfl (by decide)
theorem ZF174:ZQ 174 Tryz.f174:=ZS Tryz.func174 (by decide)
@[simp] theorem ZC174:ZO 174:=Tz.ap ZF174 rfl (by decide)
theorem ZF175:ZQ 175 Tryz.f175:=ZS Tryz.func175 (by decide)
@[simp] theorem ZC175:ZO 175:=Tz.ap ZF175 rfl (by decide)
end Go.Proofs
