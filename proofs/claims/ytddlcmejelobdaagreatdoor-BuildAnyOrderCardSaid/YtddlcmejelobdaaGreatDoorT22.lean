/- A part. Conditions: none. -/
import Derived.Test.YtddlcmejelobdaaGreatDoorT07
import Derived.Test.YtddlcmejelobdaaGreatDoorProg
import Derived.WalkKit
import Derived.Carry
import Derived.Below
set_option linter.all false
noncomputable section
namespace Go.Proofs
def Tz.stub:Code:=.seq (.region 0 #[{dst:=some 0,op:=.assign (.const (.bool true)),type:=4,pos:= "",after:=#[],guard:=none}] false) .ret
def Tz.f9:Func:={Tryz.f9 with body:=some Tz.stub}
def Tz.cut (t:Code):Code->Code
 |.seq x1 (.seq x2 (.seq x3 (.seq x4 _)))=>.seq x1 (.seq x2 (.seq x3 (.seq x4 t)))
 |c=>c
def Tz.f30:Func:={Tryz.f30 with body:=some (Tz.cut (.refuse "") ((Tryz.f30.body).getD .skip))}
def Tz.funcs:Array Func:=(Tryz.funcs.setIfInBounds 9 Tz.f9).setIfInBounds 30 Tz.f30
def ZP:un:={Tryz.prog with funcs:=Tz.funcs}
def Tz.qr:ZP.funcs=Tz.funcs:=by simp only[ZP]
def Tz.size:Tryz.funcs.size=195:=by kernel_rfl
def Tz.same (i:Nat) (h:9≠i/\30≠i):ZP.funcs[i]?=Tryz.prog.funcs[i]?:=by
 have e2:Tryz.prog.funcs=Tryz.funcs:=by simp only[Tryz.prog]
 rw[Tz.qr,e2];unfold Tz.funcs;rw[zCS h.2];exact zCS h.1
abbrev ZO (n:Nat):Prop:=∀(args:Array fu) (w:nq),Sem.run ZP (Go.callFunc n args) w=.ok (.enter n args) w
abbrev ZQ (n:Nat) (f:Func):Prop:=ZP.funcs[n]?=some f
def ZS {n:Nat} {f:Func} (h:Tryz.prog.funcs[n]?=some f) (k:9≠n/\30≠n):ZQ n f:=(Tz.same n k).trans h
def ZF9:ZP.funcs[9]?=some Tz.f9:=by
 rw[Tz.qr];unfold Tz.funcs;rw[zCS (by decide),zBT];simp[Tz.size]
def ZF30:ZP.funcs[30]?=some Tz.f30:=by
 rw[Tz.qr];unfold Tz.funcs;rw[zBT];simp[Tz.size]
def Tz.ntmps9:Tz.f9.ntmps=288:=Tryz.ntmps9
section
variable (P:un) (F:Array Func)
def J8 (t:a00):({P with funcs:=F}:un).underlying t=P.underlying t:=rfl
def qs (t:a00) (w:nq):Sem.run {P with funcs:=F} (Go.underlying t) w=Sem.run P (Go.underlying t) w:=by
 unfold Go.underlying;show Sem.run _ ((match P.underlying t with|some d=>pure d|none=>stuck "no such type"):Sem TypeDesc) w=Sem.run _ ((match P.underlying t with|some d=>pure d|none=>stuck "no such type"):Sem TypeDesc) w;cases P.underlying t<;>rfl
def sC (t:a00) (w:nq):Sem.run {P with funcs:=F} (Go.typeInfo t) w=Sem.run P (Go.typeInfo t) w:=by
 unfold Go.typeInfo;show Sem.run _ ((match P.info? t with|some d=>pure d|none=>stuck "no such type"):Sem TypeInfo) w=Sem.run _ ((match P.info? t with|some d=>pure d|none=>stuck "no such type"):Sem TypeInfo) w;cases P.info? t<;>rfl
def C8 (t:a00) (w:nq):Sem.run {P with funcs:=F} (Go.sizeOf t) w=Sem.run P (Go.sizeOf t) w:=by
 unfold Go.sizeOf;simp only[Sem.run_bind,sC];cases Sem.run P (Go.typeInfo t) w<;>rfl
def FX (t:a00) (w:nq):Sem.run {P with funcs:=F} (Go.isAgg t) w=Sem.run P (Go.isAgg t) w:=by
 unfold Go.isAgg;simp only[Sem.run_bind,qs];cases Sem.run P (Go.underlying t) w with
 |ok d w1=>cases d<;>simp only[Result.andThen,Sem.run_pure]
 |halt h w1=>simp only[Result.andThen]
def C9 (t:a00) (w:nq):Sem.run {P with funcs:=F} (Go.zeroValue t) w=Sem.run P (Go.zeroValue t) w:=by
 unfold Go.zeroValue;simp only[Sem.run_bind,sC];cases Sem.run P (Go.typeInfo t) w with
 |ok d w1=>cases hz:d.zero<;>simp[Result.andThen,hz,Go.unsupported,Sem.run]
 |halt h w1=>simp only[Result.andThen]
end
@[simp] theorem Tz.under (t:a00):ZP.underlying t=Tryz.prog.underlying t:=J8 Tryz.prog Tz.funcs t
@[simp] theorem Tz.stood (t:a00):ZP.stoodInHeld t=Tryz.prog.stoodInHeld t:=aC.ku Tryz.prog Tz.funcs t
@[simp] theorem Tz.zaN (t:a00) (w:nq):Sem.run ZP (Go.underlying t) w=Sem.run Tryz.prog (Go.underlying t) w:=qs Tryz.prog Tz.funcs t w
@[simp] theorem Tz.cL (t:a00) (w:nq):Sem.run ZP (Go.zeroValue t) w=Sem.run Tryz.prog (Go.zeroValue t) w:=C9 Tryz.prog Tz.funcs t w
@[simp] theorem Tz.cS (t:a00) (w:nq):Sem.run ZP (Go.sizeOf t) w=Sem.run Tryz.prog (Go.sizeOf t) w:=C8 Tryz.prog Tz.funcs t w
@[simp] theorem Tz.dP (t:a00) (w:nq):Sem.run ZP (Go.isAgg t) w=Sem.run Tryz.prog (Go.isAgg t) w:=FX Tryz.prog Tz.funcs t w
def Tz.aq {f:FuncId} {fn:Func} (h:ZP.funcs[f]? =some fn) (hb:fn.body.isSome=true) (hn:fn.name≠ "runtime.NumGoroutine") (args:Array Value) (w:World):Sem.run ZP (Go.callFunc f args) w=.ok (.enter f args) w:=by
 cases hc:fn.body with
 |none=>rw[hc]at hb;cases hb
 |some c=>
  unfold Go.callFunc;simp[Go.program,Sem.run,h,hc,hn]
def ZF5:ZQ 5 Tryz.f5:=ZS Tryz.func5 (by decide)
def ZF8:ZQ 8 Tryz.f8:=ZS Tryz.func8 (by decide)
@[simp] theorem ZC8:ZO 8:=Tz.aq ZF8 rfl (by decide)
@[simp] theorem ZC9:ZO 9:=Tz.aq ZF9 rfl (by decide)
def ZF10:ZQ 10 Tryz.f10:=ZS Tryz.func10 (by decide)
@[simp] theorem ZC10:ZO 10:=Tz.aq ZF10 rfl (by decide)
def ZF11:ZQ 11 Tryz.f11:=ZS Tryz.func11 (by decide)
@[simp] theorem ZC11:ZO 11:=Tz.aq ZF11 rfl (by decide)
def ZF12:ZQ 12 Tryz.f12:=ZS Tryz.func12 (by decide)
@[simp] theorem ZC12:ZO 12:=Tz.aq ZF12 rfl (by decide)
def ZF13:ZQ 13 Tryz.f13:=ZS Tryz.func13 (by decide)
@[simp] theorem ZC13:ZO 13:=Tz.aq ZF13 rfl (by decide)
def ZF15:ZQ 15 Tryz.f15:=ZS Tryz.func15 (by decide)
@[simp] theorem ZC15:ZO 15:=Tz.aq ZF15 rfl (by decide)
def ZF16:ZQ 16 Tryz.f16:=ZS Tryz.func16 (by decide)
@[simp] theorem ZC16:ZO 16:=Tz.aq ZF16 rfl (by decide)
def ZF18:ZQ 18 Tryz.f18:=ZS Tryz.func18 (by decide)
@[simp] theorem ZC18:ZO 18:=Tz.aq ZF18 rfl (by decide)
def ZF19:ZQ 19 Tryz.f19:=ZS Tryz.func19 (by decide)
@[simp] theorem ZC19:ZO 19:=Tz.aq ZF19 rfl (by decide)
def ZF26:ZQ 26 Tryz.f26:=ZS Tryz.func26 (by decide)
@[simp] theorem ZC26:ZO 26:=Tz.aq ZF26 rfl (by decide)
def ZF27:ZQ 27 Tryz.f27:=ZS Tryz.func27 (by decide)
@[simp] theorem ZC27:ZO 27:=Tz.aq ZF27 rfl (by decide)
def ZF28:ZQ 28 Tryz.f28:=ZS Tryz.func28 (by decide)
@[simp] theorem ZC28:ZO 28:=Tz.aq ZF28 rfl (by decide)
def ZF29:ZQ 29 Tryz.f29:=ZS Tryz.func29 (by decide)
@[simp] theorem ZC29:ZO 29:=Tz.aq ZF29 rfl (by decide)
def ZF31:ZQ 31 Tryz.f31:=ZS Tryz.func31 (by decide)
@[simp] theorem ZC31:ZO 31:=Tz.aq ZF31 rfl (by decide)
def ZF43:ZQ 43 Tryz.f43:=ZS Tryz.func43 (by decide)
@[simp] theorem ZC43:ZO 43:=Tz.aq ZF43 rfl (by decide)
def ZF51:ZQ 51 Tryz.f51:=ZS Tryz.func51 (by decide)
@[simp] theorem ZC51:ZO 51:=Tz.aq ZF51 rfl (by decide)
def ZF52:ZQ 52 Tryz.f52:=ZS Tryz.func52 (by decide)
@[simp] theorem ZC52:ZO 52:=Tz.aq ZF52 rfl (by decide)
def ZF53:ZQ 53 Tryz.f53:=ZS Tryz.func53 (by decide)
@[simp] theorem ZC53:ZO 53:=Tz.aq ZF53 rfl (by decide)
def ZF54:ZQ 54 Tryz.f54:=ZS Tryz.func54 (by decide)
@[simp] theorem ZC54:ZO 54:=Tz.aq ZF54 rfl (by decide)
def ZF55:ZQ 55 Tryz.f55:=ZS Tryz.func55 (by decide)
@[simp] theorem ZC55:ZO 55:=Tz.aq ZF55 rfl (by decide)
def ZF56:ZQ 56 Tryz.f56:=ZS Tryz.func56 (by decide)
@[simp] theorem ZC56:ZO 56:=Tz.aq ZF56 rfl (by decide)
def ZF57:ZQ 57 Tryz.f57:=ZS Tryz.func57 (by decide)
@[simp] theorem ZC57:ZO 57:=Tz.aq ZF57 rfl (by decide)
def ZF58:ZQ 58 Tryz.f58:=ZS Tryz.func58 (by decide)
@[simp] theorem ZC58:ZO 58:=Tz.aq ZF58 rfl (by decide)
def ZF59:ZQ 59 Tryz.f59:=ZS Tryz.func59 (by decide)
@[simp] theorem ZC59:ZO 59:=Tz.aq ZF59 rfl (by decide)
def ZF60:ZQ 60 Tryz.f60:=ZS Tryz.func60 (by decide)
@[simp] theorem ZC60:ZO 60:=Tz.aq ZF60 rfl (by decide)
def ZF61:ZQ 61 Tryz.f61:=ZS Tryz.func61 (by decide)
@[simp] theorem ZC61:ZO 61:=Tz.aq ZF61 rfl (by decide)
def ZF62:ZQ 62 Tryz.f62:=ZS Tryz.func62 (by decide)
@[simp] theorem ZC62:ZO 62:=Tz.aq ZF62 rfl (by decide)
def ZF65:ZQ 65 Tryz.f65:=ZS Tryz.func65 (by decide)
@[simp] theorem ZC65:ZO 65:=Tz.aq ZF65 rfl (by decide)
def ZF66:ZQ 66 Tryz.f66:=ZS Tryz.func66 (by decide)
@[simp] theorem ZC66:ZO 66:=Tz.aq ZF66 rfl (by decide)
def ZF67:ZQ 67 Tryz.f67:=ZS Tryz.func67 (by decide)
@[simp] theorem ZC67:ZO 67:=Tz.aq ZF67 rfl (by decide)
def ZF68:ZQ 68 Tryz.f68:=ZS Tryz.func68 (by decide)
@[simp] theorem ZC68:ZO 68:=Tz.aq ZF68 rfl (by decide)
def ZF69:ZQ 69 Tryz.f69:=ZS Tryz.func69 (by decide)
@[simp] theorem ZC69:ZO 69:=Tz.aq ZF69 rfl (by decide)
def ZF73:ZQ 73 Tryz.f73:=ZS Tryz.func73 (by decide)
@[simp] theorem ZC73:ZO 73:=Tz.aq ZF73 rfl (by decide)
def ZF76:ZQ 76 Tryz.f76:=ZS Tryz.func76 (by decide)
@[simp] theorem ZC76:ZO 76:=Tz.aq ZF76 rfl (by decide)
def ZF77:ZQ 77 Tryz.f77:=ZS Tryz.func77 (by decide)
@[simp] theorem ZC77:ZO 77:=Tz.aq ZF77 rfl (by decide)
def ZF82:ZQ 82 Tryz.f82:=ZS Tryz.func82 (by decide)
@[simp] theorem ZC82:ZO 82:=Tz.aq ZF82 rfl (by decide)
def ZF83:ZQ 83 Tryz.f83:=ZS Tryz.func83 (by decide)
@[simp] theorem ZC83:ZO 83:=Tz.aq ZF83 rfl (by decide)
def ZF84:ZQ 84 Tryz.f84:=ZS Tryz.func84 (by decide)
@[simp] theorem ZC84:ZO 84:=Tz.aq ZF84 rfl (by decide)
def ZF85:ZQ 85 Tryz.f85:=ZS Tryz.func85 (by decide)
@[simp] theorem ZC85:ZO 85:=Tz.aq ZF85 rfl (by decide)
def ZF99:ZQ 99 Tryz.f99:=ZS Tryz.func99 (by decide)
@[simp] theorem ZC99:ZO 99:=Tz.aq ZF99 rfl (by decide)
def ZF102:ZQ 102 Tryz.f102:=ZS Tryz.func102 (by decide)
@[simp] theorem ZC102:ZO 102:=Tz.aq ZF102 rfl (by decide)
def ZF105:ZQ 105 Tryz.f105:=ZS Tryz.func105 (by decide)
@[simp] theorem ZC105:ZO 105:=Tz.aq ZF105 rfl (by decide)
def ZF106:ZQ 106 Tryz.f106:=ZS Tryz.func106 (by decide)
@[simp] theorem ZC106:ZO 106:=Tz.aq ZF106 rfl (by decide)
def ZF107:ZQ 107 Tryz.f107:=ZS Tryz.func107 (by decide)
@[simp] theorem ZC107:ZO 107:=Tz.aq ZF107 rfl (by decide)
def ZF108:ZQ 108 Tryz.f108:=ZS Tryz.func108 (by decide)
@[simp] theorem ZC108:ZO 108:=Tz.aq ZF108 rfl (by decide)
def ZF109:ZQ 109 Tryz.f109:=ZS Tryz.func109 (by decide)
@[simp] theorem ZC109:ZO 109:=Tz.aq ZF109 rfl (by decide)
def ZF110:ZQ 110 Tryz.f110:=ZS Tryz.func110 (by decide)
def ZF111:ZQ 111 Tryz.f111:=ZS Tryz.func111 (by decide)
@[simp] theorem ZC111:ZO 111:=Tz.aq ZF111 rfl (by decide)
def ZF112:ZQ 112 Tryz.f112:=ZS Tryz.func112 (by decide)
@[simp] theorem ZC112:ZO 112:=Tz.aq ZF112 rfl (by decide)
def ZF113:ZQ 113 Tryz.f113:=ZS Tryz.func113 (by decide)
@[simp] theorem ZC113:ZO 113:=Tz.aq ZF113 rfl (by decide)
def ZF114:ZQ 114 Tryz.f114:=ZS Tryz.func114 (by decide)
@[simp] theorem ZC114:ZO 114:=Tz.aq ZF114 rfl (by decide)
def ZF115:ZQ 115 Tryz.f115:=ZS Tryz.func115 (by decide)
@[simp] theorem ZC115:ZO 115:=Tz.aq ZF115 rfl (by decide)
def ZF116:ZQ 116 Tryz.f116:=ZS Tryz.func116 (by decide)
@[simp] theorem ZC116:ZO 116:=Tz.aq ZF116 rfl (by decide)
def ZF117:ZQ 117 Tryz.f117:=ZS Tryz.func117 (by decide)
@[simp] theorem ZC117:ZO 117:=Tz.aq ZF117 rfl (by decide)
def ZF119:ZQ 119 Tryz.f119:=ZS Tryz.func119 (by decide)
@[simp] theorem ZC119:ZO 119:=Tz.aq ZF119 rfl (by decide)
def ZF121:ZQ 121 Tryz.f121:=ZS Tryz.func121 (by decide)
@[simp] theorem ZC121:ZO 121:=Tz.aq ZF121 rfl (by decide)
def ZF126:ZQ 126 Tryz.f126:=ZS Tryz.func126 (by decide)
@[simp] theorem ZC126:ZO 126:=Tz.aq ZF126 rfl (by decide)
def ZF127:ZQ 127 Tryz.f127:=ZS Tryz.func127 (by decide)
@[simp] theorem ZC127:ZO 127:=Tz.aq ZF127 rfl (by decide)
def ZF128:ZQ 128 Tryz.f128:=ZS Tryz.func128 (by decide)
@[simp] theorem ZC128:ZO 128:=Tz.aq ZF128 rfl (by decide)
def ZF131:ZQ 131 Tryz.f131:=ZS Tryz.func131 (by decide)
@[simp] theorem ZC131:ZO 131:=Tz.aq ZF131 rfl (by decide)
def ZF132:ZQ 132 Tryz.f132:=ZS Tryz.func132 (by decide)
def ZF133:ZQ 133 Tryz.f133:=ZS Tryz.func133 (by decide)
def ZF134:ZQ 134 Tryz.f134:=ZS Tryz.func134 (by decide)
@[simp] theorem ZC134:ZO 134:=Tz.aq ZF134 rfl (by decide)
def ZF135:ZQ 135 Tryz.f135:=ZS Tryz.func135 (by decide)
@[simp] theorem ZC135:ZO 135:=Tz.aq ZF135 rfl (by decide)
def ZF136:ZQ 136 Tryz.f136:=ZS Tryz.func136 (by decide)
@[simp] theorem ZC136:ZO 136:=Tz.aq ZF136 rfl (by decide)
def ZF137:ZQ 137 Tryz.f137:=ZS Tryz.func137 (by decide)
@[simp] theorem ZC137:ZO 137:=Tz.aq ZF137 rfl (by decide)
def ZF139:ZQ 139 Tryz.f139:=ZS Tryz.func139 (by decide)
def ZF140:ZQ 140 Tryz.f140:=ZS Tryz.func140 (by decide)
@[simp] theorem ZC140:ZO 140:=Tz.aq ZF140 rfl (by decide)
def ZF141:ZQ 141 Tryz.f141:=ZS Tryz.func141 (by decide)
@[simp] theorem ZC141:ZO 141:=Tz.aq ZF141 rfl (by decide)
def ZF142:ZQ 142 Tryz.f142:=ZS Tryz.func142 (by decide)
@[simp] theorem ZC142:ZO 142:=Tz.aq ZF142 rfl (by decide)
def ZF143:ZQ 143 Tryz.f143:=ZS Tryz.func143 (by decide)
@[simp] theorem ZC143:ZO 143:=Tz.aq ZF143 rfl (by decide)
def ZF144:ZQ 144 Tryz.f144:=ZS Tryz.func144 (by decide)
@[simp] theorem ZC144:ZO 144:=Tz.aq ZF144 rfl (by decide)
def ZF145:ZQ 145 Tryz.f145:=ZS Tryz.func145 (by decide)
def ZF146:ZQ 146 Tryz.f146:=ZS Tryz.func146 (by decide)
def ZF147:ZQ 147 Tryz.f147:=ZS Tryz.func147 (by decide)
def ZF148:ZQ 148 Tryz.f148:=ZS Tryz.func148 (by decide)
def ZF149:ZQ 149 Tryz.f149:=ZS Tryz.func149 (by decide)
def ZF150:ZQ 150 Tryz.f150:=ZS Tryz.func150 (by decide)
def ZF151:ZQ 151 Tryz.f151:=ZS Tryz.func151 (by decide)
def ZF152:ZQ 152 Tryz.f152:=ZS Tryz.func152 (by decide)
def ZF153:ZQ 153 Tryz.f153:=ZS Tryz.func153 (by decide)
def ZF154:ZQ 154 Tryz.f154:=ZS Tryz.func154 (by decide)
def ZF155:ZQ 155 Tryz.f155:=ZS Tryz.func155 (by decide)
def ZF156:ZQ 156 Tryz.f156:=ZS Tryz.func156 (by decide)
@[simp] theorem ZC156:ZO 156:=Tz.aq ZF156 rfl (by decide)
def ZF157:ZQ 157 Tryz.f157:=ZS Tryz.func157 (by decide)
@[simp] theorem ZC157:ZO 157:=Tz.aq ZF157 rfl (by decide)
def ZF158:ZQ 158 Tryz.f158:=ZS Tryz.func158 (by decide)
@[simp] theorem ZC158:ZO 158:=Tz.aq ZF158 rfl (by decide)
def ZF159:ZQ 159 Tryz.f159:=ZS Tryz.func159 (by decide)
@[simp] theorem ZC159:ZO 159:=Tz.aq ZF159 rfl (by decide)
def ZF160:ZQ 160 Tryz.f160:=ZS Tryz.func160 (by decide)
def ZF161:ZQ 161 Tryz.f161:=ZS Tryz.func161 (by decide)
def ZF162:ZQ 162 Tryz.f162:=ZS Tryz.func162 (by decide)
def ZF163:ZQ 163 Tryz.f163:=ZS Tryz.func163 (by decide)
def ZF164:ZQ 164 Tryz.f164:=ZS Tryz.func164 (by decide)
def ZF165:ZQ 165 Tryz.f165:=ZS Tryz.func165 (by decide)
@[simp] theorem ZC165:ZO 165:=Tz.aq ZF165 rfl (by decide)
def ZF166:ZQ 166 Tryz.f166:=ZS Tryz.func166 (by decide)
def ZF183:ZQ 183 Tryz.f183:=ZS Tryz.func183 (by decide)
@[simp] theorem ZC183:ZO 183:=Tz.aq ZF183 rfl (by decide)
def ZF184:ZQ 184 Tryz.f184:=ZS Tryz.func184 (by decide)
@[simp] theorem ZC184:ZO 184:=Tz.aq ZF184 rfl (by decide)
def ZF185:ZQ 185 Tryz.f185:=ZS Tryz.func185 (by decide)
@[simp] theorem ZC185:ZO 185:=Tz.aq ZF185 rfl (by decide)
def ZF186:ZQ 186 Tryz.f186:=ZS Tryz.func186 (by decide)
@[simp] theorem ZC186:ZO 186:=Tz.aq ZF186 rfl (by decide)
def ZF187:ZQ 187 Tryz.f187:=ZS Tryz.func187 (by decide)
@[simp] theorem ZC187:ZO 187:=Tz.aq ZF187 rfl (by decide)
def ZF188:ZQ 188 Tryz.f188:=ZS Tryz.func188 (by decide)
@[simp] theorem ZC188:ZO 188:=Tz.aq ZF188 rfl (by decide)
def ZF189:ZQ 189 Tryz.f189:=ZS Tryz.func189 (by decide)
@[simp] theorem ZC189:ZO 189:=Tz.aq ZF189 rfl (by decide)
def ZF190:ZQ 190 Tryz.f190:=ZS Tryz.func190 (by decide)
@[simp] theorem ZC190:ZO 190:=Tz.aq ZF190 rfl (by decide)
end Go.Proofs
end

namespace Go.Proofs.Cz
open Go.Conc Go.aC Go.RowKit
variable {b:Addr} {k:Nat} {v:fu}
structure Part where
 name:ByteArray
 cost:Int
 dm:Int
 lo:Int
 hi:Int
 fits:List Int
structure eH where
 ptz:List Int
 lo:Int
 hi:Int
structure ab where
 ak:Int
 ah:Int
 ptz:List Part
 aL:List (Int×Int)
 aX:List eH
structure bT (w:nq) (v:fu) (n:Nat) (a:Option Addr) (cap:Nat):Prop where
 eq:v=.slice a n cap
 le:n<=cap
 Q5:cap<=maxLen
 nil:a=none->cap=0
 row:∀b,a=some b->cap=0\/∃c e fz,w.heap[b.block]?=some (.cells c e fz)
def At (w:nq) (b:Addr) (k:Nat) (v:fu):Prop:=b.spot=none/\w.cell? ⟨b.block,b.off+k,none⟩=some v
def ao (w:nq) (v:fu) (l:List Int):Prop:=
 ∃a cap,bT w v l.length a cap/\∀b,a=some b->∀j x,l[j]?=some x->At w b j (.int .i64 x)
def dy (w:nq) (v:fu) (l:List (Int×Int)):Prop:=
 ∃a cap,bT w v l.length a cap/\∀b,a=some b->∀j x,l[j]?=some x->At w b (j*2) (.int .i64 x.1)/\At w b (j*2+1) (.int .i64 x.2)
def dA (w:nq) (v:fu) (l:List Part):Prop:=
 ∃a cap,bT w v l.length a cap/\∀b,a=some b->∀j x,l[j]?=some x->At w b (j*6) (.string x.name)/\At w b (j*6+1) (.int .i64 x.cost)/\At w b (j*6+2) (.int .i64 x.dm)/\
  At w b (j*6+3) (.int .i64 x.lo)/\At w b (j*6+4) (.int .i64 x.hi)/\∃vf,At w b (j*6+5) vf/\ao w vf x.fits
def dB (w:nq) (v:fu) (l:List eH):Prop:=
 ∃a cap,bT w v l.length a cap/\∀b,a=some b->∀j x,l[j]?=some x->(∃vf,At w b (j*3) vf/\ao w vf x.ptz)/\At w b (j*3+1) (.int .i64 x.lo)/\At w b (j*3+2) (.int .i64 x.hi)
def ar (w:nq) (v:fu) (b:ab):Prop:=
 ∃v2 v3 v4,v=.agg #[.int .i64 b.ak,.int .i64 b.ah,v2,v3,v4]/\dA w v2 b.ptz/\dy w v3 b.aL/\dB w v4 b.aX
def At.lt {w:nq} (h:At w b k v):b.block<w.heap.size:=by
 have:=h.2;unfold World.cell? at this;split at this
 .rename_i hx;exact(zAD.1 hx).1
 .cases this
def Kp (w w':nq):Prop:=∀k:Nat,k<w.heap.size->w'.heap[k]?=w.heap[k]?
def Kp.of {w w':nq} (h:Below w.heap.size w w'):Kp w w':=h.block
def Kp.trans {w w1 w2:nq} (h:Kp w w1) (k:Kp w1 w2) (hs:w.heap.size<=w1.heap.size):Kp w w2:=λi hi=>(k i (by omega)).trans (h i hi)
section
variable {w w':nq} (hb:Kp w w')
include hb
def bT.later {n:Nat} {a:Option Addr} {cap:Nat} (h:bT w v n a cap):bT w' v n a cap:=
 ⟨h.eq,h.le,h.Q5,h.nil,λb e=>(h.row b e).imp id λ⟨c,t,fz,hc⟩=>⟨c,t,fz,(hb _ (zAD.1 hc).1).trans hc⟩⟩
def At.later (h:At w b k v):At w' b k v:=⟨h.1,(World.cell?_of_block (w:=w) (a:=⟨b.block,b.off+k,none⟩) (hb _ h.lt)).trans h.2⟩
def ao.later {l:List Int} (h:ao w v l):ao w' v l:=
 let⟨a,cap,h1,h2⟩:=h
 ⟨a,cap,h1.later hb,λb e j x hj=>(h2 b e j x hj).later hb⟩
def dy.later {l:List (Int×Int)} (h:dy w v l):dy w' v l:=
 let⟨a,cap,h1,h2⟩:=h
 ⟨a,cap,h1.later hb,λb e j x hj=>⟨(h2 b e j x hj).1.later hb,(h2 b e j x hj).2.later hb⟩⟩
def dA.later {l:List Part} (h:dA w v l):dA w' v l:=
 let⟨a,cap,h1,h2⟩:=h
 ⟨a,cap,h1.later hb,λb e j x hj=>
   let⟨x0,x1,x2,x3,x4,vf,x5,x6⟩:=h2 b e j x hj
   ⟨x0.later hb,x1.later hb,x2.later hb,x3.later hb,x4.later hb,vf,x5.later hb,x6.later hb⟩⟩
def dB.later {l:List eH} (h:dB w v l):dB w' v l:=
 let⟨a,cap,h1,h2⟩:=h
 ⟨a,cap,h1.later hb,λb e j x hj=>
   let⟨⟨vf,x0,x1⟩,x2,x3⟩:=h2 b e j x hj
   ⟨⟨vf,x0.later hb,x1.later hb⟩,x2.later hb,x3.later hb⟩⟩
def ar.later {b:ab} (h:ar w v b):ar w' v b:=
 let⟨v2,v3,v4,e,h2,h3,h4⟩:=h
 ⟨v2,v3,v4,e,h2.later hb,h3.later hb,h4.later hb⟩
end
end Go.Proofs.Cz
