/- A part. Conditions: none. -/
import Derived.Test.YtddlcmejelobdaaGreatDoorT09
import Derived.Test.YtddlcmejelobdaaGreatDoorProg
import Derived.WalkKit
import Derived.Carry
import Derived.Below
set_option linter.all false
noncomputable section
namespace Go.Proofs
def Tz.stub:Code:=.seq (.region 0 #[{dst:=some 0,op:=.assign (.const (.bool true)),type:=4,pos:= "",after:=#[],guard:=none}] false) .ret
def Tz.f9:Func:={Tryz.f9 with body:=some Tz.stub}
def Tz.cut (t:Code):Code->Code
 |.seq x1 (.seq x2 (.seq x3 (.seq x4 _)))=>.seq x1 (.seq x2 (.seq x3 (.seq x4 t)))
 |c=>c
def Tz.f30:Func:={Tryz.f30 with body:=some (Tz.cut (.refuse "") ((Tryz.f30.body).getD .skip))}
def Tz.funcs:Array Func:=(Tryz.funcs.setIfInBounds 9 Tz.f9).setIfInBounds 30 Tz.f30
def ZP:un:={Tryz.prog with funcs:=Tz.funcs}
def Tz.rq:ZP.funcs=Tz.funcs:=by simp only[ZP]
def Tz.size:Tryz.funcs.size=195:=by kernel_rfl
def Tz.same (i:Nat) (h:9≠i/\30≠i):ZP.funcs[i]?=Tryz.prog.funcs[i]?:=by
 have e2:Tryz.prog.funcs=Tryz.funcs:=by simp only[Tryz.prog]
 rw[Tz.rq,e2];unfold Tz.funcs;rw[zCV h.2];exact zCV h.1
abbrev ZO (n:Nat):Prop:=∀(args:Array fu) (w:nq),Sem.run ZP (Go.callFunc n args) w=.ok (.enter n args) w
abbrev ZQ (n:Nat) (f:Func):Prop:=ZP.funcs[n]?=some f
def ZS {n:Nat} {f:Func} (h:Tryz.prog.funcs[n]?=some f) (k:9≠n/\30≠n):ZQ n f:=(Tz.same n k).trans h
def ZF9:ZP.funcs[9]?=some Tz.f9:=by
 rw[Tz.rq];unfold Tz.funcs;rw[zCV (by decide),zBL];simp[Tz.size]
def ZF30:ZP.funcs[30]?=some Tz.f30:=by
 rw[Tz.rq];unfold Tz.funcs;rw[zBL];simp[Tz.size]
def Tz.ntmps9:Tz.f9.ntmps=288:=Tryz.ntmps9
section
variable (P:un) (F:Array Func)
def KD (t:a00):({P with funcs:=F}:un).underlying t=P.underlying t:=rfl
def rr (t:a00) (w:nq):Sem.run {P with funcs:=F} (Go.underlying t) w=Sem.run P (Go.underlying t) w:=by
 unfold Go.underlying;show Sem.run _ ((match P.underlying t with|some d=>pure d|none=>stuck "no such type"):Sem TypeDesc) w=Sem.run _ ((match P.underlying t with|some d=>pure d|none=>stuck "no such type"):Sem TypeDesc) w;cases P.underlying t<;>rfl
def tp (t:a00) (w:nq):Sem.run {P with funcs:=F} (Go.typeInfo t) w=Sem.run P (Go.typeInfo t) w:=by
 unfold Go.typeInfo;show Sem.run _ ((match P.info? t with|some d=>pure d|none=>stuck "no such type"):Sem TypeInfo) w=Sem.run _ ((match P.info? t with|some d=>pure d|none=>stuck "no such type"):Sem TypeInfo) w;cases P.info? t<;>rfl
def Ds (t:a00) (w:nq):Sem.run {P with funcs:=F} (Go.sizeOf t) w=Sem.run P (Go.sizeOf t) w:=by
 unfold Go.sizeOf;simp only[Sem.run_bind,tp];cases Sem.run P (Go.typeInfo t) w<;>rfl
def Gr (t:a00) (w:nq):Sem.run {P with funcs:=F} (Go.isAgg t) w=Sem.run P (Go.isAgg t) w:=by
 unfold Go.isAgg;simp only[Sem.run_bind,rr];cases Sem.run P (Go.underlying t) w with
 |ok d w1=>cases d<;>simp only[Result.andThen,Sem.run_pure]
 |halt h w1=>simp only[Result.andThen]
def Dt (t:a00) (w:nq):Sem.run {P with funcs:=F} (Go.zeroValue t) w=Sem.run P (Go.zeroValue t) w:=by
 unfold Go.zeroValue;simp only[Sem.run_bind,tp];cases Sem.run P (Go.typeInfo t) w with
 |ok d w1=>cases hz:d.zero<;>simp[Result.andThen,hz,Go.unsupported,Sem.run]
 |halt h w1=>simp only[Result.andThen]
end
@[simp] theorem Tz.under (t:a00):ZP.underlying t=Tryz.prog.underlying t:=KD Tryz.prog Tz.funcs t
@[simp] theorem Tz.stood (t:a00):ZP.stoodInHeld t=Tryz.prog.stoodInHeld t:=aD.lh Tryz.prog Tz.funcs t
@[simp] theorem Tz.zbs (t:a00) (w:nq):Sem.run ZP (Go.underlying t) w=Sem.run Tryz.prog (Go.underlying t) w:=rr Tryz.prog Tz.funcs t w
@[simp] theorem Tz.cQ (t:a00) (w:nq):Sem.run ZP (Go.zeroValue t) w=Sem.run Tryz.prog (Go.zeroValue t) w:=Dt Tryz.prog Tz.funcs t w
@[simp] theorem Tz.cZ (t:a00) (w:nq):Sem.run ZP (Go.sizeOf t) w=Sem.run Tryz.prog (Go.sizeOf t) w:=Ds Tryz.prog Tz.funcs t w
@[simp] theorem Tz.dZ (t:a00) (w:nq):Sem.run ZP (Go.isAgg t) w=Sem.run Tryz.prog (Go.isAgg t) w:=Gr Tryz.prog Tz.funcs t w
def Tz.ap {f:FuncId} {fn:Func} (h:ZP.funcs[f]? =some fn) (hb:fn.body.isSome=true) (hn:fn.name≠ "runtime.NumGoroutine") (args:Array Value) (w:World):Sem.run ZP (Go.callFunc f args) w=.ok (.enter f args) w:=by
 cases hc:fn.body with
 |none=>rw[hc]at hb;cases hb
 |some c=>
  unfold Go.callFunc;simp[Go.program,Sem.run,h,hc,hn]
def ZF4:ZQ 4 Tryz.f4:=ZS Tryz.func4 (by decide)
@[simp] theorem ZC9:ZO 9:=Tz.ap ZF9 rfl (by decide)
def ZF10:ZQ 10 Tryz.f10:=ZS Tryz.func10 (by decide)
@[simp] theorem ZC10:ZO 10:=Tz.ap ZF10 rfl (by decide)
def ZF12:ZQ 12 Tryz.f12:=ZS Tryz.func12 (by decide)
@[simp] theorem ZC12:ZO 12:=Tz.ap ZF12 rfl (by decide)
def ZF15:ZQ 15 Tryz.f15:=ZS Tryz.func15 (by decide)
@[simp] theorem ZC15:ZO 15:=Tz.ap ZF15 rfl (by decide)
def ZF16:ZQ 16 Tryz.f16:=ZS Tryz.func16 (by decide)
@[simp] theorem ZC16:ZO 16:=Tz.ap ZF16 rfl (by decide)
def ZF17:ZQ 17 Tryz.f17:=ZS Tryz.func17 (by decide)
@[simp] theorem ZC17:ZO 17:=Tz.ap ZF17 rfl (by decide)
def ZF18:ZQ 18 Tryz.f18:=ZS Tryz.func18 (by decide)
@[simp] theorem ZC18:ZO 18:=Tz.ap ZF18 rfl (by decide)
def ZF19:ZQ 19 Tryz.f19:=ZS Tryz.func19 (by decide)
@[simp] theorem ZC19:ZO 19:=Tz.ap ZF19 rfl (by decide)
def ZF20:ZQ 20 Tryz.f20:=ZS Tryz.func20 (by decide)
@[simp] theorem ZC20:ZO 20:=Tz.ap ZF20 rfl (by decide)
def ZF21:ZQ 21 Tryz.f21:=ZS Tryz.func21 (by decide)
@[simp] theorem ZC21:ZO 21:=Tz.ap ZF21 rfl (by decide)
def ZF22:ZQ 22 Tryz.f22:=ZS Tryz.func22 (by decide)
@[simp] theorem ZC22:ZO 22:=Tz.ap ZF22 rfl (by decide)
def ZF23:ZQ 23 Tryz.f23:=ZS Tryz.func23 (by decide)
@[simp] theorem ZC23:ZO 23:=Tz.ap ZF23 rfl (by decide)
def ZF24:ZQ 24 Tryz.f24:=ZS Tryz.func24 (by decide)
@[simp] theorem ZC24:ZO 24:=Tz.ap ZF24 rfl (by decide)
def ZF25:ZQ 25 Tryz.f25:=ZS Tryz.func25 (by decide)
@[simp] theorem ZC25:ZO 25:=Tz.ap ZF25 rfl (by decide)
def ZF31:ZQ 31 Tryz.f31:=ZS Tryz.func31 (by decide)
@[simp] theorem ZC31:ZO 31:=Tz.ap ZF31 rfl (by decide)
def ZF43:ZQ 43 Tryz.f43:=ZS Tryz.func43 (by decide)
@[simp] theorem ZC43:ZO 43:=Tz.ap ZF43 rfl (by decide)
def ZF51:ZQ 51 Tryz.f51:=ZS Tryz.func51 (by decide)
@[simp] theorem ZC51:ZO 51:=Tz.ap ZF51 rfl (by decide)
def ZF52:ZQ 52 Tryz.f52:=ZS Tryz.func52 (by decide)
@[simp] theorem ZC52:ZO 52:=Tz.ap ZF52 rfl (by decide)
def ZF53:ZQ 53 Tryz.f53:=ZS Tryz.func53 (by decide)
@[simp] theorem ZC53:ZO 53:=Tz.ap ZF53 rfl (by decide)
def ZF54:ZQ 54 Tryz.f54:=ZS Tryz.func54 (by decide)
@[simp] theorem ZC54:ZO 54:=Tz.ap ZF54 rfl (by decide)
def ZF55:ZQ 55 Tryz.f55:=ZS Tryz.func55 (by decide)
@[simp] theorem ZC55:ZO 55:=Tz.ap ZF55 rfl (by decide)
def ZF56:ZQ 56 Tryz.f56:=ZS Tryz.func56 (by decide)
@[simp] theorem ZC56:ZO 56:=Tz.ap ZF56 rfl (by decide)
def ZF57:ZQ 57 Tryz.f57:=ZS Tryz.func57 (by decide)
@[simp] theorem ZC57:ZO 57:=Tz.ap ZF57 rfl (by decide)
def ZF58:ZQ 58 Tryz.f58:=ZS Tryz.func58 (by decide)
@[simp] theorem ZC58:ZO 58:=Tz.ap ZF58 rfl (by decide)
def ZF60:ZQ 60 Tryz.f60:=ZS Tryz.func60 (by decide)
@[simp] theorem ZC60:ZO 60:=Tz.ap ZF60 rfl (by decide)
def ZF61:ZQ 61 Tryz.f61:=ZS Tryz.func61 (by decide)
@[simp] theorem ZC61:ZO 61:=Tz.ap ZF61 rfl (by decide)
def ZF62:ZQ 62 Tryz.f62:=ZS Tryz.func62 (by decide)
@[simp] theorem ZC62:ZO 62:=Tz.ap ZF62 rfl (by decide)
def ZF63:ZQ 63 Tryz.f63:=ZS Tryz.func63 (by decide)
@[simp] theorem ZC63:ZO 63:=Tz.ap ZF63 rfl (by decide)
def ZF65:ZQ 65 Tryz.f65:=ZS Tryz.func65 (by decide)
@[simp] theorem ZC65:ZO 65:=Tz.ap ZF65 rfl (by decide)
def ZF66:ZQ 66 Tryz.f66:=ZS Tryz.func66 (by decide)
@[simp] theorem ZC66:ZO 66:=Tz.ap ZF66 rfl (by decide)
def ZF67:ZQ 67 Tryz.f67:=ZS Tryz.func67 (by decide)
@[simp] theorem ZC67:ZO 67:=Tz.ap ZF67 rfl (by decide)
def ZF68:ZQ 68 Tryz.f68:=ZS Tryz.func68 (by decide)
@[simp] theorem ZC68:ZO 68:=Tz.ap ZF68 rfl (by decide)
def ZF69:ZQ 69 Tryz.f69:=ZS Tryz.func69 (by decide)
@[simp] theorem ZC69:ZO 69:=Tz.ap ZF69 rfl (by decide)
def ZF70:ZQ 70 Tryz.f70:=ZS Tryz.func70 (by decide)
@[simp] theorem ZC70:ZO 70:=Tz.ap ZF70 rfl (by decide)
def ZF71:ZQ 71 Tryz.f71:=ZS Tryz.func71 (by decide)
@[simp] theorem ZC71:ZO 71:=Tz.ap ZF71 rfl (by decide)
def ZF72:ZQ 72 Tryz.f72:=ZS Tryz.func72 (by decide)
@[simp] theorem ZC72:ZO 72:=Tz.ap ZF72 rfl (by decide)
def ZF73:ZQ 73 Tryz.f73:=ZS Tryz.func73 (by decide)
@[simp] theorem ZC73:ZO 73:=Tz.ap ZF73 rfl (by decide)
def ZF74:ZQ 74 Tryz.f74:=ZS Tryz.func74 (by decide)
@[simp] theorem ZC74:ZO 74:=Tz.ap ZF74 rfl (by decide)
def ZF75:ZQ 75 Tryz.f75:=ZS Tryz.func75 (by decide)
@[simp] theorem ZC75:ZO 75:=Tz.ap ZF75 rfl (by decide)
def ZF76:ZQ 76 Tryz.f76:=ZS Tryz.func76 (by decide)
@[simp] theorem ZC76:ZO 76:=Tz.ap ZF76 rfl (by decide)
def ZF77:ZQ 77 Tryz.f77:=ZS Tryz.func77 (by decide)
@[simp] theorem ZC77:ZO 77:=Tz.ap ZF77 rfl (by decide)
def ZF78:ZQ 78 Tryz.f78:=ZS Tryz.func78 (by decide)
@[simp] theorem ZC78:ZO 78:=Tz.ap ZF78 rfl (by decide)
def ZF79:ZQ 79 Tryz.f79:=ZS Tryz.func79 (by decide)
@[simp] theorem ZC79:ZO 79:=Tz.ap ZF79 rfl (by decide)
def ZF80:ZQ 80 Tryz.f80:=ZS Tryz.func80 (by decide)
@[simp] theorem ZC80:ZO 80:=Tz.ap ZF80 rfl (by decide)
def ZF81:ZQ 81 Tryz.f81:=ZS Tryz.func81 (by decide)
@[simp] theorem ZC81:ZO 81:=Tz.ap ZF81 rfl (by decide)
def ZF82:ZQ 82 Tryz.f82:=ZS Tryz.func82 (by decide)
@[simp] theorem ZC82:ZO 82:=Tz.ap ZF82 rfl (by decide)
def ZF90:ZQ 90 Tryz.f90:=ZS Tryz.func90 (by decide)
@[simp] theorem ZC90:ZO 90:=Tz.ap ZF90 rfl (by decide)
def ZF99:ZQ 99 Tryz.f99:=ZS Tryz.func99 (by decide)
@[simp] theorem ZC99:ZO 99:=Tz.ap ZF99 rfl (by decide)
def ZF102:ZQ 102 Tryz.f102:=ZS Tryz.func102 (by decide)
@[simp] theorem ZC102:ZO 102:=Tz.ap ZF102 rfl (by decide)
def ZF105:ZQ 105 Tryz.f105:=ZS Tryz.func105 (by decide)
@[simp] theorem ZC105:ZO 105:=Tz.ap ZF105 rfl (by decide)
def ZF106:ZQ 106 Tryz.f106:=ZS Tryz.func106 (by decide)
@[simp] theorem ZC106:ZO 106:=Tz.ap ZF106 rfl (by decide)
def ZF107:ZQ 107 Tryz.f107:=ZS Tryz.func107 (by decide)
@[simp] theorem ZC107:ZO 107:=Tz.ap ZF107 rfl (by decide)
def ZF108:ZQ 108 Tryz.f108:=ZS Tryz.func108 (by decide)
@[simp] theorem ZC108:ZO 108:=Tz.ap ZF108 rfl (by decide)
def ZF109:ZQ 109 Tryz.f109:=ZS Tryz.func109 (by decide)
@[simp] theorem ZC109:ZO 109:=Tz.ap ZF109 rfl (by decide)
def ZF110:ZQ 110 Tryz.f110:=ZS Tryz.func110 (by decide)
def ZF111:ZQ 111 Tryz.f111:=ZS Tryz.func111 (by decide)
@[simp] theorem ZC111:ZO 111:=Tz.ap ZF111 rfl (by decide)
def ZF112:ZQ 112 Tryz.f112:=ZS Tryz.func112 (by decide)
@[simp] theorem ZC112:ZO 112:=Tz.ap ZF112 rfl (by decide)
def ZF113:ZQ 113 Tryz.f113:=ZS Tryz.func113 (by decide)
@[simp] theorem ZC113:ZO 113:=Tz.ap ZF113 rfl (by decide)
def ZF114:ZQ 114 Tryz.f114:=ZS Tryz.func114 (by decide)
@[simp] theorem ZC114:ZO 114:=Tz.ap ZF114 rfl (by decide)
def ZF115:ZQ 115 Tryz.f115:=ZS Tryz.func115 (by decide)
@[simp] theorem ZC115:ZO 115:=Tz.ap ZF115 rfl (by decide)
def ZF116:ZQ 116 Tryz.f116:=ZS Tryz.func116 (by decide)
@[simp] theorem ZC116:ZO 116:=Tz.ap ZF116 rfl (by decide)
def ZF117:ZQ 117 Tryz.f117:=ZS Tryz.func117 (by decide)
@[simp] theorem ZC117:ZO 117:=Tz.ap ZF117 rfl (by decide)
def ZF118:ZQ 118 Tryz.f118:=ZS Tryz.func118 (by decide)
@[simp] theorem ZC118:ZO 118:=Tz.ap ZF118 rfl (by decide)
def ZF119:ZQ 119 Tryz.f119:=ZS Tryz.func119 (by decide)
@[simp] theorem ZC119:ZO 119:=Tz.ap ZF119 rfl (by decide)
def ZF120:ZQ 120 Tryz.f120:=ZS Tryz.func120 (by decide)
@[simp] theorem ZC120:ZO 120:=Tz.ap ZF120 rfl (by decide)
def ZF121:ZQ 121 Tryz.f121:=ZS Tryz.func121 (by decide)
@[simp] theorem ZC121:ZO 121:=Tz.ap ZF121 rfl (by decide)
def ZF122:ZQ 122 Tryz.f122:=ZS Tryz.func122 (by decide)
@[simp] theorem ZC122:ZO 122:=Tz.ap ZF122 rfl (by decide)
def ZF123:ZQ 123 Tryz.f123:=ZS Tryz.func123 (by decide)
@[simp] theorem ZC123:ZO 123:=Tz.ap ZF123 rfl (by decide)
def ZF124:ZQ 124 Tryz.f124:=ZS Tryz.func124 (by decide)
@[simp] theorem ZC124:ZO 124:=Tz.ap ZF124 rfl (by decide)
def ZF125:ZQ 125 Tryz.f125:=ZS Tryz.func125 (by decide)
@[simp] theorem ZC125:ZO 125:=Tz.ap ZF125 rfl (by decide)
def ZF126:ZQ 126 Tryz.f126:=ZS Tryz.func126 (by decide)
@[simp] theorem ZC126:ZO 126:=Tz.ap ZF126 rfl (by decide)
def ZF131:ZQ 131 Tryz.f131:=ZS Tryz.func131 (by decide)
@[simp] theorem ZC131:ZO 131:=Tz.ap ZF131 rfl (by decide)
def ZF132:ZQ 132 Tryz.f132:=ZS Tryz.func132 (by decide)
def ZF133:ZQ 133 Tryz.f133:=ZS Tryz.func133 (by decide)
def ZF134:ZQ 134 Tryz.f134:=ZS Tryz.func134 (by decide)
@[simp] theorem ZC134:ZO 134:=Tz.ap ZF134 rfl (by decide)
def ZF135:ZQ 135 Tryz.f135:=ZS Tryz.func135 (by decide)
@[simp] theorem ZC135:ZO 135:=Tz.ap ZF135 rfl (by decide)
def ZF136:ZQ 136 Tryz.f136:=ZS Tryz.func136 (by decide)
@[simp] theorem ZC136:ZO 136:=Tz.ap ZF136 rfl (by decide)
def ZF137:ZQ 137 Tryz.f137:=ZS Tryz.func137 (by decide)
@[simp] theorem ZC137:ZO 137:=Tz.ap ZF137 rfl (by decide)
def ZF138:ZQ 138 Tryz.f138:=ZS Tryz.func138 (by decide)
@[simp] theorem ZC138:ZO 138:=Tz.ap ZF138 rfl (by decide)
def ZF139:ZQ 139 Tryz.f139:=ZS Tryz.func139 (by decide)
def ZF140:ZQ 140 Tryz.f140:=ZS Tryz.func140 (by decide)
@[simp] theorem ZC140:ZO 140:=Tz.ap ZF140 rfl (by decide)
def ZF141:ZQ 141 Tryz.f141:=ZS Tryz.func141 (by decide)
@[simp] theorem ZC141:ZO 141:=Tz.ap ZF141 rfl (by decide)
def ZF143:ZQ 143 Tryz.f143:=ZS Tryz.func143 (by decide)
@[simp] theorem ZC143:ZO 143:=Tz.ap ZF143 rfl (by decide)
def ZF144:ZQ 144 Tryz.f144:=ZS Tryz.func144 (by decide)
@[simp] theorem ZC144:ZO 144:=Tz.ap ZF144 rfl (by decide)
def ZF145:ZQ 145 Tryz.f145:=ZS Tryz.func145 (by decide)
def ZF146:ZQ 146 Tryz.f146:=ZS Tryz.func146 (by decide)
def ZF147:ZQ 147 Tryz.f147:=ZS Tryz.func147 (by decide)
def ZF148:ZQ 148 Tryz.f148:=ZS Tryz.func148 (by decide)
def ZF149:ZQ 149 Tryz.f149:=ZS Tryz.func149 (by decide)
def ZF150:ZQ 150 Tryz.f150:=ZS Tryz.func150 (by decide)
def ZF151:ZQ 151 Tryz.f151:=ZS Tryz.func151 (by decide)
def ZF152:ZQ 152 Tryz.f152:=ZS Tryz.func152 (by decide)
def ZF153:ZQ 153 Tryz.f153:=ZS Tryz.func153 (by decide)
def ZF154:ZQ 154 Tryz.f154:=ZS Tryz.func154 (by decide)
def ZF155:ZQ 155 Tryz.f155:=ZS Tryz.func155 (by decide)
def ZF156:ZQ 156 Tryz.f156:=ZS Tryz.func156 (by decide)
@[simp] theorem ZC156:ZO 156:=Tz.ap ZF156 rfl (by decide)
def ZF157:ZQ 157 Tryz.f157:=ZS Tryz.func157 (by decide)
@[simp] theorem ZC157:ZO 157:=Tz.ap ZF157 rfl (by decide)
def ZF158:ZQ 158 Tryz.f158:=ZS Tryz.func158 (by decide)
@[simp] theorem ZC158:ZO 158:=Tz.ap ZF158 rfl (by decide)
def ZF159:ZQ 159 Tryz.f159:=ZS Tryz.func159 (by decide)
def ZF160:ZQ 160 Tryz.f160:=ZS Tryz.func160 (by decide)
def ZF161:ZQ 161 Tryz.f161:=ZS Tryz.func161 (by decide)
def ZF162:ZQ 162 Tryz.f162:=ZS Tryz.func162 (by decide)
def ZF163:ZQ 163 Tryz.f163:=ZS Tryz.func163 (by decide)
def ZF164:ZQ 164 Tryz.f164:=ZS Tryz.func164 (by decide)
def ZF165:ZQ 165 Tryz.f165:=ZS Tryz.func165 (by decide)
@[simp] theorem ZC165:ZO 165:=Tz.ap ZF165 rfl (by decide)
def ZF166:ZQ 166 Tryz.f166:=ZS Tryz.func166 (by decide)
def ZF183:ZQ 183 Tryz.f183:=ZS Tryz.func183 (by decide)
@[simp] theorem ZC183:ZO 183:=Tz.ap ZF183 rfl (by decide)
def ZF184:ZQ 184 Tryz.f184:=ZS Tryz.func184 (by decide)
@[simp] theorem ZC184:ZO 184:=Tz.ap ZF184 rfl (by decide)
def ZF185:ZQ 185 Tryz.f185:=ZS Tryz.func185 (by decide)
@[simp] theorem ZC185:ZO 185:=Tz.ap ZF185 rfl (by decide)
def ZF186:ZQ 186 Tryz.f186:=ZS Tryz.func186 (by decide)
@[simp] theorem ZC186:ZO 186:=Tz.ap ZF186 rfl (by decide)
def ZF187:ZQ 187 Tryz.f187:=ZS Tryz.func187 (by decide)
@[simp] theorem ZC187:ZO 187:=Tz.ap ZF187 rfl (by decide)
def ZF188:ZQ 188 Tryz.f188:=ZS Tryz.func188 (by decide)
@[simp] theorem ZC188:ZO 188:=Tz.ap ZF188 rfl (by decide)
def ZF189:ZQ 189 Tryz.f189:=ZS Tryz.func189 (by decide)
@[simp] theorem ZC189:ZO 189:=Tz.ap ZF189 rfl (by decide)
def ZF190:ZQ 190 Tryz.f190:=ZS Tryz.func190 (by decide)
@[simp] theorem ZC190:ZO 190:=Tz.ap ZF190 rfl (by decide)
end Go.Proofs
end

namespace Go.Proofs.Cz
open Go.Conc Go.aD Go.RowKit
variable {b:Addr} {k:Nat} {v:fu}
structure Part where
 name:ByteArray
 cost:Int
 d8:Int
 lo:Int
 hi:Int
 fits:List Int
structure iC where
 ptz:List Int
 lo:Int
 hi:Int
structure aj where
 aB:Int
 aq:Int
 ptz:List Part
 cj:List (Int×Int)
 cR:List iC
abbrev bx (b:aj) (a2:Option Addr) (c2:Nat) (a3:Option Addr) (c3:Nat) (a4:Option Addr) (c4:Nat):Array fu:=#[.int .i64 b.aB,.int .i64 b.aq,.slice a2 b.ptz.length c2,.slice a3 b.cj.length c3,.slice a4 b.cR.length c4]
abbrev bz (X:nq) (g:Nat) (b:aj) (a2:Option Addr) (c2:Nat) (a3:Option Addr) (c3:Nat) (a4:Option Addr) (c4:Nat):Prop:=X.cell? ⟨g,0,none⟩=some (.int .i64 b.aB)/\X.cell? ⟨g,1,none⟩=some (.int .i64 b.aq)/\X.cell? ⟨g,2,none⟩=some (.slice a2 b.ptz.length c2)/\X.cell? ⟨g,3,none⟩=some (.slice a3 b.cj.length c3)/\X.cell? ⟨g,4,none⟩=some (.slice a4 b.cR.length c4)
structure bi (w:nq) (v:fu) (n:Nat) (a:Option Addr) (cap:Nat):Prop where
 eq:v=.slice a n cap
 le:n<=cap
 IU:cap<=maxLen
 nil:a=none->cap=0
 row:∀b,a=some b->cap=0\/∃c e fz,w.heap[b.block]?=some (.cells c e fz)
def At (w:nq) (b:Addr) (k:Nat) (v:fu):Prop:=b.spot=none/\w.cell? ⟨b.block,b.off+k,none⟩=some v
def ah (w:nq) (v:fu) (l:List Int):Prop:=
 ∃a cap,bi w v l.length a cap/\∀b,a=some b->∀j x,l[j]?=some x->At w b j (.int .i64 x)
def fL (w:nq) (v:fu) (l:List (Int×Int)):Prop:=
 ∃a cap,bi w v l.length a cap/\∀b,a=some b->∀j x,l[j]?=some x->At w b (j*2) (.int .i64 x.1)/\At w b (j*2+1) (.int .i64 x.2)
def ff (w:nq) (v:fu) (l:List Part):Prop:=
 ∃a cap,bi w v l.length a cap/\∀b,a=some b->∀j x,l[j]?=some x->At w b (j*6) (.string x.name)/\At w b (j*6+1) (.int .i64 x.cost)/\At w b (j*6+2) (.int .i64 x.d8)/\
  At w b (j*6+3) (.int .i64 x.lo)/\At w b (j*6+4) (.int .i64 x.hi)/\∃vf,At w b (j*6+5) vf/\ah w vf x.fits
def fZ (w:nq) (v:fu) (l:List iC):Prop:=
 ∃a cap,bi w v l.length a cap/\∀b,a=some b->∀j x,l[j]?=some x->(∃vf,At w b (j*3) vf/\ah w vf x.ptz)/\At w b (j*3+1) (.int .i64 x.lo)/\At w b (j*3+2) (.int .i64 x.hi)
def az (w:nq) (v:fu) (b:aj):Prop:=
 ∃v2 v3 v4,v=.agg #[.int .i64 b.aB,.int .i64 b.aq,v2,v3,v4]/\ff w v2 b.ptz/\fL w v3 b.cj/\fZ w v4 b.cR
def At.lt {w:nq} (h:At w b k v):b.block<w.heap.size:=by
 have:=h.2;unfold World.cell? at this;split at this
 .rename_i hx;exact(zAC.1 hx).1
 .cases this
def Kp (w w':nq):Prop:=∀k:Nat,k<w.heap.size->w'.heap[k]?=w.heap[k]?
def Kp.of {w w':nq} (h:Below w.heap.size w w'):Kp w w':=h.block
def Kp.trans {w w1 w2:nq} (h:Kp w w1) (k:Kp w1 w2) (hs:w.heap.size<=w1.heap.size):Kp w w2:=λi hi=>(k i (by omega)).trans (h i hi)
section
variable {w w':nq} (hb:Kp w w')
include hb
def bi.later {n:Nat} {a:Option Addr} {cap:Nat} (h:bi w v n a cap):bi w' v n a cap:=
 ⟨h.eq,h.le,h.IU,h.nil,λb e=>(h.row b e).imp id λ⟨c,t,fz,hc⟩=>⟨c,t,fz,(hb _ (zAC.1 hc).1).trans hc⟩⟩
def At.later (h:At w b k v):At w' b k v:=⟨h.1,(World.cell?_of_block (w:=w) (a:=⟨b.block,b.off+k,none⟩) (hb _ h.lt)).trans h.2⟩
def ah.later {l:List Int} (h:ah w v l):ah w' v l:=
 let⟨a,cap,h1,h2⟩:=h
 ⟨a,cap,h1.later hb,λb e j x hj=>(h2 b e j x hj).later hb⟩
def fL.later {l:List (Int×Int)} (h:fL w v l):fL w' v l:=
 let⟨a,cap,h1,h2⟩:=h
 ⟨a,cap,h1.later hb,λb e j x hj=>⟨(h2 b e j x hj).1.later hb,(h2 b e j x hj).2.later hb⟩⟩
def ff.later {l:List Part} (h:ff w v l):ff w' v l:=
 let⟨a,cap,h1,h2⟩:=h
 ⟨a,cap,h1.later hb,λb e j x hj=>
   let⟨x0,x1,x2,x3,x4,vf,x5,x6⟩:=h2 b e j x hj
   ⟨x0.later hb,x1.later hb,x2.later hb,x3.later hb,x4.later hb,vf,x5.later hb,x6.later hb⟩⟩
def fZ.later {l:List iC} (h:fZ w v l):fZ w' v l:=
 let⟨a,cap,h1,h2⟩:=h
 ⟨a,cap,h1.later hb,λb e j x hj=>
   let⟨⟨vf,x0,x1⟩,x2,x3⟩:=h2 b e j x hj
   ⟨⟨vf,x0.later hb,x1.later hb⟩,x2.later hb,x3.later hb⟩⟩
def az.later {b:aj} (h:az w v b):az w' v b:=
 let⟨v2,v3,v4,e,h2,h3,h4⟩:=h
 ⟨v2,v3,v4,e,h2.later hb,h3.later hb,h4.later hb⟩
end
end Go.Proofs.Cz
