/- A part. Conditions: none. -/
import Derived.Test.YtddlcmejelobdaaGreatDoorT07
import Derived.Test.YtddlcmejelobdaaGreatDoorProg
import Derived.WalkKit
set_option linter.all false
namespace Go.Proofs
def Tz.stub:Code:=.seq (.region 0 #[{dst:=some 0,op:=.assign (.const (.bool true)),type:=4,pos:= "",after:=#[],guard:=none}] false) .ret
noncomputable def Tz.f9:Func:={Tryz.f9 with body:=some Tz.stub}
def Tz.cut (t:Code):Code->Code
 |.seq x1 (.seq x2 (.seq x3 (.seq x4 _)))=>.seq x1 (.seq x2 (.seq x3 (.seq x4 t)))
 |c=>c
noncomputable def Tz.f30:Func:={Tryz.f30 with body:=some (Tz.cut (.refuse "") ((Tryz.f30.body).getD .skip))}
noncomputable def Tz.funcs:Array Func:=(Tryz.funcs.setIfInBounds 9 Tz.f9).setIfInBounds 30 Tz.f30
noncomputable def ZP:Program:={Tryz.prog with funcs:=Tz.funcs}
theorem Tz.ou:ZP.funcs=Tz.funcs:=by simp only[ZP]
theorem Tz.size:Tryz.funcs.size=195:=by kernel_rfl
theorem Tz.same (i:Nat) (h:9≠i/\30≠i):ZP.funcs[i]?=Tryz.prog.funcs[i]?:=by
 have e2:Tryz.prog.funcs=Tryz.funcs:=by simp only[Tryz.prog]
 rw[Tz.ou,e2];unfold Tz.funcs;rw[Array.getElem?_setIfInBounds_ne h.2];exact Array.getElem?_setIfInBounds_ne h.1
abbrev ZO (n:Nat):Prop:=∀(args:Array Value) (w:World),Sem.run ZP (Go.callFunc n args) w=.ok (.enter n args) w
abbrev ZQ (n:Nat) (f:Func):Prop:=ZP.funcs[n]?=some f
theorem ZS {n:Nat} {f:Func} (h:Tryz.prog.funcs[n]?=some f) (k:9≠n/\30≠n):ZQ n f:=(Tz.same n k).trans h
theorem ZF9:ZP.funcs[9]?=some Tz.f9:=by
 rw[Tz.ou];unfold Tz.funcs;rw[Array.getElem?_setIfInBounds_ne (by decide),Array.getElem?_setIfInBounds];simp[Tz.size]
theorem ZF30:ZP.funcs[30]?=some Tz.f30:=by
 rw[Tz.ou];unfold Tz.funcs;rw[Array.getElem?_setIfInBounds];simp[Tz.size]
theorem Tz.ntmps9:Tz.f9.ntmps=288:=Tryz.ntmps9
section
variable (P:Program) (F:Array Func)
theorem FT (t:TypeId):({P with funcs:=F}:Program).underlying t=P.underlying t:=rfl
theorem ov (t:TypeId) (w:World):Sem.run {P with funcs:=F} (Go.underlying t) w=Sem.run P (Go.underlying t) w:=by
 unfold Go.underlying;show Sem.run _ ((match P.underlying t with|some d=>pure d|none=>stuck "no such type"):Sem TypeDesc) w=Sem.run _ ((match P.underlying t with|some d=>pure d|none=>stuck "no such type"):Sem TypeDesc) w;cases P.underlying t<;>rfl
theorem pV (t:TypeId) (w:World):Sem.run {P with funcs:=F} (Go.typeInfo t) w=Sem.run P (Go.typeInfo t) w:=by
 unfold Go.typeInfo;show Sem.run _ ((match P.info? t with|some d=>pure d|none=>stuck "no such type"):Sem TypeInfo) w=Sem.run _ ((match P.info? t with|some d=>pure d|none=>stuck "no such type"):Sem TypeInfo) w;cases P.info? t<;>rfl
theorem zr (t:TypeId) (w:World):Sem.run {P with funcs:=F} (Go.sizeOf t) w=Sem.run P (Go.sizeOf t) w:=by
 unfold Go.sizeOf;simp only[Sem.run_bind,pV];cases Sem.run P (Go.typeInfo t) w<;>rfl
theorem Cg (t:TypeId) (w:World):Sem.run {P with funcs:=F} (Go.isAgg t) w=Sem.run P (Go.isAgg t) w:=by
 unfold Go.isAgg;simp only[Sem.run_bind,ov];cases Sem.run P (Go.underlying t) w with
 |ok d w1=>cases d<;>simp only[Result.andThen,Sem.run_pure]
 |halt h w1=>simp only[Result.andThen]
theorem zu (t:TypeId) (w:World):Sem.run {P with funcs:=F} (Go.zeroValue t) w=Sem.run P (Go.zeroValue t) w:=by
 unfold Go.zeroValue;simp only[Sem.run_bind,pV];cases Sem.run P (Go.typeInfo t) w with
 |ok d w1=>cases hz:d.zero<;>simp[Result.andThen,hz,Go.unsupported,Sem.run]
 |halt h w1=>simp only[Result.andThen]
end
@[simp] theorem Tz.under (t:TypeId):ZP.underlying t=Tryz.prog.underlying t:=FT Tryz.prog Tz.funcs t
@[simp] theorem Tz.stood (t:TypeId):ZP.stoodInHeld t=Tryz.prog.stoodInHeld t:=aq.js Tryz.prog Tz.funcs t
@[simp] theorem Tz.Vr (t:TypeId) (w:World):Sem.run ZP (Go.underlying t) w=Sem.run Tryz.prog (Go.underlying t) w:=ov Tryz.prog Tz.funcs t w
@[simp] theorem Tz.MG (t:TypeId) (w:World):Sem.run ZP (Go.zeroValue t) w=Sem.run Tryz.prog (Go.zeroValue t) w:=zu Tryz.prog Tz.funcs t w
@[simp] theorem Tz.XC (t:TypeId) (w:World):Sem.run ZP (Go.sizeOf t) w=Sem.run Tryz.prog (Go.sizeOf t) w:=zr Tryz.prog Tz.funcs t w
@[simp] theorem Tz.Re (t:TypeId) (w:World):Sem.run ZP (Go.isAgg t) w=Sem.run Tryz.prog (Go.isAgg t) w:=Cg Tryz.prog Tz.funcs t w
theorem Tz.ap {f:FuncId} {fn:Func} (h:ZP.funcs[f]? =some fn) (hb:fn.body.isSome=true) (hn:fn.name≠ "runtime.NumGoroutine") (args:Array Value) (w:World):Sem.run ZP (Go.callFunc f args) w=.ok (.enter f args) w:=by
 cases hc:fn.body with
 |none=>rw[hc]at hb;cases hb
 |some c=>
  unfold Go.callFunc;simp[Go.program,Sem.run,h,hc,hn]
theorem ZF3:ZQ 3 Tryz.f3:=ZS Tryz.func3 (by decide)
theorem ZF8:ZQ 8 Tryz.f8:=ZS Tryz.func8 (by decide)
@[simp] theorem ZC8:ZO 8:=Tz.ap ZF8 rfl (by decide)
@[simp] theorem ZC9:ZO 9:=Tz.ap ZF9 rfl (by decide)
theorem ZF10:ZQ 10 Tryz.f10:=ZS Tryz.func10 (by decide)
@[simp] theorem ZC10:ZO 10:=Tz.ap ZF10 rfl (by decide)
theorem ZF11:ZQ 11 Tryz.f11:=ZS Tryz.func11 (by decide)
@[simp] theorem ZC11:ZO 11:=Tz.ap ZF11 rfl (by decide)
theorem ZF12:ZQ 12 Tryz.f12:=ZS Tryz.func12 (by decide)
@[simp] theorem ZC12:ZO 12:=Tz.ap ZF12 rfl (by decide)
theorem ZF13:ZQ 13 Tryz.f13:=ZS Tryz.func13 (by decide)
@[simp] theorem ZC13:ZO 13:=Tz.ap ZF13 rfl (by decide)
theorem ZF14:ZQ 14 Tryz.f14:=ZS Tryz.func14 (by decide)
@[simp] theorem ZC14:ZO 14:=Tz.ap ZF14 rfl (by decide)
theorem ZF15:ZQ 15 Tryz.f15:=ZS Tryz.func15 (by decide)
@[simp] theorem ZC15:ZO 15:=Tz.ap ZF15 rfl (by decide)
theorem ZF31:ZQ 31 Tryz.f31:=ZS Tryz.func31 (by decide)
@[simp] theorem ZC31:ZO 31:=Tz.ap ZF31 rfl (by decide)
theorem ZF43:ZQ 43 Tryz.f43:=ZS Tryz.func43 (by decide)
@[simp] theorem ZC43:ZO 43:=Tz.ap ZF43 rfl (by decide)
theorem ZF51:ZQ 51 Tryz.f51:=ZS Tryz.func51 (by decide)
@[simp] theorem ZC51:ZO 51:=Tz.ap ZF51 rfl (by decide)
theorem ZF52:ZQ 52 Tryz.f52:=ZS Tryz.func52 (by decide)
@[simp] theorem ZC52:ZO 52:=Tz.ap ZF52 rfl (by decide)
theorem ZF53:ZQ 53 Tryz.f53:=ZS Tryz.func53 (by decide)
@[simp] theorem ZC53:ZO 53:=Tz.ap ZF53 rfl (by decide)
theorem ZF54:ZQ 54 Tryz.f54:=ZS Tryz.func54 (by decide)
@[simp] theorem ZC54:ZO 54:=Tz.ap ZF54 rfl (by decide)
theorem ZF55:ZQ 55 Tryz.f55:=ZS Tryz.func55 (by decide)
@[simp] theorem ZC55:ZO 55:=Tz.ap ZF55 rfl (by decide)
theorem ZF56:ZQ 56 Tryz.f56:=ZS Tryz.func56 (by decide)
@[simp] theorem ZC56:ZO 56:=Tz.ap ZF56 rfl (by decide)
theorem ZF57:ZQ 57 Tryz.f57:=ZS Tryz.func57 (by decide)
@[simp] theorem ZC57:ZO 57:=Tz.ap ZF57 rfl (by decide)
theorem ZF58:ZQ 58 Tryz.f58:=ZS Tryz.func58 (by decide)
@[simp] theorem ZC58:ZO 58:=Tz.ap ZF58 rfl (by decide)
theorem ZF59:ZQ 59 Tryz.f59:=ZS Tryz.func59 (by decide)
@[simp] theorem ZC59:ZO 59:=Tz.ap ZF59 rfl (by decide)
theorem ZF60:ZQ 60 Tryz.f60:=ZS Tryz.func60 (by decide)
@[simp] theorem ZC60:ZO 60:=Tz.ap ZF60 rfl (by decide)
theorem ZF61:ZQ 61 Tryz.f61:=ZS Tryz.func61 (by decide)
@[simp] theorem ZC61:ZO 61:=Tz.ap ZF61 rfl (by decide)
theorem ZF62:ZQ 62 Tryz.f62:=ZS Tryz.func62 (by decide)
@[simp] theorem ZC62:ZO 62:=Tz.ap ZF62 rfl (by decide)
theorem ZF63:ZQ 63 Tryz.f63:=ZS Tryz.func63 (by decide)
@[simp] theorem ZC63:ZO 63:=Tz.ap ZF63 rfl (by decide)
theorem ZF64:ZQ 64 Tryz.f64:=ZS Tryz.func64 (by decide)
@[simp] theorem ZC64:ZO 64:=Tz.ap ZF64 rfl (by decide)
theorem ZF76:ZQ 76 Tryz.f76:=ZS Tryz.func76 (by decide)
@[simp] theorem ZC76:ZO 76:=Tz.ap ZF76 rfl (by decide)
theorem ZF77:ZQ 77 Tryz.f77:=ZS Tryz.func77 (by decide)
@[simp] theorem ZC77:ZO 77:=Tz.ap ZF77 rfl (by decide)
theorem ZF82:ZQ 82 Tryz.f82:=ZS Tryz.func82 (by decide)
@[simp] theorem ZC82:ZO 82:=Tz.ap ZF82 rfl (by decide)
theorem ZF85:ZQ 85 Tryz.f85:=ZS Tryz.func85 (by decide)
@[simp] theorem ZC85:ZO 85:=Tz.ap ZF85 rfl (by decide)
theorem ZF99:ZQ 99 Tryz.f99:=ZS Tryz.func99 (by decide)
@[simp] theorem ZC99:ZO 99:=Tz.ap ZF99 rfl (by decide)
theorem ZF102:ZQ 102 Tryz.f102:=ZS Tryz.func102 (by decide)
@[simp] theorem ZC102:ZO 102:=Tz.ap ZF102 rfl (by decide)
theorem ZF105:ZQ 105 Tryz.f105:=ZS Tryz.func105 (by decide)
@[simp] theorem ZC105:ZO 105:=Tz.ap ZF105 rfl (by decide)
theorem ZF106:ZQ 106 Tryz.f106:=ZS Tryz.func106 (by decide)
@[simp] theorem ZC106:ZO 106:=Tz.ap ZF106 rfl (by decide)
theorem ZF107:ZQ 107 Tryz.f107:=ZS Tryz.func107 (by decide)
@[simp] theorem ZC107:ZO 107:=Tz.ap ZF107 rfl (by decide)
theorem ZF110:ZQ 110 Tryz.f110:=ZS Tryz.func110 (by decide)
theorem ZF111:ZQ 111 Tryz.f111:=ZS Tryz.func111 (by decide)
@[simp] theorem ZC111:ZO 111:=Tz.ap ZF111 rfl (by decide)
theorem ZF112:ZQ 112 Tryz.f112:=ZS Tryz.func112 (by decide)
@[simp] theorem ZC112:ZO 112:=Tz.ap ZF112 rfl (by decide)
theorem ZF113:ZQ 113 Tryz.f113:=ZS Tryz.func113 (by decide)
@[simp] theorem ZC113:ZO 113:=Tz.ap ZF113 rfl (by decide)
theorem ZF114:ZQ 114 Tryz.f114:=ZS Tryz.func114 (by decide)
@[simp] theorem ZC114:ZO 114:=Tz.ap ZF114 rfl (by decide)
theorem ZF115:ZQ 115 Tryz.f115:=ZS Tryz.func115 (by decide)
@[simp] theorem ZC115:ZO 115:=Tz.ap ZF115 rfl (by decide)
theorem ZF116:ZQ 116 Tryz.f116:=ZS Tryz.func116 (by decide)
@[simp] theorem ZC116:ZO 116:=Tz.ap ZF116 rfl (by decide)
theorem ZF117:ZQ 117 Tryz.f117:=ZS Tryz.func117 (by decide)
@[simp] theorem ZC117:ZO 117:=Tz.ap ZF117 rfl (by decide)
theorem ZF118:ZQ 118 Tryz.f118:=ZS Tryz.func118 (by decide)
@[simp] theorem ZC118:ZO 118:=Tz.ap ZF118 rfl (by decide)
theorem ZF121:ZQ 121 Tryz.f121:=ZS Tryz.func121 (by decide)
@[simp] theorem ZC121:ZO 121:=Tz.ap ZF121 rfl (by decide)
theorem ZF126:ZQ 126 Tryz.f126:=ZS Tryz.func126 (by decide)
@[simp] theorem ZC126:ZO 126:=Tz.ap ZF126 rfl (by decide)
theorem ZF131:ZQ 131 Tryz.f131:=ZS Tryz.func131 (by decide)
@[simp] theorem ZC131:ZO 131:=Tz.ap ZF131 rfl (by decide)
theorem ZF134:ZQ 134 Tryz.f134:=ZS Tryz.func134 (by decide)
@[simp] theorem ZC134:ZO 134:=Tz.ap ZF134 rfl (by decide)
theorem ZF135:ZQ 135 Tryz.f135:=ZS Tryz.func135 (by decide)
@[simp] theorem ZC135:ZO 135:=Tz.ap ZF135 rfl (by decide)
theorem ZF136:ZQ 136 Tryz.f136:=ZS Tryz.func136 (by decide)
@[simp] theorem ZC136:ZO 136:=Tz.ap ZF136 rfl (by decide)
theorem ZF137:ZQ 137 Tryz.f137:=ZS Tryz.func137 (by decide)
@[simp] theorem ZC137:ZO 137:=Tz.ap ZF137 rfl (by decide)
theorem ZF139:ZQ 139 Tryz.f139:=ZS Tryz.func139 (by decide)
theorem ZF140:ZQ 140 Tryz.f140:=ZS Tryz.func140 (by decide)
@[simp] theorem ZC140:ZO 140:=Tz.ap ZF140 rfl (by decide)
theorem ZF141:ZQ 141 Tryz.f141:=ZS Tryz.func141 (by decide)
@[simp] theorem ZC141:ZO 141:=Tz.ap ZF141 rfl (by decide)
theorem ZF143:ZQ 143 Tryz.f143:=ZS Tryz.func143 (by decide)
@[simp] theorem ZC143:ZO 143:=Tz.ap ZF143 rfl (by decide)
theorem ZF144:ZQ 144 Tryz.f144:=ZS Tryz.func144 (by decide)
@[simp] theorem ZC144:ZO 144:=Tz.ap ZF144 rfl (by decide)
theorem ZF156:ZQ 156 Tryz.f156:=ZS Tryz.func156 (by decide)
@[simp] theorem ZC156:ZO 156:=Tz.ap ZF156 rfl (by decide)
theorem ZF157:ZQ 157 Tryz.f157:=ZS Tryz.func157 (by decide)
@[simp] theorem ZC157:ZO 157:=Tz.ap ZF157 rfl (by decide)
theorem ZF158:ZQ 158 Tryz.f158:=ZS Tryz.func158 (by decide)
@[simp] theorem ZC158:ZO 158:=Tz.ap ZF158 rfl (by decide)
theorem ZF165:ZQ 165 Tryz.f165:=ZS Tryz.func165 (by decide)
@[simp] theorem ZC165:ZO 165:=Tz.ap ZF165 rfl (by decide)
theorem ZF183:ZQ 183 Tryz.f183:=ZS Tryz.func183 (by decide)
@[simp] theorem ZC183:ZO 183:=Tz.ap ZF183 rfl (by decide)
theorem ZF184:ZQ 184 Tryz.f184:=ZS Tryz.func184 (by decide)
@[simp] theorem ZC184:ZO 184:=Tz.ap ZF184 rfl (by decide)
theorem ZF185:ZQ 185 Tryz.f185:=ZS Tryz.func185 (by decide)
@[simp] theorem ZC185:ZO 185:=Tz.ap ZF185 rfl (by decide)
theorem ZF186:ZQ 186 Tryz.f186:=ZS Tryz.func186 (by decide)
@[simp] theorem ZC186:ZO 186:=Tz.ap ZF186 rfl (by decide)
theorem ZF187:ZQ 187 Tryz.f187:=ZS Tryz.func187 (by decide)
@[simp] theorem ZC187:ZO 187:=Tz.ap ZF187 rfl (by decide)
theorem ZF188:ZQ 188 Tryz.f188:=ZS Tryz.func188 (by decide)
@[simp] theorem ZC188:ZO 188:=Tz.ap ZF188 rfl (by decide)
theorem ZF189:ZQ 189 Tryz.f189:=ZS Tryz.func189 (by decide)
@[simp] theorem ZC189:ZO 189:=Tz.ap ZF189 rfl (by decide)
theorem ZF190:ZQ 190 Tryz.f190:=ZS Tryz.func190 (by decide)
@[simp] theorem ZC190:ZO 190:=Tz.ap ZF190 rfl (by decide)
end Go.Proofs
