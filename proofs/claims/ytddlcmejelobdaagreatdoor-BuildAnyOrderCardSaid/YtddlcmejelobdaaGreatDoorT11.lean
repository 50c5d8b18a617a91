/- A part. Conditions: none. -/
import Derived.Test.YtddlcmejelobdaaGreatDoorProg
import Derived.WalkKit
set_option linter.all false
noncomputable section
namespace Go.Proofs
def Tw.stub:Code:=
 .seq (.region 7 #[{dst:=some 23,op:=.assign (.const (.int .i64 0)),type:=3,pos:= "",after:=#[],guard:=none},{dst:=some 23,op:=.assign (.const (.int .i64 1)),type:=3,pos:= "",after:=#[],guard:=none}] true)
   (.seq (.region 8 #[{dst:=some 24,op:=.binOp .eql 3 (.tmp 23) (.const (.int .i64 0)) 3,type:=4,pos:= "",after:=#[],guard:=none},{dst:=some 59,op:=.assign (.const (.int .i64 7)),type:=3,pos:= "",after:=#[],guard:=none}] false)
     (.seq (.cond (.tmp 24) (.region 9 #[{dst:=some 25,op:=.makeFunc (.func 196) #[] #[.tmp 1,.tmp 5,.tmp 59],type:=3,pos:= "",after:=#[],guard:=none},{dst:=some 28,op:=.makeInterface 3 (.tmp 25),type:=3,pos:= "",after:=#[],guard:=none},{dst:=none,op:=.panic (.tmp 28),type:=0,pos:= "",after:=#[],guard:=none}] false) .skip)
       (.seq (.region 10 #[{dst:=some 26,op:=.buildSlice 35 1 #[(0,.const (.int .i64 1))],type:=35,pos:= "",after:=#[],guard:=none},{dst:=some 27,op:=.call {callee:=.builtin .append,args:=#[.const (.slice none 0 0),.tmp 26],argTypes:=#[35,35]},type:=35,pos:= "",after:=#[],guard:=none},{dst:=some 2,op:=.assign (.tmp 27),type:=35,pos:= "",after:=#[],guard:=none},{dst:=some 3,op:=.assign (.const (.int .i64 0)),type:=30,pos:= "",after:=#[],guard:=none}] false)
         .ret)))
def WTl:Code->Code
 |.seq _ (.seq _ (.seq _ (.seq _ c)))=>c
 |c=>c
def Tw.put (t:Code):Code->Code
 |.seq x1 (.seq x2 (.seq x3 (.seq x4 _)))=>.seq x1 (.seq x2 (.seq x3 (.seq x4 t)))
 |c=>c
def WB:Code:=(Tryz.f30.body).getD .skip
def Tw.f30:Func:={Tryz.f30 with body:=some (Tw.put Tw.stub WB)}
def Tw.funcs:Array Func:=Tryz.funcs.setIfInBounds 30 Tw.f30
def WP:Program:={Tryz.prog with funcs:=Tw.funcs}
def Tw.same (i:Nat) (h:30≠i):WP.funcs[i]?=Tryz.prog.funcs[i]?:=by
 have e1:WP.funcs=Tw.funcs:=by simp only[WP]
 have e2:Tryz.prog.funcs=Tryz.funcs:=by simp only[Tryz.prog]
 rw[e1,e2];unfold Tw.funcs;exact Array.getElem?_setIfInBounds_ne h
def Tw.size:Tryz.funcs.size=195:=by kernel_rfl
def Tw.func30:WP.funcs[30]?=some Tw.f30:=by
 have e1:WP.funcs=Tw.funcs:=by simp only[WP]
 rw[e1];unfold Tw.funcs;exact Array.getElem?_setIfInBounds_self_of_lt (by rw[Tw.size];decide)
def Tw.ntmps30:Tw.f30.ntmps=60:=Tryz.ntmps30
def Tw.func9:WP.funcs[9]?=some Tryz.f9:=(Tw.same 9 (by decide)).trans Tryz.func9
def Tw.ntmps9:Tryz.f9.ntmps=288:=Tryz.ntmps9
end Go.Proofs
end
