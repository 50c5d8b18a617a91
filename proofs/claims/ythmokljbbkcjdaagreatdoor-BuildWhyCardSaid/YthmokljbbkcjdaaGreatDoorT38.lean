/- A part of the proof that BuildWhy returns true. Conditions: none. -/
import Derived.Test.YthmokljbbkcjdaaGreatDoorT37
import Derived.Great.BuildSlice
import Derived.Laws.Append
set_option linter.unusedVariables false
set_option linter.unusedSimpArgs false
section
namespace Go.Proofs.Cw
open Go.Ev
theorem mixed7:(Tw.prog.follows .mixedOrders||!Region.departs q7o)=true:=by kernel_rfl
theorem lin0:Region.linearise .any q7o 0=[0,1]:=by kernel_rfl
theorem lin1:Region.linearise .any q7o 1=[1,0]:=by kernel_rfl
theorem sched7 (t:Nat):Region.schedule (Tw.prog.follows .mixedOrders) q7o t=Region.linearise .any q7o t:=by
 unfold Region.schedule
 rw[if_pos mixed7]
section
variable {b:Frame} {tm:Array Value} {k:List Item} {cs:List Frame} {w:World}
theorem st_drawT {P:Program} {id:Nat} {ops:Array Oper}:step P (lone (atF b tm [] (.code (.region id ops true)::k)) cs w)=.next (lone (atF b tm [] (.inRegion ops (Region.schedule (P.follows .mixedOrders) ops (w.tape w.drawn (.order b.fn id)))::k)) cs {w with drawn:=w.drawn+1}):=by
 refine go_exec rfl ?_
 unfold stepG.exec
 simp[atF,choose,Sem.run,pure,Question.forced,Question.cut]
theorem set2 (a:Array Value) (i:Nat) (x y:Value):(a.setIfInBounds i x).setIfInBounds i y=a.setIfInBounds i y:=by simp
theorem hole7a (h:∀q,w.tape w.drawn q=0):Steps Tw.prog (lone (atF b tm [] (.code (.region 7 q7o true)::k)) cs w) (lone (atF b (tm.setIfInBounds 23 (.int .i64 1)) [] k) cs {w with drawn:=w.drawn+1}):=by
 refine .head st_drawT ?_
 rw[h,sched7,lin0]
 refine .head (st_value (o:=op9 (some 23) (.assign (.const (.int .i64 0))) 3) rfl rfl rfl rfl) (.head (st_value (o:=op9 (some 23) (.assign (.const (.int .i64 1))) 3) rfl rfl rfl rfl) ?_)
 show Steps _ (lone (atF b ((tm.setIfInBounds 23 (.int .i64 0)).setIfInBounds 23 (.int .i64 1)) [] (.inRegion q7o []::k)) cs _) _
 rw[set2]
 exact .one st_regionEnd
theorem hole7b (h:∀q,w.tape w.drawn q=1):Steps Tw.prog (lone (atF b tm [] (.code (.region 7 q7o true)::k)) cs w) (lone (atF b (tm.setIfInBounds 23 (.int .i64 0)) [] k) cs {w with drawn:=w.drawn+1}):=by
 refine .head st_drawT ?_
 rw[h,sched7,lin1]
 refine .head (st_value (o:=op9 (some 23) (.assign (.const (.int .i64 1))) 3) rfl rfl rfl rfl) (.head (st_value (o:=op9 (some 23) (.assign (.const (.int .i64 0))) 3) rfl rfl rfl rfl) ?_)
 show Steps _ (lone (atF b ((tm.setIfInBounds 23 (.int .i64 1)).setIfInBounds 23 (.int .i64 0)) [] (.inRegion q7o []::k)) cs _) _
 rw[set2]
 exact .one st_regionEnd
theorem hole8 {z:Int} (h23:tm.getD 23 undef=.int .i64 z):Steps Tw.prog (lone (atF b tm [] (.code (.region 8 q8o false)::k)) cs w) (lone (atF b ((tm.setIfInBounds 24 (.bool (z==0))).setIfInBounds 59 (.int .i64 7)) [] k) cs w):=by
 refine .head st_region ?_
 show Steps _ (lone (atF b tm [] (.inRegion q8o [0,1]::k)) cs w) _
 refine .head (st_value (o:=op9 (some 24) (.binOp .eql 3 (.tmp 23) (.const (.int .i64 0)) 3) 4) (v:=.bool (z==0)) (w1:=w) rfl rfl rfl ?_) (.head (st_value (o:=op9 (some 59) (.assign (.const (.int .i64 7))) 3) rfl rfl rfl rfl) (.one st_regionEnd))
 simp only[op9,execOp,eval_as]
 simp[go_sem,h23,int3]
theorem hole9 (h59:tm.getD 59 undef=.int .i64 7) (hsz:60≤tm.size):
 ∃tm',Steps Tw.prog (lone (atF b tm [] (.code (.region 9 q9o false)::k)) cs w) (lone ((atF b tm' [] (.inRegion q9o [2]::k)).raise [{v:=.iface 3 (.func (.func 170) #[] #[tm.getD 1 undef,tm.getD 5 undef,.int .i64 7]),recovered:=false}]) cs w):=by
 let f:Value:=.func (.func 170) #[] #[tm.getD 1 undef,tm.getD 5 undef,.int .i64 7]
 let tm1:=putA tm (some 25) f
 let tm2:=putA tm1 (some 28) (.iface 3 f)
 have g1:tm1.getD 25 undef=f:=by
  show(tm.setIfInBounds 25 f).getD 25 undef=_
  exact Go.Par.getD_set_same _ _ _ _ (by omega)
 have g2:tm2.getD 28 undef=.iface 3 f:=by
  show(tm1.setIfInBounds 28 (.iface 3 f)).getD 28 undef=_
  exact Go.Par.getD_set_same _ _ _ _ (by show 28<(tm.setIfInBounds 25 f).size;simp;omega)
 refine⟨tm2,.head st_region ?_⟩
 show Steps _ (lone (atF b tm [] (.inRegion q9o [0,1,2]::k)) cs w) _
 refine .head (st_value (o:=op9 (some 25) (.makeFunc (.func 170) #[] #[.tmp 1,.tmp 5,.tmp 59]) 3) (v:=f) (w1:=w) rfl rfl rfl ?_) (.head (st_value (o:=op9 (some 28) (.makeInterface 3 (.tmp 25)) 3) (v:=.iface 3 f) (w1:=w) rfl rfl rfl ?_) (.one (st_panic (o:=op9 none (.panic (.tmp 28)) 0) (v:=.iface 3 f) (w1:=w) rfl rfl rfl ?_)))
 ·show Result.ok (Next.value (.func (.func 170) (#[].map _) (#[Operand.tmp 1,.tmp 5,.tmp 59].map (atF b tm [] _).eval))) w=_
  simp[eval_as,h59,f]
 ·show((Instr.makeInterface 3 (tm1.getD 25 undef)>>=fun v=>(Pure.pure (.value v):Sem Next))).run Tw.prog w=_
  rw[g1]
  unfold Instr.makeInterface underlying
  simp[program,int3,f,Sem.run]
 ·show((Instr.panic (tm2.getD 28 undef)>>=fun v=>(Pure.pure (.value v):Sem Next))).run Tw.prog w=_
  rw[g2]
  rfl
def row1 (n:Nat):Obj:=.cells (#[.int .i64 1]++Builtin.zeroCells #[.int .i64 0] n) 3 (0,0)
theorem info3:(Tw.prog.info? 3).map (fun i=>(i.zero,i.size,i.bytes))=some (some (.int .i64 0),1,8):=by kernel_rfl
theorem u32:Tw.prog.underlying 32=some (.slice 3):=by kernel_rfl
theorem info3':∃i,Tw.prog.info? 3=some i∧i.zero=some (.int .i64 0)∧i.size=1∧i.bytes=8:=by
 have h:=info3
 cases hi:Tw.prog.info? 3 with
 |none=>rw[hi]at h;cases h
 |some i=>
  rw[hi]at h
  simp only[Option.map_some,Option.some.injEq,Prod.mk.injEq]at h
  exact⟨i,rfl,h.1,h.2.1,h.2.2⟩
theorem run_one:(Instr.buildSlice 32 1 #[(0,.int .i64 1)]).run Tw.prog w=.ok (.slice (some ⟨w.heap.size,0,none⟩) 1 1) (w.alloc (.cells #[.int .i64 1] 3)):=by
 obtain⟨i,hi,hz,hs,_⟩:=info3'
 refine run_buildSlice w 32 3 1 _ _ i _ u32 hi hz (by rw[hs];decide) (by rw[hs];decide) ?_
 rw[hs]
 kernel_rfl
theorem run_app {n:Nat} (hn:n+1<2^63) {r:Nat} (hr:w.heap[r]?=some (.cells #[.int .i64 1] 3 (0,0))) (ht:∀q,w.tape w.drawn q=n):
 (Builtin.append_ #[32,32] 32 #[.slice none 0 0,.slice (some ⟨r,0,none⟩) 1 1]).run Tw.prog w=.ok (.slice (some ⟨w.heap.size,0,none⟩) 1 (n+1)) (w.drew.alloc (row1 n)):=by
 obtain⟨i,hi,hz,hs,hb⟩:=info3'
 have hg:grownCap w 1 0 3=n+1:=by
  unfold grownCap
  rw[ht]
  show 1+n%(2^63-1)=n+1
  rw[Nat.mod_eq_of_lt (by omega)]
  omega
 have h:=run_append_nil (P:=Tw.prog) (w:=w) 32 32 3 i (.int .i64 0) u32 hi hz ⟨r,0,none⟩ 1 1 [.int .i64 1] (by rw[hs];rfl) (fun j v hj=>by
  match j,hj with
  |0,hj=>
   simp only[List.getElem?_cons_zero,Option.some.injEq]at hj
   subst hj
   simp[World.cell?,Addr.add,hr]
  |j+1,hj=>simp at hj) (by omega) (by omega) (by rw[hb];omega)
 rw[h,hg]
 rfl
theorem x_build (ev:Operand→Value) (hc:∀v,ev (.const v)=v):(execOp ev (op9 (some 26) (.buildSlice 32 1 #[(0,.const (.int .i64 1))]) 32)).run Tw.prog w=.ok (.value (.slice (some ⟨w.heap.size,0,none⟩) 1 1)) (w.alloc (.cells #[.int .i64 1] 3)):=by
 simp only[op9,execOp]
 simp[hc,run_one]
theorem x_app (ev:Operand→Value) (hc:∀v,ev (.const v)=v) {n:Nat} (hn:n+1<2^63) {r:Nat} (hr:w.heap[r]?=some (.cells #[.int .i64 1] 3 (0,0))) (ht:∀q,w.tape w.drawn q=n) (h:ev (.tmp 26)=.slice (some ⟨r,0,none⟩) 1 1):
 (execOp ev (op9 (some 27) (.call {callee:=.builtin .append,args:=#[.const (.slice none 0 0),.tmp 26],argTypes:=#[32,32]}) 32)).run Tw.prog w=.ok (.value (.slice (some ⟨w.heap.size,0,none⟩) 1 (n+1))) (w.drew.alloc (row1 n)):=by
 have e:(execOp ev (op9 (some 27) (.call {callee:=.builtin .append,args:=#[.const (.slice none 0 0),.tmp 26],argTypes:=#[32,32]}) 32))=(Builtin.append_ #[32,32] 32 #[ev (.const (.slice none 0 0)),ev (.tmp 26)]>>=fun v=>(Pure.pure (.value v):Sem Next)):=by
  have e2:Array.map ev #[Operand.const (Value.slice none 0 0),Operand.tmp 26]=#[ev (.const (.slice none 0 0)),ev (.tmp 26)]:=by simp
  rw[←e2]
  rfl
 rw[e,hc,h,Sem.run_bind,run_app hn hr ht]
 rfl
theorem x_assign (ev:Operand→Value) (d:Option Nat) (x:Operand) (t:TypeId) {v:Value} (h:ev x=v):(execOp ev (op9 d (.assign x) t)).run Tw.prog w=.ok (.value v) w:=by
 subst h;rfl
theorem x_res {tm:Array Value} {v:Value} (h2:tm.getD 2 undef=v) (h3:tm.getD 3 undef=.int .i64 0):(results Tw.f44 tm).run Tw.prog w=.ok (.tuple #[v,.int .i64 0]) w:=by
 have:Tw.f44.results=#[.tmp 2,.tmp 3]:=rfl
 unfold results
 rw[this]
 simp at h2 h3
 simp[h2,h3]
theorem hole10 (hro:b.roundOf=none) (hkd:b.kind=.normal) (hfn:b.fn=44) (hsz:60≤tm.size) {n:Nat} (hn:n+1<2^63) (ht:∀q,w.tape w.drawn q=n) (c:Frame):
 Steps Tw.prog (lone (atF b tm [] (.code (.seq (.region 10 q10o false) .ret)::k)) (c::cs) w) (lone (c.finish (.tuple #[.slice (some ⟨w.heap.size+1,0,none⟩) 1 (n+1),.int .i64 0])) cs (((w.alloc (.cells #[.int .i64 1] 3)).drew).alloc (row1 n))):=by
 let v26:Value:=.slice (some ⟨w.heap.size,0,none⟩) 1 1
 let w1:=w.alloc (.cells #[.int .i64 1] 3)
 let v27:Value:=.slice (some ⟨w.heap.size+1,0,none⟩) 1 (n+1)
 let w2:=w1.drew.alloc (row1 n)
 let tm1:=putA tm (some 26) v26
 let tm2:=putA tm1 (some 27) v27
 let tm3:=putA tm2 (some 2) v27
 let tm4:=putA tm3 (some 3) (.int .i64 0)
 have s1:tm1.size=tm.size:=by simp[tm1,putA]
 have s2:tm2.size=tm.size:=by simp[tm2,putA,s1]
 have s3:tm3.size=tm.size:=by simp[tm3,putA,s2]
 have g26:tm1.getD 26 undef=v26:=Go.Par.getD_set_same _ _ _ _ (by omega)
 have g27:tm2.getD 27 undef=v27:=Go.Par.getD_set_same _ _ _ _ (by omega)
 have g2:tm4.getD 2 undef=v27:=by
  show(tm3.setIfInBounds 3 _).getD 2 undef=_
  rw[Go.Par.getD_set_ne _ _ _ (by decide)]
  exact Go.Par.getD_set_same _ _ _ _ (by omega)
 have g3:tm4.getD 3 undef=.int .i64 0:=Go.Par.getD_set_same _ _ _ _ (by omega)
 have hw1:w1.heap[w.heap.size]?=some (.cells #[.int .i64 1] 3 (0,0)):=by show(w.heap.push _)[w.heap.size]?=_;simp
 refine .head st_seq (.head st_region ?_)
 show Steps _ (lone (atF b tm [] (.inRegion q10o [0,1,2,3]:: .code .ret::k)) (c::cs) w) _
 refine .head (st_value (o:=op9 (some 26) (.buildSlice 32 1 #[(0,.const (.int .i64 1))]) 32) (v:=v26) (w1:=w1) rfl rfl rfl ?_) (.head (st_value (o:=op9 (some 27) (.call {callee:=.builtin .append,args:=#[.const (.slice none 0 0),.tmp 26],argTypes:=#[32,32]}) 32) (v:=v27) (w1:=w2) rfl rfl rfl ?_)
  (.head (st_value (o:=op9 (some 2) (.assign (.tmp 27)) 32) (v:=v27) (w1:=w2) rfl rfl rfl ?_) (.head (st_value (o:=op9 (some 3) (.assign (.const (.int .i64 0))) 35) (v:=.int .i64 0) (w1:=w2) rfl rfl rfl rfl) (.head st_regionEnd (.head (st_leave (j:=some .ret) rfl ⟨_,rfl⟩ hro) (.one (st_return (b:=b) (fn:=Tw.f44) (by rw[hfn];exact Tw.func44) hkd ?_ c)))))))
 ·exact x_build _ fun _=>rfl
 ·have hws:w1.heap.size=w.heap.size+1:=by simp[w1]
  have e:=x_app (atF b tm1 [] (.inRegion q10o [1,2,3]:: .code .ret::k)).eval (fun _=>rfl) hn hw1 ht g26
  rw[hws]at e
  exact e
 ·exact x_assign _ _ _ _ g27
 ·exact x_res g2 g3
end
end Go.Proofs.Cw
end
section
namespace Go.Proofs.Cw
open Go.Conc Go.Par
theorem alike_some {w w':World} (h:Par.Alike w w') {r:Nat} {c:Array Value} {e:TypeId} {fz:Nat×Nat} (x:w'.heap[r]?=some (.cells c e fz)):w.heap[r]?=some (.cells c e fz):=by
 rcases h r with h|⟨_,d,h⟩
 ·rw[←h];exact x
 ·rw[h]at x;cases x
theorem alike_lt {w w':World} (h:Par.Alike w w') {r:Nat} (x:r<w'.heap.size):r<w.heap.size:=by
 refine Classical.byContradiction fun hn=>?_
 have hx:=Array.getElem?_eq_getElem x
 rcases h r with h|⟨⟨d,h⟩,_⟩
 ·rw[hx,Array.getElem?_eq_none (by omega)]at h;cases h
 ·rw[Array.getElem?_eq_none (by omega)]at h;cases h
theorem hb_cells {r:Nat} {o:Obj} (h:(Ev.mkH 6000 hbL).get r=some o):∃c e fz,o=.cells c e fz:=by
 obtain⟨_,c,e,fz,h,_⟩:=hb_row (Ev.mkH_mem h)
 exact⟨c,e,fz,h⟩
theorem exB_alike {w w':World} (h:Par.Alike w w') {bv:Value} (x:ExB w' bv):ExB w bv:=by
 obtain⟨p,hr,hv,hG,hf⟩:=x
 refine⟨p,⟨fun r hF o ho=>?_,hr.inj,fun r r' hp=>alike_lt h (hr.lt r r' hp),hr.xm,hr.ok,?_⟩,hv,hG,hf⟩
 ·obtain⟨r',o',b1,b2,b3,b4,b5⟩:=hr.blk r hF o ho
  obtain⟨c,e,fz,rfl⟩:=hb_cells ho
  refine⟨r',o',b1,?_,b3,b4,b5⟩
  cases b3 with
  |cells=>exact alike_some h b2
  |cellsX=>exact alike_some h b2
 ·have h1:=hr.glob
  have h2:Tw.prog.globals.size=1:=globs1
  rw[h2]at h1⊢
  have:=alike_lt h (r:=0) (by omega)
  omega
theorem cc_alike {u:Value} {w w':World} (h:Par.Alike w w') (x:CC ExB u w'):CC ExB u w:=by
 obtain⟨r1,r5,b0,b1,b2,b3,a0,cp0,c0,c1,c2,c3,a,cp,fz,fz',hval,m1,m5,D,hD,hDv,hEx⟩:=x
 refine⟨r1,r5,b0,b1,b2,b3,a0,cp0,c0,c1,c2,c3,a,cp,fz,fz',hval,alike_some h m1,alike_some h m5,D,fun r hr=>?_,hDv,exB_alike h hEx⟩
 obtain⟨cs,e,fz,h1,h2⟩:=hD r hr
 exact⟨cs,e,fz,alike_some h h1,h2⟩
def rOf (u:Value):Nat:=match u with
 |.tuple xs=>match xs.getD 0 undef with
  |.slice (some a) _ _=>a.block
  |_=>0
 |_=>0
def cOf (u:Value):Nat:=match u with
 |.tuple xs=>match xs.getD 0 undef with
  |.slice _ _ c=>c
  |_=>0
 |_=>0
def q44 (p:Pi) (L:Nat) (u':Value):Pi:=fun a b=>p a b∨(a=L+1∧b=rOf u')
theorem reg7_not (H:Code→Code→Prop) (h:∀c,¬H c (.region 7 ops7 true)) {c:Code} (hc:CR Tw.prog Sm H c (.region 7 ops7 true)):False:=by
 cases hc with
 |same h1=>
  have:codeOk Tw.prog Sm (.region 7 ops7 true)=false:=by kernel_rfl
  rw[this]at h1;cases h1
 |hole h2=>exact h _ h2
theorem only44 {fn:FuncId} {c c' c0:Code} (h:H44 fn c c') (hc:CR Tw.prog Sm (H44 fn) c0 c'):H44 fn c0 c':=by
 obtain⟨h1,h2,h3⟩:=h
 rw[h3]at hc⊢
 have key:∀x,x=cC→CR Tw.prog Sm (H44 fn) c0 x→H44 fn c0 cC:=fun x hx hc=>by
  cases hc with
  |same h4=>
   have:codeOk Tw.prog Sm cC=false:=by kernel_rfl
   rw[←hx]at this
   rw[this]at h4;cases h4
  |hole h5=>rw[hx]at h5;exact h5
  |seq ha hb=>
   rw[cC_eq]at hx
   injection hx with e1 e2
   rw[e1]at ha
   exact(reg7_not _ (fun c h=>by have:=h.2.2;rw[cC_eq]at this;cases this) ha).elim
  |cond=>rw[cC_eq]at hx;cases hx
  |block=>rw[cC_eq]at hx;cases hx
  |loop=>rw[cC_eq]at hx;cases hx
 exact key cC rfl hc
theorem at_lf {tm:Array Value} {k:List Item}:b44.at ⟨tm,[]⟩ k=Ev.atF b44 tm [] k:=rfl
theorem wide44 {p:Pi} {lf f:Frame} (hf:FrR Tw.prog Sm H44 p lf f) (hh:Hat H44 lf f):60≤lf.tmps.size:=by
 obtain⟨hm,hm',a,b,lk,k,ht,ht',h44,ha,hb⟩:=hh
 have hfn:lf.fn=44:=hf.fn.trans h44
 have h:=(hf.wide.resolve_left fun h=>h _ _ ⟨hfn,rfl,rfl⟩) Tw.f44 (by rw[hfn];exact Tw.func44)
 have hnt:Tw.f44.ntmps=60:=Tw.ntmps44
 omega
theorem head_pos {P:Program} {fr g c:Frame} {cs:List Frame} {w w1:World} (h:Steps P (lone fr (c::cs) w) (lone g cs w1)):∃n,1≤n∧runN P n (lone fr (c::cs) w)=.next (lone g cs w1):=by
 obtain⟨n,hn⟩:=h
 cases n with
 |zero=>
  simp only[runN,Stepped.next.injEq,lone,Machine.mk.injEq]at hn
  simp at hn
 |succ n=>exact⟨n+1,by omega,hn⟩
theorem zero_row (n j:Nat) (v:Value) (h:(Builtin.zeroCells #[.int .i64 0] n)[j]?=some v):v=.int .i64 0:=by
 unfold Builtin.zeroCells at h
 rw[Array.getElem?_map]at h
 cases hr:(Array.range (n*(#[Value.int .i64 0]:Array Value).size))[j]? with
 |none=>rw[hr]at h;cases h
 |some x=>
  rw[hr]at h
  simp only[Option.map_some,Option.some.injEq]at h
  rw[←h]
  have:x%1=0:=Nat.mod_one x
  simp[this]
theorem row_rel {S:Nat→Bool} {p:Pi} (n:Nat):AR S p (#[.int .i64 1]++Builtin.zeroCells #[.int .i64 0] n) (#[.int .i64 1]++Array.replicate n (.int .i64 0)):=by
 refine⟨by simp[Builtin.zeroCells],fun i x y h1 h2=>?_⟩
 have e1:x=if i=0 then .int .i64 1 else .int .i64 0:=by
  rw[Array.getElem?_append]at h1
  split at h1
  ·rename_i hi
   have:i=0:=by simpa using hi
   subst this
   simp at h1
   simp[h1]
  ·rename_i hi
   have:i≠0:=by intro h;simp[h]at hi
   rw[if_neg this]
   exact zero_row n _ _ h1
 have e2:y=if i=0 then .int .i64 1 else .int .i64 0:=by
  rw[Array.getElem?_append]at h2
  split at h2
  ·rename_i hi
   have:i=0:=by simpa using hi
   subst this
   simp at h2
   simp[h2]
  ·rename_i hi
   have:i≠0:=by intro h;simp[h]at hi
   rw[if_neg this]
   rw[Array.getElem?_replicate]at h2
   split at h2
   ·exact(Option.some.inj h2).symm
   ·cases h2
 rw[e1,e2]
 split
 ·exact .int _ _
 ·exact .int _ _
theorem bareM:∀o,holeOp Sm o=false:=bare_of fun n h=>by
 cases hs:Sm n with
 |false=>rfl
 |true=>rcases sm_lt hs with h|h<;>omega
noncomputable def holeL (N:Nat):HoleL Tw.prog Sm H44 N (HA ExB) HP (CC ExB)where
 a0:=fun _=>1
 m1:=2
 ans:=fun u' _ i _=>match i with|0=>0|_=>cOf u'-1
 ln:=2
 q3:=fun p L _ _ u' _=>q44 p L u'
 val:=valOf
 only:=fun fn c c' c0 h hc=>.inl (only44 h hc)
 marked:=markedM
 bare:=bareM
 stands:=fun v w w' h x=>cc_alike h x
 check:=fun p lf f v cs hf hh ht=>by
  obtain⟨k,lk,_,elf⟩:=frame_eq hf hh
  have hsz:=wide44 hf hh
  rw[stub_eq,at_lf]at elf
  let tm1:=lf.tmps.setIfInBounds 23 (.int .i64 0)
  let tm2:=(tm1.setIfInBounds 24 (.bool true)).setIfInBounds 59 (.int .i64 7)
  have z1:tm1.size=lf.tmps.size:=by simp[tm1]
  have z2:tm2.size=lf.tmps.size:=by simp[tm2,z1]
  have g23:tm1.getD 23 undef=.int .i64 0:=getD_set_same _ _ _ _ (by omega)
  have g24:tm2.getD 24 undef=.bool true:=by
   show((tm1.setIfInBounds 24 (.bool true)).setIfInBounds 59 (.int .i64 7)).getD 24 undef=_
   rw[Go.Par.getD_set_ne _ _ _ (by decide)]
   exact getD_set_same _ _ _ _ (by omega)
  have g59:tm2.getD 59 undef=.int .i64 7:=getD_set_same _ _ _ _ (by simp;omega)
  have low:∀i,i<20→tm2.getD i undef=lf.tmps.getD i undef:=fun i hi=>by
   show((tm1.setIfInBounds 24 (.bool true)).setIfInBounds 59 (.int .i64 7)).getD i undef=_
   rw[Go.Par.getD_set_ne _ _ _ (by omega),Go.Par.getD_set_ne _ _ _ (by omega),Go.Par.getD_set_ne _ _ _ (by omega)]
  have v59:(lf.tmps.setIfInBounds 59 (.int .i64 7)).getD 59 undef=.int .i64 7:=getD_set_same _ _ _ _ (by omega)
  let v1:World:={v with drawn:=v.drawn+1}
  let k1:List Item:=[.code (.seq (.region 10 q10o false) .ret)]++lk
  obtain⟨tm',h9⟩:=hole9 (b:=b44) (tm:=tm2) (k:=.code (.seq (.region 10 q10o false) .ret)::lk) (cs:=cs) (w:=v1) g59 (by omega)
  have el:lone lf cs v=lone (Ev.atF b44 lf.tmps [] (.code (.seq (.region 7 q7o true) after7)::lk)) cs v:=congrArg (fun x=>lone x cs v) elf
  have st:Steps Tw.prog (lone lf cs v) (lone ((Ev.atF b44 tm' [] (.inRegion q9o [2]:: .code (.seq (.region 10 q10o false) .ret)::lk)).raise [{v:=.iface 3 (.func (.func 170) #[] #[tm2.getD 1 undef,tm2.getD 5 undef,.int .i64 7]),recovered:=false}]) cs v1):=by
   rw[el]
   exact .head Ev.st_seq ((hole7b (b:=b44) (tm:=lf.tmps) (k:=.code after7::lk) (cs:=cs) (w:=v) ht).trans (.head Ev.st_seq ((hole8 (b:=b44) (z:=0) (k:=.code (.seq (.cond (.tmp 24) (.region 9 q9o false) .skip) (.seq (.region 10 q10o false) .ret))::lk) (cs:=cs) (w:=v1) g23).trans (.head Ev.st_seq (.head (Ev.st_cond (t:=true) g24) h9)))))
  obtain⟨n,hn⟩:=st
  refine⟨n,_,v1,{v:=.iface 3 (.func (.func 170) #[] #[tm2.getD 1 undef,tm2.getD 5 undef,.int .i64 7]),recovered:=false},hn,rfl,?_,⟨⟨[],.nil⟩,fun d x r s k h=>?_⟩,rfl⟩
  ·show _=valOf lf
   unfold valOf
   rw[v59,low 1 (by decide),low 5 (by decide)]
  ·cases h
 ha:=fun p lf f v w2 hf hh hw hc=>⟨N,p,lf,v,hf,hh,hw,hc,fun _ h=>h⟩
 pass:=fun p lf f v w2 lc cs u' w3 kn3 own3 hf hh hw hp ht=>by
  obtain⟨r,cap,n,rfl,h2,h3,h4,h5,h6,h7,h8,rfl,rfl⟩:=hp
  obtain⟨k,lk,_,elf⟩:=frame_eq hf hh
  have hsz:=wide44 hf hh
  rw[stub_eq,at_lf]at elf
  let tm1:=lf.tmps.setIfInBounds 23 (.int .i64 1)
  let tm2:=(tm1.setIfInBounds 24 (.bool false)).setIfInBounds 59 (.int .i64 7)
  have z1:tm1.size=lf.tmps.size:=by simp[tm1]
  have z2:tm2.size=lf.tmps.size:=by simp[tm2,z1]
  have g23:tm1.getD 23 undef=.int .i64 1:=getD_set_same _ _ _ _ (by omega)
  have g24:tm2.getD 24 undef=.bool false:=by
   show((tm1.setIfInBounds 24 (.bool false)).setIfInBounds 59 (.int .i64 7)).getD 24 undef=_
   rw[Go.Par.getD_set_ne _ _ _ (by decide)]
   exact getD_set_same _ _ _ _ (by omega)
  let v0:World:={v with drawn:=v.drawn+1}
  let v1:World:=((v0.alloc (.cells #[.int .i64 1] 3)).drew).alloc (row1 n)
  have hcap:cap=n+1:=h6.symm
  have t0:∀q,v.tape v.drawn q=0:=fun q=>ht 0 (by decide) q
  have t1:∀q,v0.tape v0.drawn q=n:=fun q=>by
   have:=ht 1 (by decide) q
   rw[show v0.tape v0.drawn q=v.tape (v.drawn+1) q from rfl,this]
   show cap-1=n
   omega
  have el:lone lf (lc::cs) v=lone (Ev.atF b44 lf.tmps [] (.code (.seq (.region 7 q7o true) after7)::lk)) (lc::cs) v:=congrArg (fun x=>lone x (lc::cs) v) elf
  have st:Steps Tw.prog (lone lf (lc::cs) v) (lone (lc.finish (.tuple #[.slice (some ⟨v.heap.size+1,0,none⟩) 1 (n+1),.int .i64 0])) cs v1):=by
   rw[el]
   exact .head Ev.st_seq ((hole7a (b:=b44) (tm:=lf.tmps) (k:=.code after7::lk) (cs:=lc::cs) (w:=v) t0).trans (.head Ev.st_seq ((hole8 (b:=b44) (z:=1) (k:=.code (.seq (.cond (.tmp 24) (.region 9 q9o false) .skip) (.seq (.region 10 q10o false) .ret))::lk) (cs:=lc::cs) (w:=v0) g23).trans
    (.head Ev.st_seq (.head (Ev.st_cond (t:=false) g24) (.head Ev.st_skip (hole10 (b:=b44) (tm:=tm2) (w:=v0) rfl rfl rfl (by omega) (by omega) t1 lc)))))))
  obtain⟨nn,p1,p2⟩:=head_pos st
  have hr:rOf (.tuple #[.slice (some ⟨r,0,none⟩) 1 cap,.int .i64 0])=r:=rfl
  have hsz1:v1.heap.size=v.heap.size+2:=by simp[v1,v0]
  have hx:q44 p v.heap.size (.tuple #[.slice (some ⟨r,0,none⟩) 1 cap,.int .i64 0])=fun a b=>p a b∨(a=v.heap.size+1∧b=r):=rfl
  have old:∀a,a<v.heap.size→v1.heap[a]?=v.heap[a]?:=fun a ha=>by
   show(((v.heap.push _)).push _)[a]?=_
   rw[Array.getElem?_push_lt (by simp;omega)]
   rw[←Array.getElem?_eq_getElem,Array.getElem?_push_lt ha,←Array.getElem?_eq_getElem]
  have new:v1.heap[v.heap.size+1]?=some (row1 n):=by
   show(((v.heap.push _)).push _)[v.heap.size+1]?=_
   rw[Array.getElem?_push]
   simp
  have hL:N≤v.heap.size:=hw.low
  have hg:Tw.prog.globals.size=1:=globs1
  have hg1:=hw.glob
  have hg2:=hw.glob'
  refine⟨nn,_,v1,p1,p2,?_,?_,fun a b h=>.inl h,?_,?_,rfl,rfl,hsz1⟩
  ·rw[hx,hcap]
   refine .tuple rfl fun i x x' h1 h2'=>?_
   match i,h1,h2' with
   |0,h1,h2'=>
    simp only[List.getElem?_toArray,List.getElem?_cons_zero,Option.some.injEq]at h1 h2'
    subst h1;subst h2'
    exact .slice 0 none 1 (n+1) (.inr ⟨rfl,rfl⟩)
   |1,h1,h2'=>
    simp only[List.getElem?_toArray,List.getElem?_cons_succ,List.getElem?_cons_zero,Option.some.injEq]at h1 h2'
    subst h1;subst h2'
    exact .int _ _
   |i+2,h1,h2'=>simp at h1
  ·rw[hx]
   refine⟨fun a a' b b' x y=>?_,fun a b x=>?_,by omega,fun a b x=>?_,by omega,Nat.le_trans hg2 h8.1⟩
   ·rcases x with x|⟨rfl,rfl⟩<;>rcases y with y|⟨rfl,rfl⟩
    ·exact hw.inj a a' b b' x y
    ·have:=(hw.lt x).1
     exact⟨fun e=>by omega,fun e=>(h2 ⟨a,e▸x⟩).elim⟩
    ·have:=(hw.lt y).1
     exact⟨fun e=>by omega,fun e=>(h2 ⟨b,e▸y⟩).elim⟩
    ·exact⟨fun _=>rfl,fun _=>rfl⟩
   ·rcases x with x|⟨rfl,rfl⟩
    ·obtain⟨o,o',b1,b2,b3⟩:=hw.blk a b x
     refine⟨o,o',(old a (hw.lt x).1).trans b1,(h8.2 b ⟨a,x⟩).trans b2,b3.imp (fun⟨h,k⟩=>⟨h,k.mono fun _ _ z=>.inl z⟩) fun⟨h,k⟩=>⟨h,k.mono fun _ _ z=>.inl z⟩⟩
    ·exact⟨_,_,new,h7,.inr ⟨by omega,.cells 3 (0,0) (row_rel n)⟩⟩
   ·rcases x with x|⟨rfl,rfl⟩
    ·exact hw.fix a b x
    ·omega
  ·funext s
   rw[hx]
   apply propext
   constructor
   ·rintro(⟨a,h⟩|rfl)
    ·exact⟨a,.inl h⟩
    ·exact⟨_,.inr ⟨rfl,rfl⟩⟩
   ·rintro⟨a,h|⟨_,rfl⟩⟩
    ·exact .inl ⟨a,h⟩
    ·exact .inr rfl
  ·funext s
   rw[hx]
   apply propext
   constructor
   ·rintro(⟨a,h,k⟩|rfl)
    ·exact⟨a,.inl h,k⟩
    ·exact⟨_,.inr ⟨rfl,rfl⟩,by omega⟩
   ·rintro⟨a,h|⟨_,rfl⟩,k⟩
    ·exact .inl ⟨a,h,k⟩
    ·exact .inr rfl
end Go.Proofs.Cw
end
