/- A part of the proof that BuildWhy returns true. Conditions: none. -/
import Derived.Test.YthmokljbbkcjdaaGreatDoorT07
import Derived.Test.YthmokljbbkcjdaaGreatDoorT26
import Derived.Orders
set_option linter.unusedVariables false
set_option linter.unusedSimpArgs false
section
namespace Go.Ev
def getT:List Value→Nat→Value
 | [],_=>undef
 |x::_,0=>x
 |_::l,n+1=>getT l n
def setT:List Value→Nat→Value→List Value
 | [],_,_=>[]
 |_::l,0,v=>v::l
 |x::l,n+1,v=>x::setT l n v
theorem setT_length:∀(l:List Value) (n:Nat) (v:Value),(setT l n v).length=l.length
 | [],_,_=>rfl
 |_::_,0,_=>rfl
 |_::l,n+1,v=>by simp[setT,setT_length l n v]
theorem getT_setT:∀(l:List Value) (n:Nat) (v:Value) (m:Nat),getT (setT l n v) m=if m=n∧n<l.length then v else getT l m
 | [],n,v,m=>by simp[setT,getT]
 |x::l,0,v,0=>by simp[setT,getT]
 |x::l,0,v,m+1=>by simp[setT,getT]
 |x::l,n+1,v,0=>by simp[setT,getT]
 |x::l,n+1,v,m+1=>by simp[setT,getT,getT_setT l n v m]
def rhoF (τ:Nat→Value):Operand→Value
 |.tmp t=>τ t
 |.const v=>v
 |.global g=>.pointer (some ⟨g,0,none⟩)
 |.func f=>.func (.func f) #[] #[]
def putT (T:List Value) (dst:Option Tmp) (v:Value):List Value:=match dst with
 |some d=>setT T d v
 |none=>T
def evAct (P:Program) (ce:Next→Hp→Rs Value) (r:Operand→Value) (o:Oper) (H:Hp):Rs Value:=
 match evOp P r o H with
 |some (.value v,H1,R,W)=>some (v,H1,R,W)
 |some (.skip,H1,R,W)=>some (undef,H1,R,W)
 |some (nx,H1,R,W)=>match ce nx H1 with
  |some (v,H2,R2,W2)=>some (v,H2,R|||R2,W|||W2)
  |none=>none
 |none=>none
def GlP (P:Program) (S:Nat→Bool) (p:Pi):Prop:=∀g,g<P.globals.size→S (P.funcs.size+g)=true→p g g
theorem GlP.mono {P:Program} {S:Nat→Bool} {p q:Pi} (h:GlP P S p) (hq:Le p q):GlP P S q:=fun g a b=>hq _ _ (h g a b)
def Thrown (P:Program) (Esc:List PanicEntry→World→Prop) (b:Frame) (ds:List Deferred) (cs:List Frame) (m:Machine):Prop:=
 ∃tm todo chain w1,Steps P m (lone ((atF b tm ds todo).raise chain) cs w1)∧Esc chain w1
theorem Thrown.of_steps {P:Program} {Esc:List PanicEntry→World→Prop} {b:Frame} {ds:List Deferred} {cs:List Frame} {m m':Machine} (h:Steps P m m') (t:Thrown P Esc b ds cs m'):Thrown P Esc b ds cs m:=
 let⟨tm,todo,chain,w1,a,e⟩:=t;⟨tm,todo,chain,w1,h.trans a,e⟩
structure CeOk (P:Program) (S:Nat→Bool) (K:Kz) (Esc:List PanicEntry→World→Prop) (ce:Next→Hp→Rs Value):Prop where
 ft:∀nx H v H1 R W,ce nx H=some (v,H1,R,W)→Ft H R W H1
 run:∀nx H v H1 R W,ce nx H=some (v,H1,R,W)→∀(p:Pi) (Fp:Nat→Prop) (w:World) (nx':Next) (fr:Frame) (cs:List Frame),NX S K p nx nx'→Rl P S K p H.get Fp w→GlP P S p→P.globals.size≤H.n→
  (∀r,H.n≤r→r<H1.n→∀r',¬p r r')→(∀r,(R.testBit r=true∨W.testBit r=true)→Fp r)→
  (Came P nx' fr cs w fun v' w1=>∃q,VR S q v v'∧Mv (fun r=>W.testBit r=true) p H.n w q H1.n w1∧Rl P S K q H1.get (fun r=>Fp r∨(H.n≤r∧r<H1.n)) w1)∨
  ∃g chain w1,pushed P nx'=some g∧Steps P (lone g (fr::cs) w) (lone (fr.raise chain) cs w1)∧Esc chain w1
section
variable {P:Program} {S:Nat→Bool} {K:Kz} {Esc:List PanicEntry→World→Prop} {ce:Next→Hp→Rs Value} {r:Operand→Value} {o:Oper} {H:Hp} {v:Value} {H1:Hp} {R W:Nat}
theorem VR.undef {p:Pi}:VR S p undef undef:=.tuple rfl fun i v v' h=>by simp at h
theorem evAct_inv (e:evAct P ce r o H=some (v,H1,R,W)):
 evOp P r o H=some (.value v,H1,R,W)∨(evOp P r o H=some (.skip,H1,R,W)∧v=undef)∨
 ∃nx Ha Ra Wa Rb Wb,evOp P r o H=some (nx,Ha,Ra,Wa)∧ce nx Ha=some (v,H1,Rb,Wb)∧R=Ra|||Rb∧W=Wa|||Wb:=by
 unfold evAct at e
 split at e
 ·rename_i h
  simp only[Option.some.injEq,Prod.mk.injEq]at e
  obtain⟨rfl,rfl,rfl,rfl⟩:=e
  exact .inl h
 ·rename_i h
  simp only[Option.some.injEq,Prod.mk.injEq]at e
  obtain⟨rfl,rfl,rfl,rfl⟩:=e
  exact .inr (.inl ⟨h,rfl⟩)
 ·rename_i h
  split at e<;>try(cases e;done)
  rename_i h2
  simp only[Option.some.injEq,Prod.mk.injEq]at e
  obtain⟨rfl,rfl,rfl,rfl⟩:=e
  exact .inr (.inr ⟨_,_,_,_,_,_,h,h2,rfl,rfl⟩)
 ·cases e
theorem evAct_ft (hce:CeOk P S K Esc ce) (e:evAct P ce r o H=some (v,H1,R,W)):Ft H R W H1:=by
 rcases evAct_inv e with h|⟨h,_⟩|⟨nx,Ha,Ra,Wa,Rb,Wb,h,h2,rfl,rfl⟩
 ·exact evOp_ft h
 ·exact evOp_ft h
 ·exact(evOp_ft h).trans (hce.ft _ _ _ _ _ _ h2)
theorem evOp_congr {r r':Operand→Value} (ho:opOkE P S o.op=true) (h:∀x∈o.op.operands,r x=r' x):evOp P r o H=evOp P r' o H:=by
 have hs:∀cs b,o.op≠ .select cs b:=fun cs b e=>by
  rw[e]at ho;simp[opOkE,opOk]at ho
 have e1:execOp r o=execOp r' o:=execOp_congr o hs h
 have e2:argOk r o.op=argOk r' o.op:=by
  unfold argOk
  split
  ·rename_i b as ts hop
   split
   ·rename_i x hx
    rw[h x (by rw[hop];simp only[Op.operands,Call.operands];exact Array.mem_append_right _ (Array.mem_of_getElem? hx))]
   ·rfl
  ·rename_i t x lo hi mx hop
   rw[h x (by rw[hop];simp[Op.operands])]
  ·rfl
 unfold evOp
 rw[e1,e2]
 cases argOk r' o.op<;>simp only[cond_true,cond_false]
 split
 ·rename_i t x lo hi mx hop
  rw[h x (by rw[hop];simp[Op.operands])]
 ·rename_i as ts hop
  have:as.map r=as.map r':=Array.map_congr_left fun x hx=>h x (by rw[hop];simp[Op.operands,Call.operands,hx])
  rw[this]
 ·rename_i s d x hop
  rw[h x (by rw[hop];simp[Op.operands])]
 ·rfl
theorem evAct_congr {r r':Operand→Value} (ho:opOkE P S o.op=true) (h:∀x∈o.op.operands,r x=r' x):evAct P ce r o H=evAct P ce r' o H:=by
 unfold evAct
 rw[evOp_congr ho h]
theorem envR {p:Pi} (hG:GlP P S p) {τ:Nat→Value} {b:Frame} {tm:Array Value} {ds:List Deferred} {k:List Item} (hT:∀t,VR S p (τ t) (tm.getD t undef)):EnvR P S p (rhoF τ) (atF b tm ds k).eval:=
 ⟨fun t=>hT t,fun v=>⟨rfl,rfl⟩,fun g a c=>.ptr 0 none (hG g a c),fun f=>⟨rfl,rfl⟩⟩
theorem notDefer_of (ho:opOkE P S o.op=true):notDefer o.op=true:=by
 cases h:o.op<;>first|rfl|(rw[h]at ho;simp[opOkE,opOk]at ho)
theorem act_run (hk:Ok P P.funcs S) (hZ:ZOk P K) (hce:CeOk P S K Esc ce) {p:Pi} {Fp:Nat→Prop} {w:World} {ops:Array Oper} {i:Nat} (ho:ops[i]?=some o) (hok:opOkE P S o.op=true) {tm:Array Value} (hw:Region.wanted o (yielded ops tm)=true)
 {τ:Nat→Value} (hT:∀t,VR S p (τ t) (tm.getD t undef)) (e:evAct P ce (rhoF τ) o H=some (v,H1,R,W)) (hr:Rl P S K p H.get Fp w) (hG:GlP P S p) (hg:P.globals.size≤H.n)
 (hn:∀r,H.n≤r→r<H1.n→∀r',¬p r r') (hF:∀r,(R.testBit r=true∨W.testBit r=true)→Fp r) (b:Frame) (ds:List Deferred) (rest:List Nat) (k:List Item) (cs:List Frame):
 (∃v' w1 q,Steps P (lone (atF b tm ds (.inRegion ops (i::rest)::k)) cs w) (lone (atF b (putA tm o.dst v') ds (.inRegion ops rest::k)) cs w1)∧VR S q v v'∧Mv (fun r=>W.testBit r=true) p H.n w q H1.n w1∧Rl P S K q H1.get (fun r=>Fp r∨(H.n≤r∧r<H1.n)) w1)∨
 Thrown P Esc b ds cs (lone (atF b tm ds (.inRegion ops (i::rest)::k)) cs w):=by
 have hwf:withF P P.funcs=P:=rfl
 have hex:=exec_op (P:=P) (b:=b) (ds:=ds) (k:=k) (cs:=cs) (w:=w) (rest:=rest) ho hw (notDefer_of hok)
 have hE:=envR (b:=b) (ds:=ds) (k:=.inRegion ops (i::rest)::k) hG hT
 rcases evAct_inv e with h|⟨h,rfl⟩|⟨nx,Ha,Ra,Wa,Rb,Wb,h,h2,rfl,rfl⟩
 ·obtain⟨nx',w1,q,c1,c2,c3,c4⟩:=evOp_sound hk hZ hE o hok h hr hg hn fun r x=>.inr (hF r x)
  cases c2 with
  | @value _ v' hv=>
    refine .inl ⟨v',w1,q,.one ?_,hv,c3,c4⟩
    rw[←finish_as v' ho]
    refine go_exec rfl ?_
    rw[hex]
    exact(apply_ok rfl c1).1 v' rfl
 ·obtain⟨nx',w1,q,c1,c2,c3,c4⟩:=evOp_sound hk hZ hE o hok h hr hg hn fun r x=>.inr (hF r x)
  cases c2 with
  |skip=>
   refine .inl ⟨undef,w1,q,.one ?_,VR.undef,c3,c4⟩
   rw[←finish_as undef ho]
   refine go_exec rfl ?_
   rw[hex]
   exact(apply_ok rfl c1).2.1 rfl
 ·have fa:=evOp_ft h
  have fb:=hce.ft _ _ _ _ _ _ h2
  have n1:=fa.nn
  have n2:=fb.nn
  obtain⟨nx',w1,q,c1,c2,c3,c4⟩:=evOp_sound hk hZ hE o hok h hr hg (fun r a1 a2=>hn r a1 (by omega)) (fun r hr'=>.inr (hF r (hr'.imp (fun x=>by rw[Nat.testBit_or,x];rfl) fun x=>by rw[Nat.testBit_or,x];rfl)))
  have hcame:=hce.run _ _ _ _ _ _ h2 q (fun r=>Fp r∨(H.n≤r∧r<Ha.n)) w1 nx' (atF b tm ds (.inRegion ops (i::rest)::k)) cs c2 c4 (hG.mono c3.le) (by omega) (fun r a1 a2 r' hq=>by
   rcases c3.new r r' hq with x|⟨_,x,_⟩
   ·exact hn r (by omega) a2 r' x
   ·omega) (fun r hr'=>.inl (hF r (hr'.imp (fun x=>by rw[Nat.testBit_or,x,Bool.or_true]) fun x=>by rw[Nat.testBit_or,x,Bool.or_true])))
  rcases hcame with⟨g,v',w2,d1,d2,q2,d3,d4,d5⟩|⟨g,chain,w2,d1,d2,d3⟩
  rotate_left
  ·refine .inr ⟨_,_,chain,w2,.head (go_exec rfl ?_) d2,d3⟩
   rw[hex]
   exact(apply_ok rfl c1).2.2 g d1
  refine .inl ⟨v',w2,q2,?_,d3,c3.trans d4 (fun r x=>by rw[Nat.testBit_or,x];rfl) (fun r x=>by rw[Nat.testBit_or,x,Bool.or_true]),d5.mono fun r x=>?_⟩
  ·rw[←finish_as v' ho]
   refine .head (go_exec rfl ?_) d2
   rw[hex]
   exact(apply_ok rfl c1).2.2 g d1
  ·rcases x with x|⟨a,b⟩
   ·exact .inl (.inl x)
   ·by_cases hlt:r<Ha.n
    ·exact .inl (.inr ⟨a,hlt⟩)
    ·exact .inr ⟨by omega,b⟩
end
end Go.Ev
end
section
namespace Go.Ev
section
variable {κ β:Type} (A:Nat→κ→β) (wr:Nat→κ→Bool)
def last (D:Nat→Bool):Nat→κ→β
 |0,k=>A 0 k
 |i+1,k=>if D i&&wr i k then A (i+1) k else last D i k
variable {A wr}
theorem last_eq {D:Nat→Bool} {n:Nat} {k:κ} (hA:∀i,i<n→wr i k=false→A (i+1) k=A i k) {i:Nat} (hi:i≤n) (h1:∀j,j<i→wr j k=true→D j=true) (h2:∀j,i≤j→j<n→wr j k=true→D j=false):
 last A wr D n k=A i k:=by
 have lo:∀m,m≤i→last A wr D m k=A m k:=by
  intro m
  induction m with
  |zero=>intro _;rfl
  |succ m ih=>
   intro hm
   simp only[last]
   cases hw:wr m k with
   |false=>simp only[Bool.and_false,Bool.false_eq_true,if_false];rw[ih (by omega),hA m (by omega) hw]
   |true=>rw[h1 m (by omega) hw];rfl
 have hi':∀m,i≤m→m≤n→last A wr D m k=A i k:=by
  intro m
  induction m with
  |zero=>intro a _;have:i=0:=by omega
         rw[this];rfl
  |succ m ih=>
   intro a b
   by_cases e:i=m+1
   ·rw[←e];exact lo i (Nat.le_refl i)
   ·simp only[last]
    cases hw:wr m k with
    |false=>simp only[Bool.and_false,Bool.false_eq_true,if_false];exact ih (by omega) (by omega)
    |true=>rw[h2 m (by omega) (by omega) hw];simp only[Bool.false_and,Bool.false_eq_true,if_false];exact ih (by omega) (by omega)
 exact hi' n hi (Nat.le_refl n)
def add (D:Nat→Bool) (i:Nat):Nat→Bool:=fun j=>j==i||D j
theorem last_no {D:Nat→Bool} {i:Nat} {k:κ} (h:wr i k=false):∀n,last A wr (add D i) n k=last A wr D n k:=by
 intro n
 induction n with
 |zero=>rfl
 |succ n ih=>
  simp only[last,ih]
  by_cases e:n=i
  ·subst e;rw[h];simp
  ·have:add D i n=D n:=by simp[add,e]
   rw[this]
theorem last_wr {D:Nat→Bool} {i:Nat} {k:κ} (h:wr i k=true):∀n,i<n→(∀j,i<j→j<n→wr j k=true→D j=false)→last A wr (add D i) n k=A (i+1) k:=by
 intro n
 induction n with
 |zero=>intro a _;omega
 |succ n ih=>
  intro a b
  simp only[last]
  by_cases e:n=i
  ·subst e;rw[h];simp[add]
  ·have e2:add D i n=D n:=by simp[add,e]
   rw[e2]
   cases hw:wr n k with
   |false=>simp only[Bool.and_false,Bool.false_eq_true,if_false];exact ih (by omega) fun j x y=>b j x (by omega)
   |true=>rw[b n (by omega) (by omega) hw];simp only[Bool.false_and,Bool.false_eq_true,if_false];exact ih (by omega) fun j x y=>b j x (by omega)
end
def yieldT (ops:Array Oper) (τ:Nat→Value) (j:Nat):Option Bool:=
 match(ops[j]?).bind (·.dst)with
 |some d=>match τ d with
  |.bool b=>some b
  |_=>none
 |none=>none
def evOne (P:Program) (ce:Next→Hp→Rs Value) (ops:Array Oper) (i:Nat) (T:List Value) (H:Hp):Rs (List Value):=
 match ops[i]? with
 |none=>none
 |some o=>bif Region.wanted o (yieldT ops (getT T))then match evAct P ce (rhoF (getT T)) o H with
   |some (v,H1,R,W)=>some (putT T o.dst v,H1,R,W)
   |none=>none
  else some (putT T o.dst undef,H,0,0)
theorem putT_length (T:List Value) (d:Option Tmp) (v:Value):(putT T d v).length=T.length:=by
 cases d<;>simp[putT,setT_length]
theorem putA_size (T:Array Value) (d:Option Tmp) (v:Value):(putA T d v).size=T.size:=by
 cases d<;>simp[putA]
theorem getT_putT (T:List Value) (d:Option Tmp) (v:Value) (t:Nat):getT (putT T d v) t=if d=some t∧t<T.length then v else getT T t:=by
 cases d with
 |none=>simp[putT]
 |some d=>
  simp only[putT,getT_setT,Option.some.injEq]
  by_cases e:d=t
  ·subst e;simp
  ·have:¬t=d:=fun h=>e h.symm
   simp[e,this]
theorem getD_putA (T:Array Value) (d:Option Tmp) (v:Value) (t:Nat):(putA T d v).getD t undef=if d=some t∧t<T.size then v else T.getD t undef:=by
 cases d with
 |none=>simp[putA]
 |some d=>
  simp only[putA,Option.some.injEq,Array.getD_eq_getD_getElem?,Array.getElem?_setIfInBounds]
  by_cases e:d=t
  ·subst e
   by_cases h:d<T.size<;>simp[h]
  ·simp[e]
section
variable {P:Program} {S:Nat→Bool} {K:Kz} {Esc:List PanicEntry→World→Prop} {ce:Next→Hp→Rs Value}
theorem wanted_eq {ops:Array Oper} {o:Oper} {p:Pi} {τ:Nat→Value} {tm:Array Value} (h:∀g b d,o.guard=some (g,b)→(ops[g]?).bind (·.dst)=some d→VR S p (τ d) (tm.getD d undef)):
 Region.wanted o (yielded ops tm)=Region.wanted o (yieldT ops τ):=by
 unfold Region.wanted
 cases hg:o.guard with
 |none=>rfl
 |some gb=>
  obtain⟨g,b⟩:=gb
  simp only
  have:yielded ops tm g=yieldT ops τ g:=by
   unfold yielded yieldT
   cases hd:(ops[g]?).bind (·.dst)with
   |none=>rfl
   |some d=>
    have hv:=h g b d hg hd
    simp only[Option.bind_some]
    rw[Array.getD_eq_getD_getElem?]at hv
    cases hx:tm[d]? with
    |none=>
     rw[hx]at hv
     simp only[Option.getD_none]at hv
     generalize τ d=x at hv
     cases hv;rfl
    |some y=>
     rw[hx]at hv
     simp only[Option.getD_some]at hv
     generalize τ d=x at hv
     cases hv<;>rfl
  rw[this]
theorem evOne_inv {ops:Array Oper} {i:Nat} {T:List Value} {H:Hp} {T1:List Value} {H1:Hp} {R W:Nat} (e:evOne P ce ops i T H=some (T1,H1,R,W)):
 ∃o,ops[i]?=some o∧((Region.wanted o (yieldT ops (getT T))=true∧∃v,evAct P ce (rhoF (getT T)) o H=some (v,H1,R,W)∧T1=putT T o.dst v)∨
  (Region.wanted o (yieldT ops (getT T))=false∧T1=putT T o.dst undef∧H1=H∧R=0∧W=0)):=by
 unfold evOne at e
 split at e
 ·cases e
 ·rename_i o ho
  refine⟨o,ho,?_⟩
  cases hw:Region.wanted o (yieldT ops (getT T))<;>rw[hw]at e<;>simp only[cond_true,cond_false]at e
  ·simp only[Option.some.injEq,Prod.mk.injEq]at e
   obtain⟨rfl,rfl,rfl,rfl⟩:=e
   exact .inr ⟨rfl,rfl,rfl,rfl,rfl⟩
  ·split at e<;>try(cases e;done)
   rename_i v H2 R2 W2 ha
   simp only[Option.some.injEq,Prod.mk.injEq]at e
   obtain⟨rfl,rfl,rfl,rfl⟩:=e
   exact .inl ⟨rfl,v,ha,rfl⟩
theorem evOne_ft (hce:CeOk P S K Esc ce) {ops:Array Oper} {i:Nat} {T:List Value} {H:Hp} {T1:List Value} {H1:Hp} {R W:Nat} (e:evOne P ce ops i T H=some (T1,H1,R,W)):Ft H R W H1:=by
 obtain⟨o,_,h⟩:=evOne_inv e
 rcases h with⟨_,v,h,_⟩|⟨_,_,rfl,rfl,rfl⟩
 ·exact evAct_ft hce h
 ·exact Ft.refl _
structure Tce (P:Program) (ce:Next→Hp→Rs Value) (ops:Array Oper) (Ts:Nat→List Value) (Hs:Nat→Hp) (R W:Nat→Nat):Prop where
 one:∀i,i<ops.size→evOne P ce ops i (Ts i) (Hs i)=some (Ts (i+1),Hs (i+1),R i,W i)
def Good (Fo:Nat→Nat→Prop) (n:Nat):(Nat→Bool)→List Nat→Prop
 |D,[]=>∀i,i<n→D i=true
 |D,i::l=>i<n∧D i=false∧(∀a,Fo a i→D a=true)∧Good Fo n (add D i) l
def wrH (W:Nat→Nat) (i r:Nat):Bool:=(W i).testBit r
def wrT (ops:Array Oper) (i t:Nat):Bool:=(ops[i]?).bind (·.dst)==some t
def disj (R W:Nat→Nat) (i j:Nat):Prop:=∀r,((W i).testBit r=true→(R j).testBit r=false∧(W j).testBit r=false)∧((W j).testBit r=true→(R i).testBit r=false)
theorem Tce.n_mono {ops:Array Oper} {Ts:Nat→List Value} {Hs:Nat→Hp} {R W:Nat→Nat} (t:Tce P ce ops Ts Hs R W) (hce:CeOk P S K Esc ce) {i j:Nat} (hj:j≤ops.size) (h:i≤j):(Hs i).n≤(Hs j).n:=by
 induction j with
 |zero=>have:i=0:=by omega
        subst this;exact Nat.le_refl _
 |succ j ih=>
  by_cases e:i=j+1
  ·subst e;exact Nat.le_refl _
  ·exact Nat.le_trans (ih (by omega) (by omega)) (evOne_ft hce (t.one j (by omega))).nn
theorem Tce.length {ops:Array Oper} {Ts:Nat→List Value} {Hs:Nat→Hp} {R W:Nat→Nat} (t:Tce P ce ops Ts Hs R W) {j:Nat} (hj:j≤ops.size):(Ts j).length=(Ts 0).length:=by
 induction j with
 |zero=>rfl
 |succ j ih=>
  rw[←ih (by omega)]
  obtain⟨o,_,h⟩:=evOne_inv (t.one j (by omega))
  rcases h with⟨_,v,_,h⟩|⟨_,h,_⟩<;>rw[h,putT_length]
theorem any_run (hk:Ok P P.funcs S) (hZ:ZOk P K) (hce:CeOk P S K Esc ce) {ops:Array Oper} (hops:∀(i:Nat) (o:Oper),ops[i]?=some o→opOkE P S o.op=true)
 {Ts:Nat→List Value} {Hs:Nat→Hp} {R W:Nat→Nat} (t:Tce P ce ops Ts Hs R W) {Fo:Nat→Nat→Prop}
 (hm:∀i j,i<j→j<ops.size→Fo i j∨disj R W i j) (ht:∀(i j:Nat) (oi oj:Oper),i<j→ops[i]?=some oi→ops[j]?=some oj→Fo i j∨oi.apart ops oj=true)
 (hg:P.globals.size≤(Hs 0).n) {Fp:Nat→Prop} (hFp:∀i,i<ops.size→∀r,((R i).testBit r=true∨(W i).testBit r=true)→Fp r) (b:Frame) (ds:List Deferred) (k:List Item) (cs:List Frame):
 ∀(l:List Nat) (D:Nat→Bool) (p:Pi) (tm:Array Value) (w:World),Good Fo ops.size D l→(∀a c,Fo a c→D c=true→D a=true)→tm.size=(Ts 0).length→
  Rl P S K p (last (fun i=>(Hs i).get) (wrH W) D ops.size) Fp w→(∀x,VR S p (last (fun i=>getT (Ts i)) (wrT ops) D ops.size x) (tm.getD x undef))→GlP P S p→
  (∀j,j<ops.size→D j=false→∀r,(Hs j).n≤r→r<(Hs (j+1)).n→∀r',¬p r r')→
  (∃tm' w' q,Steps P (lone (atF b tm ds (.inRegion ops l::k)) cs w) (lone (atF b tm' ds (.inRegion ops []::k)) cs w')∧tm'.size=(Ts 0).length∧
    Mv (fun r=>∃i,i<ops.size∧(W i).testBit r=true) p (Hs 0).n w q (Hs ops.size).n w'∧Rl P S K q (Hs ops.size).get Fp w'∧∀x,VR S q (getT (Ts ops.size) x) (tm'.getD x undef))∨
  Thrown P Esc b ds cs (lone (atF b tm ds (.inRegion ops l::k)) cs w):=by
 have mono:=fun i j=>t.n_mono (i:=i) (j:=j) hce
 have keepH:∀i,i<ops.size→∀r,wrH W i r=false→(Hs (i+1)).get r=(Hs i).get r:=fun i hi r hr=>(evOne_ft hce (t.one i hi)).same r hr
 have keepT:∀i,i<ops.size→∀x,wrT ops i x=false→getT (Ts (i+1)) x=getT (Ts i) x:=fun i hi x hx=>by
  obtain⟨o,ho,h⟩:=evOne_inv (t.one i hi)
  have hd:¬(o.dst=some x):=fun e=>by simp[wrT,ho,e]at hx
  rcases h with⟨_,v,_,h⟩|⟨_,h,_⟩<;>rw[h,getT_putT,if_neg (fun a=>hd a.1)]
 intro l
 induction l with
 |nil=>
  intro D p tm w hl hD hsz hr hT hG hn
  have hl:∀i,i<ops.size→D i=true:=hl
  refine .inl ⟨tm,w,p,.refl _ _,hsz,(Mv.refl _ p _ w).wide (Nat.le_refl _) (mono 0 ops.size (Nat.le_refl _) (Nat.zero_le _)),hr.congr fun r _=>?_,fun x=>?_⟩
  ·exact(last_eq (A:=fun i=>(Hs i).get) (wr:=wrH W) (k:=r) (fun i hi h=>keepH i hi r h) (Nat.le_refl _) (fun j hj _=>hl j hj) (fun j a b _=>by omega)).symm
  ·rw[←last_eq (A:=fun i=>getT (Ts i)) (wr:=wrT ops) (k:=x) (fun i hi h=>keepT i hi x h) (Nat.le_refl _) (fun j hj _=>hl j hj) (fun j a b _=>by omega)]
   exact hT x
 |cons i l ih=>
  intro D p tm w hl hD hsz hr hT hG hn
  obtain⟨hi,hDi,hpre,hl⟩:=hl
  have e1:=t.one i hi
  have hft:=evOne_ft hce e1
  obtain⟨o,ho,hcase⟩:=evOne_inv e1
  have later:∀j,i<j→Fo i j→D j=false:=fun j hj hf=>by
   cases hx:D j with
   |false=>rfl
   |true=>rw[hD i j hf hx]at hDi;cases hDi
  have memEq:∀r,((R i).testBit r=true∨(W i).testBit r=true)→(Hs i).get r=last (fun i=>(Hs i).get) (wrH W) D ops.size r:=fun r hr=>by
   refine(last_eq (A:=fun i=>(Hs i).get) (wr:=wrH W) (k:=r) (fun i hi h=>keepH i hi r h) (Nat.le_of_lt hi) (fun j hj hw=>?_) (fun j a c hw=>?_)).symm
   ·rcases hm j i hj hi with h|h
    ·exact hpre j h
    ·have:=(h r).1 hw
     rcases hr with x|x<;>simp_all
   ·by_cases e:j=i
    ·subst e;exact hDi
    ·have hij:i<j:=by omega
     rcases hm i j hij c with h|h
     ·exact later j hij h
     ·have h2:=h r
      have hw:(W j).testBit r=true:=hw
      rcases hr with x|x
      ·have:=h2.2 hw;rw[x]at this;cases this
      ·have:=(h2.1 x).2;rw[hw]at this;cases this
  have slotEq:∀x,x∈o.looksAt ops→last (fun i=>getT (Ts i)) (wrT ops) D ops.size x=getT (Ts i) x:=fun x hx=>by
   refine last_eq (A:=fun i=>getT (Ts i)) (wr:=wrT ops) (k:=x) (fun i hi h=>keepT i hi x h) (Nat.le_of_lt hi) (fun j hj hw=>?_) (fun j a c hw=>?_)
   ·have hjs:j<ops.size:=by omega
    have hoj:ops[j]?=some ops[j]:=Array.getElem?_eq_getElem hjs
    have hd:ops[j].dst=some x:=by simpa [wrT,hoj]using hw
    rcases ht j i _ _ hj hoj ho with h|h
    ·exact hpre j h
    ·exact absurd hx ((Oper.apart_spec h).1 x hd)
   ·by_cases e:j=i
    ·subst e;exact hDi
    ·have hij:i<j:=by omega
     have hoj:ops[j]?=some ops[j]:=Array.getElem?_eq_getElem c
     have hd:ops[j].dst=some x:=by simpa [wrT,hoj]using hw
     rcases ht i j _ _ hij ho hoj with h|h
     ·exact later j hij h
     ·exact absurd hx ((Oper.apart_spec h).2.2 x hd)
  have hwant:Region.wanted o (yielded ops tm)=Region.wanted o (yieldT ops (getT (Ts i))):=by
   refine wanted_eq (S:=S) (p:=p) fun g c d hgd hd=>?_
   rw[←slotEq d (by simp[Oper.looksAt,hgd,hd])]
   exact hT d
  have hclosed:∀a c,Fo a c→add D i c=true→add D i a=true:=fun a c hac hc=>by
   simp only[add,Bool.or_eq_true,beq_iff_eq]at hc⊢
   rcases hc with rfl|hc
   ·exact .inr (hpre a hac)
   ·exact .inr (hD a c hac hc)
  have slotNew:∀{v v':Value} {q:Pi},Le p q→VR S q v v'→Ts (i+1)=putT (Ts i) o.dst v→∀x,VR S q (last (fun i=>getT (Ts i)) (wrT ops) (add D i) ops.size x) ((putA tm o.dst v').getD x undef):=fun{v v' q} hq hv hT1 x=>by
   rw[getD_putA]
   cases hw:wrT ops i x with
   |false=>
    have hd:¬(o.dst=some x):=fun e=>by simp[wrT,ho,e]at hw
    rw[last_no hw,if_neg fun a=>hd a.1]
    exact(hT x).mono hq
   |true=>
    have hd:o.dst=some x:=by simpa [wrT,ho]using hw
    rw[last_wr hw ops.size hi fun j hij c hwj=>?_]
    ·rw[hT1,getT_putT,t.length (Nat.le_of_lt hi),←hsz]
     by_cases hlt:x<tm.size
     ·rw[if_pos ⟨hd,hlt⟩,if_pos ⟨hd,hlt⟩];exact hv
     ·rw[if_neg fun a=>hlt a.2,if_neg fun a=>hlt a.2]
      have e2:tm.getD x undef=undef:=by rw[Array.getD_eq_getD_getElem?,Array.getElem?_eq_none (by omega)];rfl
      have e3:getT (Ts i) x=undef:=by
       have:∀(L:List Value) n,L.length≤n→getT L n=undef:=by
        intro L
        induction L with
        |nil=>intro n _;rfl
        |cons y L ih=>intro n hn;cases n with
         |zero=>simp at hn
         |succ n=>exact ih n (by simpa using hn)
       exact this _ _ (by rw[t.length (Nat.le_of_lt hi),←hsz];omega)
      rw[e2,e3];exact VR.undef
    ·have hoj:ops[j]?=some ops[j]:=Array.getElem?_eq_getElem c
     have hdj:ops[j].dst=some x:=by simpa [wrT,hoj]using hwj
     rcases ht i j _ _ hij ho hoj with h|h
     ·exact later j hij h
     ·exact absurd hdj ((Oper.apart_spec h).2.1 x hd)
  have freshNew:∀{q:Pi} {w1:World},Mv (fun r=>(W i).testBit r=true) p (Hs i).n w q (Hs (i+1)).n w1→∀j,j<ops.size→add D i j=false→∀r,(Hs j).n≤r→r<(Hs (j+1)).n→∀r',¬q r r':=fun{q w1} hmv j hj hDj r h1 h2 r' hq=>by
   simp only[add,Bool.or_eq_false_iff,beq_eq_false_iff_ne,ne_eq]at hDj
   rcases hmv.new r r' hq with x|⟨a,c,_⟩
   ·exact hn j hj hDj.2 r h1 h2 r' x
   ·rcases Nat.lt_or_gt_of_ne hDj.1 with h|h
    ·have:=mono (j+1) i (by omega) (by omega);omega
    ·have:=mono (i+1) j (by omega) (by omega);omega
  have m0:=mono 0 i (Nat.le_of_lt hi) (Nat.zero_le _)
  have m1:=mono (i+1) ops.size (Nat.le_refl _) hi
  have lastMv:∀{q:Pi} {w1:World},Mv (fun r=>(W i).testBit r=true) p (Hs i).n w q (Hs (i+1)).n w1→Mv (fun r=>∃i,i<ops.size∧(W i).testBit r=true) p (Hs 0).n w q (Hs ops.size).n w1:=fun h=>(h.wide m0 m1).mono fun r x=>⟨i,hi,x⟩
  rcases hcase with⟨hw,v,hev,hT1⟩|⟨hw,hT1,hH1,hR,hW⟩
  ·have hev':evAct P ce (rhoF (last (fun i=>getT (Ts i)) (wrT ops) D ops.size)) o (Hs i)=some (v,Hs (i+1),R i,W i):=by
    rw[←hev]
    refine evAct_congr (hops i o ho) fun x hx=>?_
    cases x with
    |tmp x=>exact slotEq x (List.mem_append_left _ (List.mem_filterMap.2 ⟨.tmp x,by simpa using hx,rfl⟩))
    |_=>rfl
   have hact:=act_run hk hZ hce (Fp:=fun r=>(R i).testBit r=true∨(W i).testBit r=true) ho (hops i o ho) (hwant.trans hw) hT hev' ((hr.mono (hFp i hi)).congr fun r x=>memEq r x) hG (by omega) (hn i hi hDi) (fun r x=>x) b ds l k cs
   rcases hact with⟨v',w1,q,c1,c2,c3,c4⟩|hth
   rotate_left
   ·exact .inr hth
   have hnew:∀r,(W i).testBit r=true→((Hs i).n≤r∧r<(Hs (i+1)).n)∨(last (fun i=>(Hs i).get) (wrH W) D ops.size r).isSome:=fun r hr=>(hft.wr r hr).imp id fun x=>by rw[←memEq r (.inr hr)];exact x
   have hjoin:=hr.join c3 c4 (h2:=last (fun i=>(Hs i).get) (wrH W) (add D i) ops.size) (fun r x=>.inl (.inr x)) (fun r x=>hFp i hi r (.inr x)) hft.nw (hn i hi hDi) hnew (fun r x=>last_wr (wr:=wrH W) x ops.size hi fun j hij c hwj=>by
    rcases hm i j hij c with h|h
    ·exact later j hij h
    ·have h2:=((h r).1 x).2
     have hwj:(W j).testBit r=true:=hwj
     rw[hwj]at h2;cases h2) (fun r x=>last_no (wr:=wrH W) (by simpa [wrH]using x) ops.size)
   rcases ih (add D i) q (putA tm o.dst v') w1 hl hclosed (by rw[putA_size];exact hsz) hjoin (slotNew c3.le c2 hT1) (hG.mono c3.le) (freshNew c3)with⟨tm',w',q',d1,d2,d3,d4,d5⟩|hth
   rotate_left
   ·exact .inr (.of_steps c1 hth)
   exact .inl ⟨tm',w',q',c1.trans d1,d2,(lastMv c3).trans2 d3 (fun _ x=>x) (fun _ x=>x),d4,d5⟩
  ·have hsame:∀r,last (fun i=>(Hs i).get) (wrH W) (add D i) ops.size r=last (fun i=>(Hs i).get) (wrH W) D ops.size r:=fun r=>last_no (wr:=wrH W) (by simp[wrH,hW]) ops.size
   have hmv:Mv (fun r=>(W i).testBit r=true) p (Hs i).n w p (Hs (i+1)).n w:=(Mv.refl _ p _ w).wide (Nat.le_refl _) hft.nn
   rcases ih (add D i) p (putA tm o.dst undef) w hl hclosed (by rw[putA_size];exact hsz) (hr.congr fun r _=>hsame r) (slotNew (Le.refl p) VR.undef hT1) hG (freshNew hmv)with⟨tm',w',q',d1,d2,d3,d4,d5⟩|hth
   rotate_left
   ·exact .inr (.of_steps (.one (exec_unwanted ho (hwant.trans hw))) hth)
   exact .inl ⟨tm',w',q',.head (exec_unwanted ho (hwant.trans hw)) d1,d2,(lastMv hmv).trans2 d3 (fun _ x=>x) (fun _ x=>x),d4,d5⟩
end
end Go.Ev
end
section
namespace Go.Ev
open Go.Par (Lin rdy)
inductive Forced (ops:Array Oper):Nat→Nat→Prop
 |edge {i j:Nat} {o:Oper} {e:Edge} (h:ops[j]?=some o) (he:e∈o.after) (hb:Region.binds .any e=true) (hi:e.on=i):Forced ops i j
 |step {i k j:Nat} {o:Oper} {e:Edge} (t:Forced ops i k) (h:ops[j]?=some o) (he:e∈o.after) (hb:Region.binds .any e=true) (hi:e.on=k):Forced ops i j
def bitE (m i:Nat):Bool:=Nat.beq (Nat.land 1 (Nat.shiftRight m i)) 1
theorem bitE_bit {m i:Nat} (h:bitE m i=true):m.testBit i=true:=by
 have h:=Nat.eq_of_beq_eq_true h
 have h:1&&&(m>>>i)=1:=h
 simp[Nat.testBit,h]
def getN:List Nat→Nat→Nat
 | [],_=>0
 |x::_,0=>x
 |_::l,n+1=>getN l n
theorem getN_eq:∀(l:List Nat) (n:Nat),getN l n=(l[n]?).getD 0
 | [],n=>rfl
 |x::l,0=>rfl
 |x::l,n+1=>by simp[getN,getN_eq l n]
def anc1 (l:List Nat):List Edge→Nat→Nat
 | [],m=>m
 |e::es,m=>anc1 l es (bif Region.binds .any e then Nat.lor m (Nat.lor (2^e.on) (getN l e.on))else m)
def ancs (ops:Array Oper):Nat→List Nat
 |0=>[]
 |n+1=>ancs ops n++[match ops[n]? with|none=>0|some o=>anc1 (ancs ops n) o.after.toList 0]
theorem ancs_length (ops:Array Oper):∀n,(ancs ops n).length=n
 |0=>rfl
 |n+1=>by simp[ancs,ancs_length ops n]
theorem anc1_spec {ops:Array Oper} {j:Nat} {o:Oper} (ho:ops[j]?=some o) {l:List Nat} (hl:∀k i,(getN l k).testBit i=true→Forced ops i k):∀(es:List Edge) (m:Nat),(∀e∈es,e∈o.after)→(∀i,m.testBit i=true→Forced ops i j)→∀i,(anc1 l es m).testBit i=true→Forced ops i j:=by
 intro es
 induction es with
 |nil=>intro m _ hm i h;exact hm i h
 |cons e es ih=>
  intro m he hm i h
  refine ih _ (fun x hx=>he x (List.mem_cons_of_mem _ hx)) (fun i h=>?_) i h
  cases hb:Region.binds .any e<;>rw[hb]at h<;>simp only[cond_true,cond_false]at h
  ·exact hm i h
  ·have h:(m|||(2^e.on|||getN l e.on)).testBit i=true:=h
   rw[Nat.testBit_or,Nat.testBit_or,Bool.or_eq_true,Bool.or_eq_true]at h
   rcases h with h|h|h
   ·exact hm i h
   ·rw[tb]at h
    exact .edge ho (he e (by simp)) hb h.symm
   ·exact .step (hl _ _ h) ho (he e (by simp)) hb rfl
theorem ancs_spec (ops:Array Oper):∀n k i,(getN (ancs ops n) k).testBit i=true→Forced ops i k:=by
 intro n
 induction n with
 |zero=>intro k i h;simp[ancs,getN]at h
 |succ n ih=>
  intro k i h
  rw[getN_eq]at h
  simp only[ancs]at h
  rcases Nat.lt_or_ge k n with hk|hk
  ·rw[List.getElem?_append_left (by rw[ancs_length];exact hk),←getN_eq]at h
   exact ih k i h
  ·rw[List.getElem?_append_right (by rw[ancs_length];exact hk),ancs_length]at h
   by_cases e:k=n
   ·subst e
    simp only[Nat.sub_self,List.getElem?_cons_zero,Option.getD_some]at h
    cases ho:ops[k]? with
    |none=>rw[ho]at h;simp at h
    |some o=>
     rw[ho]at h
     exact anc1_spec ho ih o.after.toList 0 (fun e he=>by simpa using he) (fun i h=>by simp at h) i h
   ·rw[List.getElem?_eq_none (by simp;omega)]at h
    simp at h
def unl (listed:Array Bool):Nat→Nat
 |0=>0
 |m+1=>unl listed m+(bif listed.getD m true then 0 else 1)
theorem unl_zero {listed:Array Bool}:∀{m:Nat},unl listed m=0→∀i,i<m→listed.getD i true=true
 |0,_,i,hi=>absurd hi (Nat.not_lt_zero _)
 |m+1,h,i,hi=>by
  simp only[unl]at h
  by_cases e:i=m
  ·subst e
   cases hx:listed.getD i true with
   |true=>rfl
   |false=>rw[hx]at h;simp at h
  ·exact unl_zero (m:=m) (by omega) i (by omega)
theorem unl_set {listed:Array Bool} {i:Nat} (hi:listed.getD i true=false):∀{m:Nat},unl (listed.setIfInBounds i true) m+(if i<m then 1 else 0)=unl listed m
 |0=>by simp[unl]
 |m+1=>by
  have ih:=unl_set hi (m:=m)
  simp only[unl]
  by_cases e:i=m
  ·subst e
   have hlt:i<listed.size:=by
    rcases Nat.lt_or_ge i listed.size with h|h
    ·exact h
    ·simp[h]at hi
   have:(listed.setIfInBounds i true).getD i true=true:=by simp[hlt]
   rw[this,hi]
   simp only[Nat.lt_irrefl,if_false,Nat.lt_succ_self,if_true,cond_true,cond_false]at ih⊢
   omega
  ·rw[Go.getD_set_ne true e]
   by_cases h:i<m
   ·rw[if_pos h]at ih;rw[if_pos (by omega)];omega
   ·rw[if_neg h]at ih;rw[if_neg (by omega)];omega
theorem mem_rdy {m:Region.Mode} {ops:Array Oper} {j:Nat} {listed:Array Bool}:j∈rdy m ops listed↔listed.getD j true=false∧∃o,ops[j]?=some o∧∀e∈o.after,Region.binds m e=true→listed.getD e.on false=true:=
 Go.mem_ready
theorem binds_any {m:Region.Mode} {e:Edge} (h:Region.binds .any e=true):Region.binds m e=true:=by
 unfold Region.binds at*
 split at h<;>first|(cases h;done)|rfl
theorem good_congr {Fo:Nat→Nat→Prop} {n:Nat}:∀{l:List Nat} {D E:Nat→Bool},(∀i,i<n→D i=E i)→(∀a b,Fo a b→b<n→a<n)→Good Fo n D l→Good Fo n E l
 | [],D,E,h,_,g=>fun i hi=>by rw[←h i hi];exact g i hi
 |i::l,D,E,h,hFo,⟨g1,g2,g3,g4⟩=>⟨g1,by rw[←h i g1];exact g2,fun a ha=>by rw[←h a (hFo a i ha g1)];exact g3 a ha,good_congr (fun j hj=>by simp only[add,h j hj]) hFo g4⟩
section
variable {ops:Array Oper} (hE:∀ (i:Nat) (o:Oper) (e:Edge),ops[i]?=some o→e ∈ o.after→Region.binds .any e=true→e.on < i)
include hE
theorem forced_lt {a b:Nat} (h:Forced ops a b):a<b:=by
 induction h with
 |edge h he hb hi=>have:=hE _ _ _ h he hb;omega
 |step t h he hb hi ih=>have:=hE _ _ _ h he hb;omega
theorem good_lin {m:Region.Mode} {rank:Nat→Nat} (hR:∀(i:Nat) (o:Oper) (e:Edge),ops[i]?=some o→e∈o.after→Region.binds m e=true→e.on<ops.size∧rank e.on<rank i)
 {n:Nat} {listed:Array Bool} {l:List Nat} (h:Lin m ops n listed l):listed.size=ops.size→unl listed ops.size≤n→
 (∀a b,Forced ops a b→listed.getD b false=true→listed.getD a false=true)→Good (Forced ops) ops.size (fun j=>listed.getD j false) l:=by
 induction h with
 | @stop n listed h=>
   intro hs hu hc i hi
   have all:∀i,i<ops.size→listed.getD i true=true:=by
    rcases h with h|h
    ·subst h;exact unl_zero (by omega)
    ·have:∀k i,rank i=k→i<ops.size→listed.getD i true=true:=by
      intro k
      induction k using Nat.strongRecOn with
      |ind k ih=>
       intro i hk hi
       cases hx:listed.getD i true with
       |true=>rfl
       |false=>
        have ho:ops[i]?=some ops[i]:=Array.getElem?_eq_getElem hi
        have:i∈rdy m ops listed:=mem_rdy.2 ⟨hx,_,ho,fun e he hb=>by
         obtain⟨h1,h2⟩:=hR _ _ _ ho he hb
         have:=ih (rank e.on) (by omega) e.on rfl h1
         have h2:e.on<listed.size:=by omega
         simpa [h2]using this⟩
        rw[h]at this;cases this
     exact fun i hi=>this _ i rfl hi
   have:=all i hi
   have h2:i<listed.size:=by omega
   simpa [h2]using this
 | @next n i listed l h t ih=>
   intro hs hu hc
   obtain⟨h1,o,ho,h2⟩:=mem_rdy.1 h
   have hi:i<ops.size:=(Array.getElem?_eq_some_iff.1 ho).1
   have his:i<listed.size:=by omega
   have hpre:∀a,Forced ops a i→listed.getD a false=true:=fun a ha=>by
    cases ha with
    |edge h he hb hi=>rw[ho]at h;cases h;rw[←hi];exact h2 _ he (binds_any hb)
    |step t h he hb hi=>rw[ho]at h;cases h;exact hc _ _ t (by rw[←hi];exact h2 _ he (binds_any hb))
   have e1:∀j,j<ops.size→(listed.setIfInBounds i true).getD j false=add (fun j=>listed.getD j false) i j:=fun j hj=>by
    by_cases e:j=i
    ·subst e;simp[add,his]
    ·rw[Go.getD_set_ne false (Ne.symm e)]
     simp only[add,beq_false_of_ne e,Bool.false_or]
   refine⟨hi,by simpa [his]using h1,hpre,?_⟩
   have hlt:∀a b,Forced ops a b→b<ops.size→a<ops.size:=fun a b hab hb=>Nat.lt_trans (forced_lt hE hab) hb
   refine good_congr (fun j hj=>e1 j hj) hlt (ih (by simpa using hs) ?_ fun a b hab hb=>?_)
   ·have:=unl_set h1 (m:=ops.size)
    rw[if_pos hi]at this
    omega
   ·by_cases e:i=b
    ·subst e
     exact Go.getD_set_true (hpre a hab)
    ·rw[Go.getD_set_ne false e]at hb
     exact Go.getD_set_true (hc a b hab hb)
end
theorem unl_start:∀(n m:Nat),unl (Array.replicate n false) m≤m
 |n,0=>Nat.le_refl _
 |n,m+1=>by
  have:=unl_start n m
  simp only[unl]
  cases(Array.replicate n false).getD m true<;>simp<;>omega
def pos:List Nat→Nat→Nat
 | [],_=>0
 |x::l,i=>bif Nat.beq x i then 0 else pos l i+1
def statEdges (ops:Array Oper):Bool:=
 ((List.range ops.size).all fun i=>match ops[i]? with|some o=>o.after.all fun e=>Nat.blt e.on ops.size&&(!(Region.binds .any e||Region.binds .text e)||Nat.blt e.on i)|none=>true)&&
 (!Region.departs ops||(let l:=Region.linearise .gc ops 0;(List.range ops.size).all fun i=>match ops[i]? with|some o=>o.after.all fun e=>!Region.binds .gc e||Nat.blt (pos l e.on) (pos l i)|none=>true))
theorem statEdges_spec {ops:Array Oper} (h:statEdges ops=true):
 (∀(i:Nat) (o:Oper) (e:Edge),ops[i]?=some o→e∈o.after→Region.binds .any e=true→e.on<i)∧
 ∀m,(m=.gc→Region.departs ops=true)→∃rank:Nat→Nat,∀(i:Nat) (o:Oper) (e:Edge),ops[i]?=some o→e∈o.after→Region.binds m e=true→e.on<ops.size∧rank e.on<rank i:=by
 simp only[statEdges,Bool.and_eq_true]at h
 have arr:∀{f:Edge→Bool} {a:Array Edge},a.all f=true→∀e∈a,f e=true:=fun{f a} h e he=>by
  obtain⟨j,hj,hje⟩:=Array.mem_iff_getElem.1 he
  have h3:=Array.all_eq_true.1 h j hj
  rw[hje]at h3;exact h3
 have h1:∀(i:Nat) (o:Oper) (e:Edge),ops[i]?=some o→e∈o.after→e.on<ops.size∧((Region.binds .any e=true∨Region.binds .text e=true)→e.on<i):=fun i o e ho he=>by
  have hi:i<ops.size:=(Array.getElem?_eq_some_iff.1 ho).1
  have:=List.all_eq_true.1 h.1 i (List.mem_range.2 hi)
  rw[ho]at this
  have:=arr this e he
  simp only[Bool.and_eq_true]at this
  refine⟨Nat.lt_of_lt_of_le (Nat.lt_succ_self _) (Nat.le_of_ble_eq_true this.1),fun hb=>?_⟩
  have h2:=this.2
  rw[show(Region.binds .any e||Region.binds .text e)=true by rcases hb with x|x<;>simp[x]]at h2
  exact Nat.lt_of_lt_of_le (Nat.lt_succ_self _) (Nat.le_of_ble_eq_true h2)
 refine⟨fun i o e ho he hb=>(h1 i o e ho he).2 (.inl hb),fun m hm=>?_⟩
 cases m with
 |text=>exact⟨id,fun i o e ho he hb=>⟨(h1 i o e ho he).1,(h1 i o e ho he).2 (.inr hb)⟩⟩
 |any=>exact⟨id,fun i o e ho he hb=>⟨(h1 i o e ho he).1,(h1 i o e ho he).2 (.inl hb)⟩⟩
 |gc=>
  have h2:=h.2
  rw[hm rfl]at h2
  simp only[Bool.not_true,Bool.false_or]at h2
  refine⟨pos (Region.linearise .gc ops 0),fun i o e ho he hb=>⟨(h1 i o e ho he).1,?_⟩⟩
  have hi:i<ops.size:=(Array.getElem?_eq_some_iff.1 ho).1
  have:=List.all_eq_true.1 h2 i (List.mem_range.2 hi)
  rw[ho]at this
  have:=arr this e he
  rw[hb]at this
  exact Nat.lt_of_lt_of_le (Nat.lt_succ_self _) (Nat.le_of_ble_eq_true this)
theorem good_schedule {ops:Array Oper} (hE:statEdges ops=true) (mixed:Bool) (t:Nat):Good (Forced ops) ops.size (fun _=>false) (Region.schedule mixed ops t):=by
 obtain⟨hA,hR⟩:=statEdges_spec hE
 have key:∀m t,(m=.gc→Region.departs ops=true)→Good (Forced ops) ops.size (fun _=>false) (Region.linearise m ops t):=fun m t hm=>by
  obtain⟨rank,hr0⟩:=hR m hm
  have hr:∀j,(Array.replicate ops.size false).getD j false=false:=fun j=>by
   rw[Array.getD_eq_getD_getElem?,Array.getElem?_replicate]
   split<;>rfl
  refine good_congr (fun j _=>hr j) (fun a b hab hb=>Nat.lt_trans (forced_lt hA hab) hb) (good_lin hA hr0 (Go.Par.lin_of m ops t) (by simp) (unl_start _ _) fun a b hab hb=>?_)
  rw[hr]at hb;cases hb
 unfold Region.schedule
 split
 ·exact key _ _ fun h=>by cases h
 ·rename_i hc
  have hd:Region.departs ops=true:=by
   cases hx:Region.departs ops with
   |true=>rfl
   |false=>rw[hx]at hc;simp at hc
  exact key _ _ fun _=>hd
theorem good_range (n:Nat):∀(m i:Nat),i+m=n→Good (·<·) n (fun j=>decide (j<i)) (List.range' i m)
 |0,i,h=>fun j hj=>by simp;omega
 |m+1,i,h=>by
  refine⟨by omega,by simp,fun a ha=>by simpa using ha,?_⟩
  refine good_congr (D:=fun j=>decide (j<i+1)) (fun j hj=>?_) (fun a b hab hb=>by omega) (good_range n m (i+1) (by omega))
  simp only[add]
  by_cases e:j=i
  ·subst e;simp
  ·by_cases h:j<i
   ·have:j<i+1:=by omega
    simp[h,this]
   ·have:¬j<i+1:=by omega
    simp[h,this,e]
def evRegF (P:Program) (ce:Next→Hp→Rs Value) (ops:Array Oper):Nat→Nat→List Value→Hp→Option (List Value×Hp×List (Nat×Nat))
 |0,_,T,H=>some (T,H,[])
 |n+1,i,T,H=>match evOne P ce ops i T H with
  |none=>none
  |some (T1,H1,R,W)=>match evRegF P ce ops n (i+1) T1 H1 with
   |none=>none
   |some (T2,H2,l)=>some (T2,H2,(R,W)::l)
def nc (R1 W1 R2 W2:Nat):Bool:=Nat.beq (Nat.land W1 (Nat.lor R2 W2)) 0&&Nat.beq (Nat.land W2 R1) 0
def allOk (m R W:Nat):List (Nat×Nat×Nat)→Bool
 | []=>true
 |(i,R1,W1)::l=>(bitE m i||nc R1 W1 R W)&&allOk m R W l
def pairs:List Nat→List (Nat×Nat)→Nat→List (Nat×Nat×Nat)→Nat→Nat→Bool
 |_,[],_,_,_,_=>true
 | [],_::_,_,_,_,_=>false
 |m::ms,(R,W)::l,j,prev,RU,WU=>(nc RU WU R W||allOk m R W prev)&&pairs ms l (j+1) ((j,R,W)::prev) (Nat.lor RU R) (Nat.lor WU W)
def orR:List (Nat×Nat)→Nat
 | []=>0
 |(R,_)::l=>Nat.lor R (orR l)
def orW:List (Nat×Nat)→Nat
 | []=>0
 |(_,W)::l=>Nat.lor W (orW l)
def evReg (P:Program) (ce:Next→Hp→Rs Value) (ops:Array Oper) (draw:Bool) (T:List Value) (H:Hp):Rs (List Value):=
 match evRegF P ce ops ops.size 0 T H with
 |none=>none
 |some (T1,H1,l)=>bif !draw||pairs (ancs ops ops.size) l 0 [] 0 0 then some (T1,H1,orR l,orW l)else none
def statPairs (ops:Array Oper) (l:List Nat):Bool:=
 (List.range ops.size).all fun j=>(List.range j).all fun i=>bitE (getN l j) i||(match ops[i]?,ops[j]? with|some oi,some oj=>oi.apart ops oj|_,_=>true)
def regStat (P:Program) (S:Nat→Bool) (ops:Array Oper) (draw:Bool):Bool:=
 (ops.all fun o=>opOkE P S o.op)&&(!draw||(statEdges ops&&statPairs ops (ancs ops ops.size)))
theorem nc_spec {R1 W1 R2 W2:Nat} (h:nc R1 W1 R2 W2=true) (r:Nat):(W1.testBit r=true→R2.testBit r=false∧W2.testBit r=false)∧(W2.testBit r=true→R1.testBit r=false):=by
 simp only[nc,Bool.and_eq_true]at h
 have h1:W1&&&(R2|||W2)=0:=Nat.eq_of_beq_eq_true h.1
 have h2:W2&&&R1=0:=Nat.eq_of_beq_eq_true h.2
 have e1:=congrArg (fun x=>Nat.testBit x r) h1
 have e2:=congrArg (fun x=>Nat.testBit x r) h2
 simp only[Nat.testBit_and,Nat.testBit_or,Nat.zero_testBit,Bool.and_eq_false_iff,Bool.or_eq_false_iff]at e1 e2
 refine⟨fun x=>?_,fun x=>?_⟩
 ·rcases e1 with e|e
  ·rw[x]at e;cases e
  ·exact e
 ·rcases e2 with e|e
  ·rw[x]at e;cases e
  ·exact e
theorem allOk_mem {m R W:Nat}:∀{l:List (Nat×Nat×Nat)},allOk m R W l=true→∀i R1 W1,(i,R1,W1)∈l→bitE m i=true∨nc R1 W1 R W=true
 | [],_,_,_,_,h=>by cases h
 |(i,R1,W1)::l,h,j,R2,W2,hm=>by
  simp only[allOk,Bool.and_eq_true,Bool.or_eq_true]at h
  rcases List.mem_cons.1 hm with e|hm
  ·cases e;exact h.1
  ·exact allOk_mem h.2 _ _ _ hm
theorem nc_sub {RU WU R W R1 W1:Nat} (h:nc RU WU R W=true) (hr:∀r,R1.testBit r=true→RU.testBit r=true) (hw:∀r,W1.testBit r=true→WU.testBit r=true) (r:Nat):
 (W1.testBit r=true→R.testBit r=false∧W.testBit r=false)∧(W.testBit r=true→R1.testBit r=false):=by
 obtain⟨a,b⟩:=nc_spec h r
 refine⟨fun x=>a (hw r x),fun x=>?_⟩
 cases hx:R1.testBit r with
 |false=>rfl
 |true=>have:=b x;rw[hr r hx]at this;cases this
theorem pairs_spec:∀(ms:List Nat) (l:List (Nat×Nat)) (j:Nat) (prev:List (Nat×Nat×Nat)) (RU WU:Nat),pairs ms l j prev RU WU=true→
 (∀i R1 W1,(i,R1,W1)∈prev→∀r,(R1.testBit r=true→RU.testBit r=true)∧(W1.testBit r=true→WU.testBit r=true))→
 (∀(b:Nat) (R W:Nat),l[b]?=some (R,W)→(∀i R1 W1,(i,R1,W1)∈prev→bitE (getN ms b) i=true∨∀r,(W1.testBit r=true→R.testBit r=false∧W.testBit r=false)∧(W.testBit r=true→R1.testBit r=false))∧
   ∀(a R1 W1:Nat),a<b→l[a]?=some (R1,W1)→bitE (getN ms b) (j+a)=true∨∀r,(W1.testBit r=true→R.testBit r=false∧W.testBit r=false)∧(W.testBit r=true→R1.testBit r=false)):=by
 intro ms l
 induction l generalizing ms with
 |nil=>intro j prev RU WU _ _ b R W h;simp at h
 |cons x l ih=>
  obtain⟨Rx,Wx⟩:=x
  intro j prev RU WU h hprev
  cases ms with
  |nil=>simp[pairs]at h
  |cons m ms=>
   simp only[pairs,Bool.and_eq_true,Bool.or_eq_true]at h
   obtain⟨h1,h2⟩:=h
   have ih:=ih ms (j+1) ((j,Rx,Wx)::prev) _ _ h2 (fun i R1 W1 hm r=>by
    have e1:(Nat.lor RU Rx).testBit r=(RU.testBit r||Rx.testBit r):=Nat.testBit_or _ _ _
    have e2:(Nat.lor WU Wx).testBit r=(WU.testBit r||Wx.testBit r):=Nat.testBit_or _ _ _
    rw[e1,e2]
    rcases List.mem_cons.1 hm with e|hm
    ·cases e;exact⟨fun x=>by rw[x,Bool.or_true],fun x=>by rw[x,Bool.or_true]⟩
    ·have:=hprev i R1 W1 hm r
     exact⟨fun x=>by rw[this.1 x];rfl,fun x=>by rw[this.2 x];rfl⟩)
   intro b R W hb
   cases b with
   |zero=>
    simp only[List.getElem?_cons_zero,Option.some.injEq,Prod.mk.injEq]at hb
    obtain⟨rfl,rfl⟩:=hb
    refine⟨fun i R1 W1 hm=>?_,fun a _ _ ha _=>by omega⟩
    rcases h1 with h1|h1
    ·exact .inr (nc_sub h1 (fun r=>(hprev i R1 W1 hm r).1) fun r=>(hprev i R1 W1 hm r).2)
    ·exact(allOk_mem h1 i R1 W1 hm).imp id fun x=>nc_spec x
   |succ b=>
    simp only[List.getElem?_cons_succ]at hb
    obtain⟨k1,k2⟩:=ih b R W hb
    refine⟨fun i R1 W1 hm=>k1 i R1 W1 (List.mem_cons_of_mem _ hm),fun a R1 W1 hab ha=>?_⟩
    cases a with
    |zero=>
     simp only[List.getElem?_cons_zero,Option.some.injEq,Prod.mk.injEq]at ha
     obtain⟨rfl,rfl⟩:=ha
     exact k1 j Rx Wx (by simp)
    |succ a=>
     simp only[List.getElem?_cons_succ]at ha
     have:=k2 a R1 W1 (by omega) ha
     rw[show j+(a+1)=j+1+a by omega]
     exact this
theorem orR_bit:∀{l:List (Nat×Nat)} {i R W r:Nat},l[i]?=some (R,W)→R.testBit r=true→(orR l).testBit r=true
 | [],i,R,W,r,h,_=>by simp at h
 |(Rx,Wx)::l,i,R,W,r,h,hr=>by
  have e:(orR ((Rx,Wx)::l)).testBit r=(Rx.testBit r||(orR l).testBit r):=Nat.testBit_or _ _ _
  rw[e]
  cases i with
  |zero=>simp only[List.getElem?_cons_zero,Option.some.injEq,Prod.mk.injEq]at h;obtain⟨rfl,rfl⟩:=h;rw[hr];rfl
  |succ i=>simp only[List.getElem?_cons_succ]at h;rw[orR_bit h hr,Bool.or_true]
theorem orW_bit:∀{l:List (Nat×Nat)} {i R W r:Nat},l[i]?=some (R,W)→W.testBit r=true→(orW l).testBit r=true
 | [],i,R,W,r,h,_=>by simp at h
 |(Rx,Wx)::l,i,R,W,r,h,hr=>by
  have e:(orW ((Rx,Wx)::l)).testBit r=(Wx.testBit r||(orW l).testBit r):=Nat.testBit_or _ _ _
  rw[e]
  cases i with
  |zero=>simp only[List.getElem?_cons_zero,Option.some.injEq,Prod.mk.injEq]at h;obtain⟨rfl,rfl⟩:=h;rw[hr];rfl
  |succ i=>simp only[List.getElem?_cons_succ]at h;rw[orW_bit h hr,Bool.or_true]
section
variable {P:Program} {S:Nat→Bool} {K:Kz} {Esc:List PanicEntry→World→Prop} {ce:Next→Hp→Rs Value}
theorem evRegF_trace {ops:Array Oper}:∀(n i:Nat) (T:List Value) (H:Hp) (T2:List Value) (H2:Hp) (l:List (Nat×Nat)),evRegF P ce ops n i T H=some (T2,H2,l)→
 ∃(Ts:Nat→List Value) (Hs:Nat→Hp) (R W:Nat→Nat),Ts i=T∧Hs i=H∧Ts (i+n)=T2∧Hs (i+n)=H2∧(∀a,a<n→l[a]?=some (R (i+a),W (i+a)))∧∀a,i≤a→a<i+n→evOne P ce ops a (Ts a) (Hs a)=some (Ts (a+1),Hs (a+1),R a,W a):=by
 intro n
 induction n with
 |zero=>
  intro i T H T2 H2 l e
  simp only[evRegF,Option.some.injEq,Prod.mk.injEq]at e
  obtain⟨rfl,rfl,rfl⟩:=e
  exact⟨fun _=>T,fun _=>H,fun _=>0,fun _=>0,rfl,rfl,rfl,rfl,fun a h=>by omega,fun a h1 h2=>by omega⟩
 |succ n ih=>
  intro i T H T2 H2 l e
  simp only[evRegF]at e
  split at e<;>try(cases e;done)
  rename_i T1 H1 R1 W1 e1
  split at e<;>try(cases e;done)
  rename_i T2' H2' l' e2
  simp only[Option.some.injEq,Prod.mk.injEq]at e
  obtain⟨rfl,rfl,rfl⟩:=e
  obtain⟨Ts,Hs,R,W,a1,a2,a3,a4,a5,a6⟩:=ih (i+1) T1 H1 T2' H2' l' e2
  refine⟨fun j=>if j=i then T else Ts j,fun j=>if j=i then H else Hs j,fun j=>if j=i then R1 else R j,fun j=>if j=i then W1 else W j,if_pos rfl,if_pos rfl,?_,?_,?_,?_⟩
  ·show(if i+(n+1)=i then T else Ts (i+(n+1)))=T2'
   rw[if_neg (by omega),show i+(n+1)=i+1+n by omega];exact a3
  ·show(if i+(n+1)=i then H else Hs (i+(n+1)))=H2'
   rw[if_neg (by omega),show i+(n+1)=i+1+n by omega];exact a4
  ·intro a ha
   show _=some ((if i+a=i then R1 else R (i+a)),(if i+a=i then W1 else W (i+a)))
   cases a with
   |zero=>simp
   |succ a=>
    simp only[List.getElem?_cons_succ]
    rw[a5 a (by omega),if_neg (by omega),if_neg (by omega),show i+1+a=i+(a+1) by omega]
  ·intro a h1 h2
   show evOne P ce ops a (if a=i then T else Ts a) (if a=i then H else Hs a)=some ((if a+1=i then T else Ts (a+1)),(if a+1=i then H else Hs (a+1)),(if a=i then R1 else R a),(if a=i then W1 else W a))
   by_cases e:a=i
   ·subst e
    simp only[if_true]
    rw[if_neg (by omega),if_neg (by omega),e1,a1,a2]
   ·rw[if_neg e,if_neg e,if_neg (by omega),if_neg (by omega),if_neg e,if_neg e]
    exact a6 a (by omega) (by omega)
theorem evRegF_ft (hce:CeOk P S K Esc ce) {ops:Array Oper}:∀(n i:Nat) (T:List Value) (H:Hp) (T2:List Value) (H2:Hp) (l:List (Nat×Nat)),evRegF P ce ops n i T H=some (T2,H2,l)→Ft H (orR l) (orW l) H2∧T2.length=T.length:=by
 intro n
 induction n with
 |zero=>
  intro i T H T2 H2 l e
  simp only[evRegF,Option.some.injEq,Prod.mk.injEq]at e
  obtain⟨rfl,rfl,rfl⟩:=e
  exact⟨Ft.refl _,rfl⟩
 |succ n ih=>
  intro i T H T2 H2 l e
  simp only[evRegF]at e
  split at e<;>try(cases e;done)
  rename_i T1 H1 R1 W1 e1
  split at e<;>try(cases e;done)
  rename_i T2' H2' l' e2
  simp only[Option.some.injEq,Prod.mk.injEq]at e
  obtain⟨rfl,rfl,rfl⟩:=e
  obtain⟨a,b⟩:=ih _ _ _ _ _ _ e2
  refine⟨(evOne_ft hce e1).trans a,b.trans ?_⟩
  obtain⟨o,_,h⟩:=evOne_inv e1
  rcases h with⟨_,v,_,h⟩|⟨_,h,_⟩<;>rw[h,putT_length]
theorem evReg_inv {ops:Array Oper} {draw:Bool} {T:List Value} {H:Hp} {T1:List Value} {H1:Hp} {R W:Nat} (e:evReg P ce ops draw T H=some (T1,H1,R,W)):
 ∃l,evRegF P ce ops ops.size 0 T H=some (T1,H1,l)∧(draw=true→pairs (ancs ops ops.size) l 0 [] 0 0=true)∧R=orR l∧W=orW l:=by
 unfold evReg at e
 split at e
 ·cases e
 ·rename_i T1 H1 l e1
  cases hc:(!draw||pairs (ancs ops ops.size) l 0 [] 0 0)<;>rw[hc]at e<;>simp only[cond_true,cond_false]at e
  ·cases e
  simp only[Option.some.injEq,Prod.mk.injEq]at e
  obtain⟨rfl,rfl,rfl,rfl⟩:=e
  exact⟨l,e1,fun hd=>by rw[hd]at hc;simpa using hc,rfl,rfl⟩
theorem evReg_ft (hce:CeOk P S K Esc ce) {ops:Array Oper} {draw:Bool} {T:List Value} {H:Hp} {T1:List Value} {H1:Hp} {R W:Nat} (e:evReg P ce ops draw T H=some (T1,H1,R,W)):Ft H R W H1∧T1.length=T.length:=by
 obtain⟨l,e1,_,rfl,rfl⟩:=evReg_inv e
 exact evRegF_ft hce _ _ _ _ _ _ _ e1
theorem reg_run (hk:Ok P P.funcs S) (hZ:ZOk P K) (hce:CeOk P S K Esc ce) {ops:Array Oper} {draw:Bool} (hst:regStat P S ops draw=true) {T:List Value} {H:Hp} {T1:List Value} {H1:Hp} {R W:Nat} (e:evReg P ce ops draw T H=some (T1,H1,R,W))
 {Fp:Nat→Prop} {p:Pi} {tm:Array Value} {w:World} (hg:P.globals.size≤H.n) (hF:∀r,(R.testBit r=true∨W.testBit r=true)→Fp r) (hsz:tm.size=T.length) (hr:Rl P S K p H.get Fp w) (hT:∀x,VR S p (getT T x) (tm.getD x undef)) (hG:GlP P S p)
 (hn:∀r,H.n≤r→r<H1.n→∀r',¬p r r') (id:Nat) (b:Frame) (ds:List Deferred) (k:List Item) (cs:List Frame):
 (∃tm' w' q,Steps P (lone (atF b tm ds (.code (.region id ops draw)::k)) cs w) (lone (atF b tm' ds k) cs w')∧tm'.size=T.length∧
   Mv (fun r=>W.testBit r=true) p H.n w q H1.n w'∧Rl P S K q H1.get Fp w'∧∀x,VR S q (getT T1 x) (tm'.getD x undef))∨Thrown P Esc b ds cs (lone (atF b tm ds (.code (.region id ops draw)::k)) cs w):=by
 obtain⟨l,e1,hp,rfl,rfl⟩:=evReg_inv e
 obtain⟨Ts,Hs,R,W,a1,a2,a3,a4,a5,a6⟩:=evRegF_trace _ _ _ _ _ _ _ e1
 rw[Nat.zero_add]at a3 a4 a6
 have t:Tce P ce ops Ts Hs R W:=⟨fun i hi=>a6 i (Nat.zero_le _) hi⟩
 have lR:∀i,i<ops.size→l[i]?=some (R i,W i):=fun i hi=>by have:=a5 i hi;rwa [Nat.zero_add]at this
 simp only[regStat,Bool.and_eq_true]at hst
 have hops:∀(i:Nat) (o:Oper),ops[i]?=some o→opOkE P S o.op=true:=fun i o ho=>by
  obtain⟨hlt,he⟩:=Array.getElem?_eq_some_iff.1 ho
  have:=Array.all_eq_true.1 hst.1 i hlt
  rw[he]at this;exact this
 have mono:=fun i j=>t.n_mono (i:=i) (j:=j) hce
 have hFp:∀i,i<ops.size→∀r,((R i).testBit r=true∨(W i).testBit r=true)→Fp r:=fun i hi r hr=>hF r (hr.imp (fun x=>orR_bit (lR i hi) x) fun x=>orW_bit (lR i hi) x)
 have l0:∀r,last (fun i=>(Hs i).get) (wrH W) (fun _=>false) ops.size r=H.get r:=fun r=>by
  have:∀n,last (fun i=>(Hs i).get) (wrH W) (fun _=>false) n r=H.get r:=by
   intro n
   induction n with
   |zero=>show(Hs 0).get r=_;rw[a2]
   |succ n ih=>simp only[last,Bool.false_and,Bool.false_eq_true,if_false];exact ih
  exact this _
 have l1:∀x,last (fun i=>getT (Ts i)) (wrT ops) (fun _=>false) ops.size x=getT T x:=fun r=>by
  have:∀n,last (fun i=>getT (Ts i)) (wrT ops) (fun _=>false) n r=getT T r:=by
   intro n
   induction n with
   |zero=>show getT (Ts 0) r=_;rw[a1]
   |succ n ih=>simp only[last,Bool.false_and,Bool.false_eq_true,if_false];exact ih
  exact this _
 have fin:∀{order:List Nat} {Fo:Nat→Nat→Prop} {w0:World},w0.heap=w.heap→Good Fo ops.size (fun _=>false) order→(∀i j,i<j→j<ops.size→Fo i j∨disj R W i j)→(∀(i j:Nat) (oi oj:Oper),i<j→ops[i]?=some oi→ops[j]?=some oj→Fo i j∨oi.apart ops oj=true)→
  (∃tm' w' q,Steps P (lone (atF b tm ds (.inRegion ops order::k)) cs w0) (lone (atF b tm' ds k) cs w')∧tm'.size=T.length∧Mv (fun r=>(orW l).testBit r=true) p H.n w q H1.n w'∧Rl P S K q H1.get Fp w'∧∀x,VR S q (getT T1 x) (tm'.getD x undef))∨Thrown P Esc b ds cs (lone (atF b tm ds (.inRegion ops order::k)) cs w0):=by
  intro order Fo w0 hw0 hgood hm ht
  rcases any_run hk hZ hce hops t hm ht (by rw[a2];exact hg) hFp b ds k cs order (fun _=>false) p tm w0 hgood (fun a c _ h=>by cases h) (by rw[a1];exact hsz) ((hr.heap hw0).congr fun r _=>l0 r) (fun x=>by rw[l1];exact hT x) hG (fun j hj _ r h1 h2=>hn r (by have:=mono 0 j (Nat.le_of_lt hj) (Nat.zero_le _);rw[a2]at this;omega) (by have:=mono (j+1) ops.size (Nat.le_refl _) hj;rw[a4]at this;omega))with⟨tm',w',q,c1,c2,c3,c4,c5⟩|hth
  rotate_left
  ·exact .inr hth
  rw[a1]at c2
  rw[a2,a4]at c3
  rw[a4]at c4
  rw[a3]at c5
  exact .inl ⟨tm',w',q,c1.trans (.one st_regionEnd),c2,(c3.heap0 hw0.symm).mono fun r ⟨i,hi,x⟩=>orW_bit (lR i hi) x,c4,c5⟩
 cases draw with
 |false=>
  rcases fin (order:=List.range ops.size) (Fo:=(·<·)) (w0:=w) rfl (by
   have:=good_range ops.size ops.size 0 (Nat.zero_add _)
   rw[←List.range_eq_range']at this
   exact good_congr (fun j _=>by simp) (fun a b hab hb=>by omega) this) (fun i j h _=>.inl h) (fun i j _ _ h _ _=>.inl h)with⟨tm',w',q,c⟩|hth
  ·exact .inl ⟨tm',w',q,.head st_region c.1,c.2⟩
  ·exact .inr (.of_steps (.one st_region) hth)
 |true=>
  have hst2:=hst.2
  simp only[Bool.not_true,Bool.false_or,Bool.and_eq_true]at hst2
  have hpz:=pairs_spec _ _ _ _ _ _ (hp rfl) (fun _ _ _ h=>by cases h)
  obtain⟨tt,w0,hw0,hst0⟩:=st_draw (P:=P) (b:=b) (tm:=tm) (ds:=ds) (k:=k) (cs:=cs) (w:=w) (id:=id) (ops:=ops)
  rcases fin (order:=Region.schedule (P.follows .mixedOrders) ops tt) (Fo:=Forced ops) (w0:=w0) hw0 (good_schedule hst2.1 _ _) (fun i j h hj=>by
   rcases(hpz j _ _ (lR j hj)).2 i _ _ h (lR i (by omega))with x|x
   ·rw[Nat.zero_add]at x;exact .inl (ancs_spec _ _ _ _ (bitE_bit x))
   ·exact .inr x) (fun i j oi oj h hoi hoj=>by
   have hj:j<ops.size:=(Array.getElem?_eq_some_iff.1 hoj).1
   have h2:=List.all_eq_true.1 (List.all_eq_true.1 hst2.2 j (List.mem_range.2 hj)) i (List.mem_range.2 h)
   rw[hoi,hoj,Bool.or_eq_true]at h2
   rcases h2 with x|x
   ·exact .inl (ancs_spec _ _ _ _ (bitE_bit x))
   ·exact .inr x)with⟨tm',w',q,c⟩|hth
  ·exact .inl ⟨tm',w',q,.head hst0 c.1,c.2⟩
  ·exact .inr (.of_steps (.one hst0) hth)
end
end Go.Ev
end
section
namespace Go.Ev
inductive DL (p:Pi):List Deferred→List Deferred→Prop
 |nil:DL p [] []
 |cons {l l':List Deferred} {r r':Nat} (h:p r r') (t:DL p l l'):DL p ({target:=.collected r,args:=#[]}::l) ({target:=.collected r',args:=#[]}::l')
inductive RR (p:Pi):Option Nat→Option Nat→Prop
 |none:RR p none none
 |some {l l':Nat} (h:p l l'):RR p (some l) (some l')
theorem DL.mono {p q:Pi} (h:Le p q) {l l':List Deferred} (x:DL p l l'):DL q l l':=by
 induction x with
 |nil=>exact .nil
 |cons a _ ih=>exact .cons (h _ _ a) ih
theorem RR.mono {p q:Pi} (h:Le p q) {l l':Option Nat} (x:RR p l l'):RR q l l':=by
 cases x with
 |none=>exact .none
 |some a=>exact .some (h _ _ a)
theorem DL.append {p:Pi} {l l' m m':List Deferred} (h:DL p l l') (k:DL p m m'):DL p (l++m) (l'++m'):=by
 induction h with
 |nil=>exact k
 |cons a _ ih=>exact .cons a ih
section
variable {P:Program} {F:Array Func} {S:Nat→Bool} {K:Kz} {N:Nat} {p:Pi}
structure LpR (S:Nat→Bool) (K:Kz) (p:Pi) (l l':Loop):Prop where
 h1:l.state=l'.state
 h2:l.pending=l'.pending
 h3:l.fn=l'.fn
 h4:AR S p l.tmps l'.tmps
 h5:l.params=l'.params
 h6:l.assign=l'.assign
 h7:l.body=l'.body
 h8:p l.defers l'.defers
 k1:S l.fn=true
 k2:K l.assign
 k3:K l.body
 k4:∀c,l.pending=some c→K c
 k5:K (.label (100000+l.fn))
theorem LpR.or {l l':Loop} (x:LpR S K p l l'):OR S K p (.loop l) (.loop l'):=.loop x.h1 x.h2 x.h3 x.h4 x.h5 x.h6 x.h7 x.h8 x.k1 x.k2 x.k3 x.k4 x.k5
theorem SR.getLoop {r r':Nat} (h:p r r'):SR P F S K N (fun q l l'=>LpR S K q l l') (Instr.getLoop r) (Instr.getLoop r') p:=by
 unfold Instr.getLoop
 refine(SR.getObj h).bind fun q o o' hq ho=>?_
 cases ho<;>first|exact SR.stuck|skip
 rename_i h1 h2 h3 h4 h5 h6 h7 h8 k1 k2 k3 k4 k5
 exact SR.pure ⟨h1,h2,h3,h4,h5,h6,h7,h8,k1,k2,k3,k4,k5⟩
theorem SR.enterLoop {f f':Nat} (hff:f=f') (hf:S f=true) (hz:K (.label (100000+f))) {xs xs':Array Value} (hx:AR S p xs xs') (ps:Array Tmp) {a c:Code} (ha:K a) (hc:K c) {o o':Option Nat} (ho:RR p o o'):
 SR P F S K N (fun q x y=>q x.1 y.1∧DL q x.2 y.2) (Instr.enterLoop f xs ps a c o) (Instr.enterLoop f' xs' ps a c o') p:=by
 subst hff
 unfold Instr.enterLoop
 cases ho with
 |none=>
  simp only[bind_assoc,pure_bind]
  refine(SR.newObj .deferred1 fun _ _ _ _ _ _ a=>by cases a).bind fun q r r' hq hr=>?_
  refine(SR.newObj (LpR.or (l:={state:=.ready,pending:=none,fn:=f,tmps:=xs,params:=ps,assign:=a,body:=c,defers:=r}) (l':={state:=.ready,pending:=none,fn:=f,tmps:=xs',params:=ps,assign:=a,body:=c,defers:=r'}) ⟨rfl,rfl,rfl,hx.mono hq,rfl,rfl,rfl,hr.1,hf,ha,hc,fun c h=>(by cases h),hz⟩) fun _ _ _ _ _ _ a=>by cases a).bind fun q2 s s' hq2 hs=>?_
  exact SR.pure ⟨hs.1,.cons (hq2 _ _ hr.1) .nil⟩
 |some h=>
  simp only[bind_assoc,pure_bind]
  refine(SR.getLoop h).bind fun q r r' hq hr=>?_
  refine(SR.newObj (LpR.or (l:={state:=.ready,pending:=none,fn:=f,tmps:=xs,params:=ps,assign:=a,body:=c,defers:=r.defers}) (l':={state:=.ready,pending:=none,fn:=f,tmps:=xs',params:=ps,assign:=a,body:=c,defers:=r'.defers}) ⟨rfl,rfl,rfl,hx.mono hq,rfl,rfl,rfl,hr.h8,hf,ha,hc,fun c h=>(by cases h),hz⟩) fun _ _ _ _ _ _ a=>by cases a).bind fun q2 s s' hq2 hs=>?_
  exact SR.pure ⟨hs.1,.nil⟩
theorem SR.beginRound {r r':Nat} (h:p r r'):SR P F S K N (QE Unit) (Instr.beginRound r) (Instr.beginRound r') p:=by
 unfold Instr.beginRound
 refine(SR.getLoop h).bind fun q l l' hq hl=>?_
 refine(SR.setObj (hq _ _ h) (LpR.or (l:={l with state:=.busy}) (l':={l' with state:=.busy}) ⟨rfl,hl.h2,hl.h3,hl.h4,hl.h5,hl.h6,hl.h7,hl.h8,hl.k1,hl.k2,hl.k3,hl.k4,hl.k5⟩) fun _ _ _ _ _ _ a=>by cases a).bindE fun q2 _ hq2=>?_
 rw[←hl.h1]
 cases l.state with
 |ready=>exact SR.pure rfl
 |done=>exact SR.err _
 |busy=>exact SR.err _
 |exhausted=>exact SR.err _
theorem SR.endRound {r r':Nat} (h:p r r') (j:Option Code) (hj:∀c,j=some c→K c):SR P F S K N (QV S) (Instr.endRound r j) (Instr.endRound r' j) p:=by
 unfold Instr.endRound
 refine(SR.getLoop h).bind fun q l l' hq hl=>?_
 refine(SR.setObj (hq _ _ h) (LpR.or (l:={l with state:=if j.isNone then .ready else .done,pending:=j}) (l':={l' with state:=if j.isNone then .ready else .done,pending:=j}) ⟨rfl,rfl,hl.h3,hl.h4,hl.h5,hl.h6,hl.h7,hl.h8,hl.k1,hl.k2,hl.k3,hj,hl.k5⟩) fun _ _ _ _ _ _ a=>by cases a).bindE fun q2 _ hq2=>?_
 exact SR.pure (VR.plain 2 _ rfl)
theorem SR.endLoop {r r':Nat} (h:p r r'):SR P F S K N (fun _ a b=>a=b∧∀c,a=some c→K c) (Instr.endLoop r) (Instr.endLoop r') p:=by
 unfold Instr.endLoop
 refine(SR.getLoop h).bind fun q l l' hq hl=>?_
 rw[←hl.h1]
 have tail:∀q2,Le q q2→SR P F S K N (fun _ a b=>a=b∧∀c,a=some c→K c) (Go.setObj r (.loop {l with state:=.exhausted})>>=fun _=>(Pure.pure l.pending:Sem (Option Code))) (Go.setObj r' (.loop {l' with state:=.exhausted})>>=fun _=>(Pure.pure l'.pending:Sem (Option Code))) q2:=fun q2 hq2=>by
  refine(SR.setObj (hq2 _ _ (hq _ _ h)) (LpR.or (l:={l with state:=.exhausted}) (l':={l' with state:=.exhausted}) ⟨rfl,hl.h2,hl.h3,hl.h4.mono hq2,hl.h5,hl.h6,hl.h7,hq2 _ _ hl.h8,hl.k1,hl.k2,hl.k3,hl.k4,hl.k5⟩) fun _ _ _ _ _ _ a=>by cases a).bindE fun q3 _ hq3=>?_
  exact SR.pure ⟨hl.h2,hl.k4⟩
 split
 ·exact(SR.err (α:=PUnit) (β:=PUnit) (Q:=QE PUnit) _).bindE fun q2 _ hq2=>tail q2 hq2
 ·exact tail q (Le.refl q)
theorem SR.takeDeferred {r r':Nat} (h:p r r'):SR P F S K N (fun _ a b=>a=[]∧b=[]) (Instr.takeDeferred r) (Instr.takeDeferred r') p:=by
 unfold Instr.takeDeferred
 refine(SR.getObj h).bind fun q o o' hq ho=>?_
 cases ho<;>first|exact SR.stuck|skip
 refine(SR.setObj (hq _ _ h) .deferred0 fun _ _ _ _ _ _ a=>by cases a).bindE fun q2 _ hq2=>?_
 exact SR.pure ⟨rfl,rfl⟩
theorem SR.mapMV {α:Type} (f f':α→Sem Value):∀(l:List α) {p:Pi} {acc acc':Array Value},(∀x q,Le p q→SR P F S K N (QV S) (f x) (f' x) q)→AR S p acc acc'→
 SR P F S K N (QA S) (l.foldlM (fun bs a=>Functor.map bs.push (f a)) acc) (l.foldlM (fun bs a=>Functor.map bs.push (f' a)) acc') p:=by
 intro l
 induction l with
 |nil=>intro p acc acc' _ ha;exact SR.pure ha
 |cons x l ih=>
  intro p acc acc' h ha
  simp only[List.foldlM_cons]
  refine SR.bind (Q:=QA S) ?_ fun q a b hq hab=>ih (fun y q2 hq2=>h y q2 (hq.trans hq2)) hab
  exact(h x p (Le.refl p)).bind fun q b b' hq hb=>SR.pure ((ha.mono hq).push hb)
theorem SR.results {fn fn':Func} (hr:fn.results=fn'.results) {xs xs':Array Value} (h:AR S p xs xs'):SR P F S K N (QV S) (Go.results fn xs) (Go.results fn' xs') p:=by
 unfold Go.results
 rw[←hr]
 refine SR.bind (Q:=QA S) ?_ fun q vs vs' hq hv=>?_
 ·rw[Array.mapM_eq_foldlM,←Array.foldlM_toList,Array.mapM_eq_foldlM,←Array.foldlM_toList]
  refine SR.mapMV _ _ _ (fun x q hq=>?_) AR.empty
  cases x with
  |tmp t=>exact SR.pure ((h.mono hq).getD t VR.undef)
  |cell a t=>exact(SR.asAddr ((h.mono hq).getD a VR.undef)).bind fun q2 a a' hq2 ha=>SR.loadVar t ha
 ·refine SR.pure ?_
  have:=hv.1
  by_cases h1:vs.size=1
  ·have h1':vs'.size=1:=by omega
   simp only[h1,h1',dif_pos]
   exact hv.2 0 _ _ (by simp[h1]) (by simp[h1'])
  ·have h1':vs'.size≠1:=by omega
   simp only[h1,h1',dif_neg,not_false_eq_true]
   exact hv.tuple
end
end Go.Ev
end
section
namespace Go.Ev
abbrev Rc:=Option (Option Code×List Value×List Deferred×Hp×Nat×Nat)
def addRc (R W:Nat):Rc→Rc
 |some (j,T,ds,H,R1,W1)=>some (j,T,ds,H,R|||R1,W|||W1)
 |none=>none
theorem addRc_some {R W:Nat} {x:Rc} {j:Option Code} {T:List Value} {ds:List Deferred} {H:Hp} {R1 W1:Nat} (h:addRc R W x=some (j,T,ds,H,R1,W1)):∃R2 W2,x=some (j,T,ds,H,R2,W2)∧R1=R|||R2∧W1=W|||W2:=by
 cases x with
 |none=>cases h
 |some y=>
  obtain⟨a,b,c,d,e,f⟩:=y
  simp only[addRc,Option.some.injEq,Prod.mk.injEq]at h
  obtain⟨rfl,rfl,rfl,rfl,rfl,rfl⟩:=h
  exact⟨_,_,rfl,rfl,rfl⟩
def isJ:Option Code→Bool
 |none=>true
 |some .ret=>true
 |some (.exit _)=>true
 |some (.goto _)=>true
 |_=>false
def yieldCall (r:Operand→Value) (f:Operand) (l:Nat):Sem Next:=do
 let d←resolve r {callee:=.value f,args:=#[.const (.func (.yield l) #[] #[])],argTypes:=#[]} 0
 invoke d.target d.args
def evRange (P:Program) (ce:Next→Hp→Rs Value) (ro:Option Nat) (fn:Nat) (f:Operand) (params:Array Tmp) (assign body:Code) (T:List Value) (ds:List Deferred) (H:Hp):Rc:=
 match runE P (Instr.enterLoop fn T.toArray params assign body ro) H with
 |none=>none
 |some ((l,mark),H1,R1,W1)=>match runE P (yieldCall (rhoF (getT T)) f l) H1 with
  |none=>none
  |some (nx,H2,R2,W2)=>match ce nx H2 with
   |none=>none
   |some (_,H3,R3,W3)=>match runE P (Instr.endLoop l) H3 with
    |none=>none
    |some (j,H4,R4,W4)=>bif isJ j then some (j,T,mark++ds,H4,R1|||(R2|||(R3|||R4)),W1|||(W2|||(W3|||W4)))else none
abbrev Rg:=(Next→Hp→Rs Value)→Array Oper→Bool→List Value→Hp→Rs (List Value)
def evC (P:Program) (rg:Rg) (ce:Next→Hp→Rs Value) (ro:Option Nat) (fn:Nat):Nat→Option Code→Code→List Value→List Deferred→Hp→Rc
 |0,_,_,_,_,_=>none
 |n+1,some sc,c,T,ds,H=>match evC P rg ce ro fn n none c T ds H with
  |some (some (.goto l),T1,ds1,H1,R,W)=>match findLabel sc l with
   |some rest=>addRc R W (evC P rg ce ro fn n (some sc) rest T1 ds1 H1)
   |none=>some (some (.goto l),T1,ds1,H1,R,W)
  |x=>x
 |n+1,none,c,T,ds,H=>match c with
  |.skip=>some (none,T,ds,H,0,0)
  |.label _=>some (none,T,ds,H,0,0)
  |.region _ ops draw=>match rg ce ops draw T H with
   |some (T1,H1,R,W)=>some (none,T1,ds,H1,R,W)
   |none=>none
  |.seq a b=>match evC P rg ce ro fn n none a T ds H with
   |some (none,T1,ds1,H1,R,W)=>addRc R W (evC P rg ce ro fn n none b T1 ds1 H1)
   |x=>x
  |.cond x a b=>match rhoF (getT T) x with
   |.bool t=>evC P rg ce ro fn n none (bif t then a else b) T ds H
   |_=>none
  |.block id a=>match evC P rg ce ro fn n none a T ds H with
   |some (some (.exit i),T1,ds1,H1,R,W)=>bif Nat.beq i id then some (none,T1,ds1,H1,R,W)else some (some (.exit i),T1,ds1,H1,R,W)
   |x=>x
  |.loop a=>match evC P rg ce ro fn n none a T ds H with
   |some (none,T1,ds1,H1,R,W)=>addRc R W (evC P rg ce ro fn n none (.loop a) T1 ds1 H1)
   |x=>x
  |.scope a=>evC P rg ce ro fn n (some a) a T ds H
  |.exit id=>some (some (.exit id),T,ds,H,0,0)
  |.goto l=>some (some (.goto l),T,ds,H,0,0)
  |.ret=>some (some .ret,T,ds,H,0,0)
  |.rangeFunc f params assign body=>evRange P ce ro fn f params assign body T ds H
  |.refuse _=>none
def isRet:Option Code→Bool
 |none=>true
 |some .ret=>true
 |_=>false
def takeAll (P:Program):List Deferred→Hp→Rs Unit
 | [],H=>some ((),H,0,0)
 |{target:=.collected r,.. }::ds,H=>match runE P (Instr.takeDeferred r) H with
  |some (_,H1,R,W)=>match takeAll P ds H1 with
   |some (_,H2,R2,W2)=>some ((),H2,R|||R2,W|||W2)
   |none=>none
  |none=>none
 |_::_,_=>none
def evFn (P:Program) (rg:Rg) (ce:Next→Hp→Rs Value) (n:Nat) (f:Nat) (args:Array Value) (H:Hp):Rs Value:=
 match P.funcs[f]? with
 |none=>none
 |some fn=>match fn.body with
  |none=>none
  |some body=>match evC P rg ce none f n none body (args.toList++List.replicate (fn.ntmps-args.size) undef) [] H with
   |none=>none
   |some (j,T1,ds1,H1,R1,W1)=>bif isRet j then match takeAll P ds1 H1 with
    |none=>none
    |some (_,H2,R2,W2)=>match runE P (results fn T1.toArray) H2 with
     |none=>none
     |some (v,H3,R3,W3)=>some (v,H3,R1|||(R2|||R3),W1|||(W2|||W3))else none
def evRound (P:Program) (rg:Rg) (ce:Next→Hp→Rs Value) (n:Nat) (l f:Nat) (tmps:Array Value) (assign body:Code) (H:Hp):Rs Value:=
 match evC P rg ce (some l) f n none assign tmps.toList [] H with
 |some (none,T1,ds1,H1,R1,W1)=>match runE P (Instr.beginRound l) H1 with
  |none=>none
  |some (_,H2,R2,W2)=>match evC P rg ce (some l) f n none body T1 ds1 H2 with
   |none=>none
   |some (j,_,_,H3,R3,W3)=>match runE P (Instr.endRound l j) H3 with
    |none=>none
    |some (v,H4,R4,W4)=>some (v,H4,R1|||(R2|||(R3|||R4)),W1|||(W2|||(W3|||W4)))
 |_=>none
def evNG (P:Program) (rg:Rg) (ex:Nat→Bool):Nat→Next→Hp→Rs Value
 |0,_,_=>none
 |n+1,nx,H=>match nx with
  |.enter f args=>bif ex f then none else evFn P rg (evNG P rg ex n) n f args H
  |.round l f tmps assign body=>evRound P rg (evNG P rg ex n) n l f tmps assign body H
  |_=>none
abbrev evN (P:Program) (ex:Nat→Bool):=evNG P (evReg P) ex
def cE (P:Program) (S:Nat→Bool):Code→Bool
 |.skip|.label _|.exit _|.goto _|.ret=>true
 |.region _ ops draw=>regStat P S ops draw
 |.seq a b=>cE P S a&&cE P S b
 |.cond c a b=>opdOk P S c&&cE P S a&&cE P S b
 |.block _ a=>cE P S a
 |.loop a=>cE P S a
 |.scope a=>cE P S a
 |.rangeFunc f _ a b=>opdOk P S f&&cE P S a&&cE P S b
 |.refuse _=>false
def zeroC (P:Program) (e:TypeId) (v:Value):Prop:=∃i z,P.info? e=some i∧i.zero=some z∧v∈z.cells
def cK (P:Program) (S:Nat→Bool):Kz:=⟨fun c=>cE P S c=true,zeroC P⟩
theorem zOk (P:Program) (S:Nat→Bool):ZOk P (cK P S):=fun e i z h1 h2 u hu=>⟨i,z,h1,h2,hu⟩
theorem cE_findLabel {P:Program} {S:Nat→Bool}:∀{c:Code} {l:Nat} {r:Code},cE P S c=true→findLabel c l=some r→cE P S r=true:=by
 intro c
 induction c with
 |seq a b iha ihb=>
  intro l r h e
  simp only[cE,Bool.and_eq_true]at h
  simp only[findLabel]at e
  split at e
  ·rename_i rest h1
   simp only[Option.some.injEq]at e
   subst e
   simp only[cE,Bool.and_eq_true]
   exact⟨iha h.1 h1,h.2⟩
  ·exact ihb h.2 e
 |label l'=>
  intro l r h e
  simp only[findLabel]at e
  split at e
  ·cases e;rfl
  ·cases e
 |_=>intro l r h e;simp[findLabel]at e
section
variable {P:Program} {S:Nat→Bool} {K:Kz} {Esc:List PanicEntry→World→Prop} {ce:Next→Hp→Rs Value}
theorem evRange_ft (hce:CeOk P S K Esc ce) {ro:Option Nat} {fn:Nat} {f:Operand} {params:Array Tmp} {assign body:Code} {T:List Value} {ds:List Deferred} {H:Hp} {j:Option Code} {T1:List Value} {ds1:List Deferred} {H1:Hp} {R W:Nat}
 (e:evRange P ce ro fn f params assign body T ds H=some (j,T1,ds1,H1,R,W)):Ft H R W H1∧T1.length=T.length:=by
 unfold evRange at e
 split at e<;>try(cases e;done)
 rename_i e1
 split at e<;>try(cases e;done)
 rename_i e2
 split at e<;>try(cases e;done)
 rename_i e3
 split at e<;>try(cases e;done)
 rename_i j _ _ _ e4
 cases hj:isJ j<;>rw[hj]at e<;>simp only[cond_true,cond_false]at e
 ·cases e
 simp only[Option.some.injEq,Prod.mk.injEq]at e
 obtain⟨rfl,rfl,rfl,rfl,rfl,rfl⟩:=e
 exact⟨(runE_ft P _ e1).trans ((runE_ft P _ e2).trans ((hce.ft _ _ _ _ _ _ e3).trans (runE_ft P _ e4))),rfl⟩
theorem evC_ft (hce:CeOk P S K Esc ce) (ro:Option Nat) (fn:Nat):∀(n:Nat) (sc:Option Code) (c:Code) (T:List Value) (ds:List Deferred) (H:Hp) (j:Option Code) (T1:List Value) (ds1:List Deferred) (H1:Hp) (R W:Nat),
 evC P (evReg P) ce ro fn n sc c T ds H=some (j,T1,ds1,H1,R,W)→Ft H R W H1∧T1.length=T.length:=by
 intro n
 induction n with
 |zero=>intro sc c T ds H j T1 ds1 H1 R W e;simp[evC]at e
 |succ n ih=>
  intro sc c T ds H j T1 ds1 H1 R W e
  have add:∀{sc c T2 ds2 H2 R2 W2 j T1 ds1 H1 R W},Ft H R2 W2 H2∧T2.length=T.length→addRc R2 W2 (evC P (evReg P) ce ro fn n sc c T2 ds2 H2)=some (j,T1,ds1,H1,R,W)→Ft H R W H1∧T1.length=T.length:=by
   intro sc c T2 ds2 H2 R2 W2 j T1 ds1 H1 R W h e
   obtain⟨R3,W3,e2,rfl,rfl⟩:=addRc_some e
   obtain⟨a,b⟩:=ih _ _ _ _ _ _ _ _ _ _ _ e2
   exact⟨h.1.trans a,b.trans h.2⟩
  cases sc with
  |some sc=>
   simp only[evC]at e
   split at e
   ·rename_i e1
    split at e
    ·exact add (ih _ _ _ _ _ _ _ _ _ _ _ e1) e
    ·simp only[Option.some.injEq,Prod.mk.injEq]at e
     obtain⟨rfl,rfl,rfl,rfl,rfl,rfl⟩:=e
     exact ih _ _ _ _ _ _ _ _ _ _ _ e1
   ·exact ih _ _ _ _ _ _ _ _ _ _ _ e
  |none=>
   have triv:∀{j':Option Code},some (j',T,ds,H,0,0)=some (j,T1,ds1,H1,R,W)→Ft H R W H1∧T1.length=T.length:=fun e=>by
    simp only[Option.some.injEq,Prod.mk.injEq]at e
    obtain⟨rfl,rfl,rfl,rfl,rfl,rfl⟩:=e
    exact⟨Ft.refl _,rfl⟩
   cases c with
   |skip=>exact triv e
   |label l=>exact triv e
   |exit id=>exact triv e
   |goto l=>exact triv e
   |ret=>exact triv e
   |refuse w=>simp[evC]at e
   |region id ops draw=>
    simp only[evC]at e
    split at e<;>try(cases e;done)
    rename_i e1
    simp only[Option.some.injEq,Prod.mk.injEq]at e
    obtain⟨rfl,rfl,rfl,rfl,rfl,rfl⟩:=e
    exact evReg_ft hce e1
   |seq a b=>
    simp only[evC]at e
    split at e
    ·rename_i e1;exact add (ih _ _ _ _ _ _ _ _ _ _ _ e1) e
    ·exact ih _ _ _ _ _ _ _ _ _ _ _ e
   |cond x a b=>
    simp only[evC]at e
    split at e<;>try(cases e;done)
    exact ih _ _ _ _ _ _ _ _ _ _ _ e
   |block id a=>
    simp only[evC]at e
    split at e
    ·rename_i i _ _ _ _ _ e1
     have:=ih _ _ _ _ _ _ _ _ _ _ _ e1
     cases hb:Nat.beq i id<;>rw[hb]at e<;>simp only[cond_true,cond_false,Option.some.injEq,Prod.mk.injEq]at e<;>obtain⟨rfl,rfl,rfl,rfl,rfl,rfl⟩:=e<;>exact this
    ·exact ih _ _ _ _ _ _ _ _ _ _ _ e
   |loop a=>
    simp only[evC]at e
    split at e
    ·rename_i e1;exact add (ih _ _ _ _ _ _ _ _ _ _ _ e1) e
    ·exact ih _ _ _ _ _ _ _ _ _ _ _ e
   |scope a=>exact ih _ _ _ _ _ _ _ _ _ _ _ e
   |rangeFunc f params assign body=>exact evRange_ft hce e
theorem takeAll_ft:∀(ds:List Deferred) (H H1:Hp) (R W:Nat),takeAll P ds H=some ((),H1,R,W)→Ft H R W H1
 | [],H,H1,R,W,e=>by
   simp only[takeAll,Option.some.injEq,Prod.mk.injEq,true_and]at e
   obtain⟨rfl,rfl,rfl⟩:=e
   exact Ft.refl _
 |d::ds,H,H1,R,W,e=>by
  obtain⟨t,args⟩:=d
  cases t<;>simp only[takeAll]at e<;>try(cases e;done)
  split at e<;>try(cases e;done)
  rename_i e1
  split at e<;>try(cases e;done)
  rename_i e2
  simp only[Option.some.injEq,Prod.mk.injEq,true_and]at e
  obtain⟨rfl,rfl,rfl⟩:=e
  exact(runE_ft P _ e1).trans (takeAll_ft ds _ _ _ _ e2)
theorem evFn_ft (hce:CeOk P S K Esc ce) {n f:Nat} {args:Array Value} {H:Hp} {v:Value} {H1:Hp} {R W:Nat} (e:evFn P (evReg P) ce n f args H=some (v,H1,R,W)):Ft H R W H1:=by
 unfold evFn at e
 split at e<;>try(cases e;done)
 split at e<;>try(cases e;done)
 split at e<;>try(cases e;done)
 rename_i j _ _ _ _ _ e1
 cases hr:isRet j<;>rw[hr]at e<;>simp only[cond_true,cond_false]at e
 ·cases e
 split at e<;>try(cases e;done)
 rename_i e2
 split at e<;>try(cases e;done)
 rename_i e3
 simp only[Option.some.injEq,Prod.mk.injEq]at e
 obtain⟨rfl,rfl,rfl,rfl⟩:=e
 exact(evC_ft hce _ _ _ _ _ _ _ _ _ _ _ _ _ _ e1).1.trans ((takeAll_ft _ _ _ _ _ e2).trans (runE_ft P _ e3))
theorem evRound_ft (hce:CeOk P S K Esc ce) {n l f:Nat} {tmps:Array Value} {assign body:Code} {H:Hp} {v:Value} {H1:Hp} {R W:Nat} (e:evRound P (evReg P) ce n l f tmps assign body H=some (v,H1,R,W)):Ft H R W H1:=by
 unfold evRound at e
 split at e<;>try(cases e;done)
 rename_i e1
 split at e<;>try(cases e;done)
 rename_i e2
 split at e<;>try(cases e;done)
 rename_i e3
 split at e<;>try(cases e;done)
 rename_i e4
 simp only[Option.some.injEq,Prod.mk.injEq]at e
 obtain⟨rfl,rfl,rfl,rfl⟩:=e
 exact(evC_ft hce _ _ _ _ _ _ _ _ _ _ _ _ _ _ e1).1.trans ((runE_ft P _ e2).trans ((evC_ft hce _ _ _ _ _ _ _ _ _ _ _ _ _ _ e3).1.trans (runE_ft P _ e4)))
end
end Go.Ev
end
section
namespace Go.Ev
section
variable {P:Program} {b:Frame} {tm:Array Value} {ds:List Deferred} {k:List Item} {cs:List Frame} {w:World}
theorem st_range {f:Operand} {params:Array Tmp} {assign body:Code} {l:Nat} {mark:List Deferred} {w1 w2:World} {nx:Next} {g:Frame}
 (h1:(Instr.enterLoop b.fn tm params assign body b.roundOf).run P w=.ok (l,mark) w1) (h2:(yieldCall (atF b tm (mark++ds) (.inRangeFunc l::k)).eval f l).run P w1=.ok nx w2) (hg:pushed P nx=some g):
 step P (lone (atF b tm ds (.code (.rangeFunc f params assign body)::k)) cs w)=.next (lone g (atF b tm (mark++ds) (.inRangeFunc l::k)::cs) w2):=by
 refine go_exec rfl ?_
 have:=(apply_ok (P:=P) (cs:=cs) (fr:=atF b tm (mark++ds) (.inRangeFunc l::k)) rfl h2).2.2 g hg
 rw[←this]
 unfold stepG.exec
 simp only[atF]at h1⊢
 simp only[Sem.runT_eq,h1,GStep.bare_after]
 rfl
theorem st_endRange {l:Nat} {j:Option Code} {w1:World} (h:(Instr.endLoop l).run P w=.ok j w1):
 step P (lone (atF b tm ds (.endRangeFunc l::k)) cs w)=.next (lone (atF b tm ds ((j.map Item.code).toList++k)) cs w1):=by
 refine go_exec rfl ?_
 unfold stepG.exec
 simp only[atF]
 simp only[Sem.runT_eq,h,GStep.bare_after]
 rfl
theorem st_beginRound {l:Nat} (hl:b.roundOf=some l) {w1:World} (h:(Instr.beginRound l).run P w=.ok () w1):
 step P (lone (atF b tm ds (.beginRound::k)) cs w)=.next (lone (atF b tm ds k) cs w1):=by
 refine go_exec rfl ?_
 have hs:(do (atF b tm ds (.beginRound::k)).roundOf.elim (Go.stuck "beginRound: no round") Instr.beginRound;Pure.pure Next.skip:Sem Next).run P w=.ok .skip w1:=by
  show(do b.roundOf.elim (Go.stuck "beginRound: no round") Instr.beginRound;Pure.pure Next.skip:Sem Next).run P w=.ok .skip w1
  rw[hl]
  exact run_bind_ok P _ _ w h
 have:=(apply_ok (P:=P) (cs:=cs) (fr:=atF b tm ds (.beginRound::k)) rfl hs).2.1 rfl
 rw[show(atF b tm ds (.beginRound::k)).finish undef=atF b tm ds k from rfl]at this
 rw[←this]
 rfl
end
def Ends (j:Option Code) (k todo:List Item):Prop:=match j with
 |none=>todo=k
 |some .ret=>∃k2,todo=.code .ret::k2
 |some (.exit id)=>∃k2,todo=.code (.exit id)::k2∧exitTo id k2=exitTo id k
 |some (.goto l)=>∃k2,todo=.code (.goto l)::k2∧gotoIn l k2=gotoIn l k
 |some _=>False
structure St (P:Program) (S:Nat→Bool) (Fp:Nat→Prop) (p:Pi) (H:Hp) (T:List Value) (ds:List Deferred) (tm:Array Value) (dsr:List Deferred) (w:World):Prop where
 sz:tm.size=T.length
 rl:Rl P S (cK P S) p H.get Fp w
 tr:∀x,VR S p (getT T x) (tm.getD x undef)
 dl:DL p ds dsr
 gl:GlP P S p
 hg:P.globals.size≤H.n
def Got (P:Program) (S:Nat→Bool) (Fp:Nat→Prop) (b:Frame) (cs:List Frame) (k:List Item) (p:Pi) (n:Nat) (w:World) (m:Machine) (j:Option Code) (T1:List Value) (ds1:List Deferred) (H1:Hp) (W:Nat):Prop:=
 ∃tm' ds' w' q todo,Steps P m (lone (atF b tm' ds' todo) cs w')∧Mv (fun r=>W.testBit r=true) p n w q H1.n w'∧St P S Fp q H1 T1 ds1 tm' ds' w'∧Ends j k todo
section
variable {P:Program} {S:Nat→Bool} {Fp:Nat→Prop} {b:Frame} {cs:List Frame} {ce:Next→Hp→Rs Value}
theorem Ends.pass {x:Item} (hx:x.plain=true) {j:Option Code} {c:Code} (hj:j=some c) {k todo:List Item} (h:Ends j (x::k) todo):Ends j k todo:=by
 subst hj
 cases c<;>try exact h
 ·obtain⟨k2,h1,h2⟩:=h
  refine⟨k2,h1,h2.trans ?_⟩
  cases x<;>first|rfl|cases hx
 ·obtain⟨k2,h1,h2⟩:=h
  refine⟨k2,h1,h2.trans ?_⟩
  cases x<;>first|rfl|cases hx
theorem fresh_next {W:Nat→Prop} {p q:Pi} {n n1 N:Nat} {w w1:World} (h:∀r,n≤r→r<N→∀r',¬p r r') (m:Mv W p n w q n1 w1):∀r,n1≤r→r<N→∀r',¬q r r':=fun r a c r' hq=>by
 rcases m.new r r' hq with x|⟨_,x,_⟩
 ·exact h r (Nat.le_trans m.nn a) c r' x
 ·omega
theorem bits_l {R W R1 W1:Nat} (h:∀r,((R|||R1).testBit r=true∨(W|||W1).testBit r=true)→Fp r):∀r,(R.testBit r=true∨W.testBit r=true)→Fp r:=fun r x=>h r (x.imp (fun x=>by rw[Nat.testBit_or,x];rfl) fun x=>by rw[Nat.testBit_or,x];rfl)
theorem bits_r {R W R1 W1:Nat} (h:∀r,((R|||R1).testBit r=true∨(W|||W1).testBit r=true)→Fp r):∀r,(R1.testBit r=true∨W1.testBit r=true)→Fp r:=fun r x=>h r (x.imp (fun x=>by rw[Nat.testBit_or,x,Bool.or_true]) fun x=>by rw[Nat.testBit_or,x,Bool.or_true])
theorem Mv.or {p q s:Pi} {n n1 n2 W1 W2:Nat} {w w1 w2:World} (h:Mv (fun r=>W1.testBit r=true) p n w q n1 w1) (k:Mv (fun r=>W2.testBit r=true) q n1 w1 s n2 w2):Mv (fun r=>(W1|||W2).testBit r=true) p n w s n2 w2:=
 h.trans k (fun r x=>by rw[Nat.testBit_or,x];rfl) (fun r x=>by rw[Nat.testBit_or,x,Bool.or_true])
theorem sem_run {α β:Type} {Q:Pi→α→β→Prop} {s:Sem α} {s':Sem β} {p:Pi} {H:Hp} {a:α} {H1:Hp} {R W:Nat} {w:World} (h:SR P P.funcs S (cK P S) 0 Q s s' p) (e:runE P s H=some (a,H1,R,W))
 (hr:Rl P S (cK P S) p H.get Fp w) (hg:P.globals.size≤H.n) (hn:∀r,H.n≤r→r<H1.n→∀r',¬p r r') (hF:∀r,(R.testBit r=true∨W.testBit r=true)→Fp r):
 ∃a' w1 q,s'.run P w=.ok a' w1∧Q q a a'∧Mv (fun r=>W.testBit r=true) p H.n w q H1.n w1∧Rl P S (cK P S) q H1.get Fp w1:=by
 obtain⟨a',w1,q,c1,c2,c3,c4⟩:=runE_sound (P:=P) (F:=P.funcs) s (h hr.ok) e hr hg hn (fun r x=>.inr (hF r x))
 exact⟨a',w1,q,c1,c2,c3,c4.mono fun r x=>.inl x⟩
theorem toArray_rel {p:Pi} {T:List Value} {tm:Array Value} (h1:tm.size=T.length) (h2:∀x,VR S p (getT T x) (tm.getD x undef)):AR S p T.toArray tm:=by
 refine⟨by simp[h1],fun i v v' hv hv'=>?_⟩
 have e1:getT T i=v:=by
  have:∀(L:List Value) i,L[i]?=some v→getT L i=v:=by
   intro L
   induction L with
   |nil=>intro i h;simp at h
   |cons y L ih=>intro i h;cases i with
    |zero=>simpa [getT]using h
    |succ i=>exact ih i (by simpa using h)
  exact this T i (by simpa using hv)
 have:=h2 i
 rw[e1,Array.getD_eq_getD_getElem?,hv']at this
 exact this
theorem SR.yieldCall {K:Kz} {p:Pi} (hb:Bodies P P.funcs S) {r r':Operand→Value} (hE:EnvR P S p r r') {f:Operand} (hf:opdOk P S f=true) {l l':Nat} (hl:p l l'):
 SR P P.funcs S K 0 (QX S K) (Ev.yieldCall r f l) (Ev.yieldCall r' f l') p:=by
 have e:∀(r:Operand→Value),(∀v,r (.const v)=v)→∀l,Ev.yieldCall r f l=(Deferred.ofValue (r f) #[.func (.yield l) #[] #[]]>>=fun d=>invoke d.target d.args):=fun r hr l=>by
  unfold Ev.yieldCall resolve
  simp[hr]
 rw[e r (fun v=>(hE.const v).1),e r' (fun v=>(hE.const v).2)]
 exact SR.invokeValue hb (hE.at hf) (AR.one (VR.yield hl))
theorem range_run (hk:Ok P P.funcs S) (hce:CeOk P S (cK P S) (fun _ _=>False) ce) {ro:Option Nat} {f:Operand} {params:Array Tmp} {assign body:Code} {T:List Value} {ds:List Deferred} {H:Hp} {j:Option Code} {T1:List Value} {ds1:List Deferred} {H1:Hp} {R W:Nat}
 (e:evRange P ce ro b.fn f params assign body T ds H=some (j,T1,ds1,H1,R,W)) (hf:opdOk P S f=true) (ha:cE P S assign=true) (hb:cE P S body=true) (hS:S b.fn=true)
 {p:Pi} {tm:Array Value} {dsr:List Deferred} {w:World} {k:List Item} (hro:RR p ro b.roundOf) (hst:St P S Fp p H T ds tm dsr w) (hn:∀r,H.n≤r→r<H1.n→∀r',¬p r r') (hF:∀r,(R.testBit r=true∨W.testBit r=true)→Fp r):
 Got P S Fp b cs k p H.n w (lone (atF b tm dsr (.code (.rangeFunc f params assign body)::k)) cs w) j T1 ds1 H1 W:=by
 unfold evRange at e
 split at e<;>try(cases e;done)
 rename_i l mark Ha Ra Wa e1
 split at e<;>try(cases e;done)
 rename_i nx Hb Rb Wb e2
 split at e<;>try(cases e;done)
 rename_i v Hc Rc Wc e3
 split at e<;>try(cases e;done)
 rename_i j' Hd Rd Wd e4
 cases hj:isJ j'<;>rw[hj]at e<;>simp only[cond_true,cond_false]at e
 ·cases e
 simp only[Option.some.injEq,Prod.mk.injEq]at e
 obtain⟨rfl,rfl,rfl,rfl,rfl,rfl⟩:=e
 have f1:=runE_ft P _ e1
 have f2:=runE_ft P _ e2
 have f3:=hce.ft _ _ _ _ _ _ e3
 have f4:=runE_ft P _ e4
 have n1:=f1.nn;have n2:=f2.nn;have n3:=f3.nn;have n4:=f4.nn
 obtain⟨⟨l',mark'⟩,w1,q1,a1,⟨a2,a3⟩,a4,a5⟩:=sem_run (SR.enterLoop (K:=cK P S) (f:=b.fn) (f':=b.fn) rfl hS (show cE P S _=true from rfl) (toArray_rel hst.sz hst.tr) params ha hb hro) e1 hst.rl hst.hg (fun r x y=>hn r x (by omega)) (bits_l hF)
 have hn1:=fresh_next hn a4
 have hE:=envR (b:=b) (ds:=mark'++dsr) (k:=.inRangeFunc l'::k) (hst.gl.mono a4.le) (τ:=getT T) (tm:=tm) fun x=>(hst.tr x).mono a4.le
 obtain⟨nx',w2,q2,b1,b2,b3,b4⟩:=sem_run (s':=yieldCall (atF b tm (mark'++dsr) (.inRangeFunc l'::k)).eval f l') (SR.yieldCall hk.bodies hE hf a2) e2 a5 (by have:=hst.hg;omega) (fun r x y=>hn1 r x (by omega)) (bits_l (bits_r hF))
 have hn2:=fresh_next hn1 b3
 rcases hce.run _ _ _ _ _ _ e3 q2 Fp w2 nx' (atF b tm (mark'++dsr) (.inRangeFunc l'::k)) cs b2 b4 ((hst.gl.mono a4.le).mono b3.le) (by have:=hst.hg;omega) (fun r x y=>hn2 r x (by omega)) (bits_l (bits_r (bits_r hF)))with⟨g,v',w3,c1,c2,q3,c3,c4,c5⟩|⟨_,_,_,_,_,h⟩
 rotate_left
 ·exact h.elim
 have hn3:=fresh_next hn2 c4
 obtain⟨j2,w4,q4,d1,⟨d2,d3⟩,d4,d5⟩:=sem_run (SR.endLoop (c4.le _ _ (b3.le _ _ a2))) e4 (c5.mono fun r x=>.inl x) (by have:=hst.hg;omega) (fun r x y=>hn3 r x (by omega)) (bits_r (bits_r (bits_r hF)))
 subst d2
 have hfin:(atF b tm (mark'++dsr) (.inRangeFunc l'::k)).finish v'=atF b tm (mark'++dsr) (.endRangeFunc l'::k):=rfl
 rw[hfin]at c2
 refine⟨tm,mark'++dsr,w4,q4,(j'.map Item.code).toList++k,.head (st_range a1 b1 c1) (c2.trans (.one (st_endRange d1))),a4.or (b3.or (c4.or d4)),⟨hst.sz,d5,fun x=>((((hst.tr x).mono a4.le).mono b3.le).mono c4.le).mono d4.le,DL.append (((a3.mono b3.le).mono c4.le).mono d4.le) ((((hst.dl.mono a4.le).mono b3.le).mono c4.le).mono d4.le),(((hst.gl.mono a4.le).mono b3.le).mono c4.le).mono d4.le,by have:=hst.hg;omega⟩,?_⟩
 cases j' with
 |none=>rfl
 |some c=>cases c<;>first|(cases hj;done)|exact⟨k,rfl⟩|exact⟨k,rfl,rfl⟩
theorem Got.of_steps {k:List Item} {p:Pi} {n:Nat} {w:World} {m m':Machine} {j:Option Code} {T1:List Value} {ds1:List Deferred} {H1:Hp} {W:Nat} (h:Steps P m m') (g:Got P S Fp b cs k p n w m' j T1 ds1 H1 W):Got P S Fp b cs k p n w m j T1 ds1 H1 W:=by
 obtain⟨tm',ds',w',q,todo,a,c⟩:=g
 exact⟨tm',ds',w',q,todo,h.trans a,c⟩
theorem steps_tail {m m1 f:Machine} (h:Steps P m f) (hs:step P m=.next m1) (hne:m≠f):Steps P m1 f:=by
 obtain⟨n,hn⟩:=h
 cases n with
 |zero=>
  simp only[runN]at hn
  cases hn
  exact absurd rfl hne
 |succ n=>
  simp only[runN,hs]at hn
  exact⟨n,hn⟩
theorem code_run (hk:Ok P P.funcs S) (hce:CeOk P S (cK P S) (fun _ _=>False) ce) (ro:Option Nat) (hS:S b.fn=true):∀(n:Nat) (sc:Option Code) (c:Code) (T:List Value) (ds:List Deferred) (H:Hp) (j:Option Code) (T1:List Value) (ds1:List Deferred) (H1:Hp) (R W:Nat),
 evC P (evReg P) ce ro b.fn n sc c T ds H=some (j,T1,ds1,H1,R,W)→cE P S c=true→(∀x,sc=some x→cE P S x=true)→∀(p:Pi) (tm:Array Value) (dsr:List Deferred) (w:World) (k:List Item),RR p ro b.roundOf→St P S Fp p H T ds tm dsr w→
 (∀r,H.n≤r→r<H1.n→∀r',¬p r r')→(∀r,(R.testBit r=true∨W.testBit r=true)→Fp r)→
 Got P S Fp b cs k p H.n w (lone (atF b tm dsr (.code c::(match sc with|none=>k|some x=>.inScope x::k))) cs w) j T1 ds1 H1 W:=by
 intro n
 induction n with
 |zero=>intro sc c T ds H j T1 ds1 H1 R W e;simp[evC]at e
 |succ n ih=>
  intro sc c T ds H j T1 ds1 H1 R W e hc hsc p tm dsr w k hro hst hn hF
  have two:∀{sc2 c2 T2 ds2 H2 R2 W2 m k2},Ft H R2 W2 H2→Got P S Fp b cs k2 p H.n w m none T2 ds2 H2 W2→k2=(.code c2::(match sc2 with|none=>k|some x=>.inScope x::k))→addRc R2 W2 (evC P (evReg P) ce ro b.fn n sc2 c2 T2 ds2 H2)=some (j,T1,ds1,H1,R,W)→cE P S c2=true→(∀x,sc2=some x→cE P S x=true)→
   Got P S Fp b cs k p H.n w m j T1 ds1 H1 W:=by
   intro sc2 c2 T2 ds2 H2 R2 W2 m k2 hft hgot hk2 hadd hc2 hsc2
   obtain⟨R3,W3,e3,rfl,rfl⟩:=addRc_some hadd
   obtain⟨tm',ds',w',q,todo,g1,g2,g3,g4⟩:=hgot
   have g4:todo=k2:=g4
   subst g4;subst hk2
   obtain⟨tm2,ds2',w2,q2,todo2,k1,k2,k3,k4⟩:=ih sc2 c2 T2 ds2 H2 j T1 ds1 H1 R3 W3 e3 hc2 hsc2 q tm' ds' w' k (hro.mono g2.le) g3 (fresh_next hn g2) (bits_r hF)
   exact⟨tm2,ds2',w2,q2,todo2,g1.trans k1,g2.or k2,k3,k4⟩
  have addn:∀{sc2 c2 R3 W3 T3 ds3 H3},addRc R3 W3 (evC P (evReg P) ce ro b.fn n sc2 c2 T3 ds3 H3)=some (j,T1,ds1,H1,R,W)→H3.n≤H1.n∧∀r,(R3.testBit r=true∨W3.testBit r=true)→Fp r:=by
   intro sc2 c2 R3 W3 T3 ds3 H3 hadd
   obtain⟨R4,W4,e4,rfl,rfl⟩:=addRc_some hadd
   exact⟨(evC_ft hce _ _ _ _ _ _ _ _ _ _ _ _ _ _ e4).1.nn,bits_l hF⟩
  have here:∀{todo m},Steps P m (lone (atF b tm dsr todo) cs w)→some (j,T,ds,H,0,0)=some (j,T1,ds1,H1,R,W)→Ends j k todo→Got P S Fp b cs k p H.n w m j T1 ds1 H1 W:=by
   intro todo m hs e he
   simp only[Option.some.injEq,Prod.mk.injEq]at e
   obtain⟨_,rfl,rfl,rfl,rfl,rfl⟩:=e
   exact⟨tm,dsr,w,p,todo,hs,Mv.refl _ _ _ _,hst,he⟩
  cases sc with
  |some sc=>
   simp only[evC]at e
   have hsc1:=hsc sc rfl
   have pop:∀{j2 T2 ds2 H2 W2},Got P S Fp b cs (.inScope sc::k) p H.n w (lone (atF b tm dsr (.code c:: .inScope sc::k)) cs w) j2 T2 ds2 H2 W2→(∀l,j2=some (.goto l)→findLabel sc l=none)→Got P S Fp b cs k p H.n w (lone (atF b tm dsr (.code c:: .inScope sc::k)) cs w) j2 T2 ds2 H2 W2:=by
    intro j2 T2 ds2 H2 W2 ⟨tm',ds',w',q,todo,g1,g2,g3,g4⟩ hlab
    cases j2 with
    |none=>
     have g4:todo=_:=g4
     subst g4
     exact⟨tm',ds',w',q,k,g1.trans (.one st_inScope),g2,g3,rfl⟩
    |some c2=>
     refine⟨tm',ds',w',q,todo,g1,g2,g3,?_⟩
     cases c2<;>try exact g4
     ·rename_i l
      obtain⟨k2,h1,h2⟩:=g4
      refine⟨k2,h1,h2.trans ?_⟩
      show(match findLabel sc l with|some rest=>(some (Item.code rest::Item.inScope sc::k):Option (List Item))|none=>gotoIn l k)=_
      rw[hlab l rfl]
   split at e
   ·rename_i l T2 ds2 H2 R2 W2 e1
    split at e
    ·rename_i rest hlab
     have⟨x1,x2⟩:=addn e
     have hgot:=ih none c T ds H _ T2 ds2 H2 R2 W2 e1 hc (fun _ h=>by cases h) p tm dsr w (.inScope sc::k) hro hst (fun r a c=>hn r a (by omega)) x2
     obtain⟨tm',ds',w',q,todo,g1,g2,g3,k2,rfl,g5⟩:=hgot
     have g6:gotoIn l k2=some (.code rest:: .inScope sc::k):=by
      rw[g5]
      show(match findLabel sc l with|some rest=>(some (Item.code rest::Item.inScope sc::k):Option (List Item))|none=>gotoIn l k)=_
      rw[hlab]
     exact two (sc2:=some sc) (evC_ft hce _ _ _ _ _ _ _ _ _ _ _ _ _ _ e1).1 ⟨tm',ds',w',q,_,g1.trans (.one (st_goto g6)),g2,g3,rfl⟩ rfl e (cE_findLabel hsc1 hlab) hsc
    ·rename_i hlab
     simp only[Option.some.injEq,Prod.mk.injEq]at e
     obtain⟨rfl,rfl,rfl,rfl,rfl,rfl⟩:=e
     exact pop (ih none c T ds H _ _ _ _ _ _ e1 hc (fun _ h=>by cases h) p tm dsr w (.inScope sc::k) hro hst hn hF) fun l' h=>by cases h;exact hlab
   ·rename_i hno
    refine pop (ih none c T ds H _ _ _ _ _ _ e hc (fun _ h=>by cases h) p tm dsr w (.inScope sc::k) hro hst hn hF) fun l h=>?_
    subst h
    exact absurd e (hno _ _ _ _ _ _)
  |none=>
   cases c with
   |skip=>
    simp only[evC,Option.some.injEq,Prod.mk.injEq]at e
    obtain⟨rfl,e⟩:=e
    exact here (.one st_skip) (by obtain⟨rfl,rfl,rfl,rfl,rfl⟩:=e;rfl) rfl
   |label l=>
    simp only[evC,Option.some.injEq,Prod.mk.injEq]at e
    obtain⟨rfl,e⟩:=e
    exact here (.one st_label) (by obtain⟨rfl,rfl,rfl,rfl,rfl⟩:=e;rfl) rfl
   |exit id=>
    simp only[evC,Option.some.injEq,Prod.mk.injEq]at e
    obtain⟨rfl,e⟩:=e
    exact here (.refl _ _) (by obtain⟨rfl,rfl,rfl,rfl,rfl⟩:=e;rfl) ⟨k,rfl,rfl⟩
   |goto l=>
    simp only[evC,Option.some.injEq,Prod.mk.injEq]at e
    obtain⟨rfl,e⟩:=e
    exact here (.refl _ _) (by obtain⟨rfl,rfl,rfl,rfl,rfl⟩:=e;rfl) ⟨k,rfl,rfl⟩
   |ret=>
    simp only[evC,Option.some.injEq,Prod.mk.injEq]at e
    obtain⟨rfl,e⟩:=e
    exact here (.refl _ _) (by obtain⟨rfl,rfl,rfl,rfl,rfl⟩:=e;rfl) ⟨k,rfl⟩
   |refuse w=>simp[evC]at e
   |region id ops draw=>
    simp only[evC]at e
    split at e<;>try(cases e;done)
    rename_i T2 H2 R2 W2 e1
    simp only[Option.some.injEq,Prod.mk.injEq]at e
    obtain⟨rfl,rfl,rfl,rfl,rfl,rfl⟩:=e
    rcases reg_run hk (zOk P S) hce hc e1 hst.hg hF hst.sz hst.rl hst.tr hst.gl hn id b dsr k cs with⟨tm',w',q,a1,a2,a3,a4,a5⟩|⟨_,_,_,_,_,h⟩
    ·exact⟨tm',dsr,w',q,k,a1,a3,⟨a2.trans (evReg_ft hce e1).2.symm,a4,a5,hst.dl.mono a3.le,hst.gl.mono a3.le,Nat.le_trans hst.hg a3.nn⟩,rfl⟩
    ·exact h.elim
   |seq a c=>
    simp only[cE,Bool.and_eq_true]at hc
    simp only[evC]at e
    split at e
    ·rename_i T2 ds2 H2 R2 W2 e1
     have⟨x1,x2⟩:=addn e
     exact(two (sc2:=none) (evC_ft hce _ _ _ _ _ _ _ _ _ _ _ _ _ _ e1).1 (ih none a T ds H _ _ _ _ _ _ e1 hc.1 (fun _ h=>by cases h) p tm dsr w (.code c::k) hro hst (fun r a c=>hn r a (by omega)) x2) rfl e hc.2 fun _ h=>by cases h).of_steps (.one st_seq)
    ·rename_i hno
     obtain⟨tm',ds',w',q,todo,g1,g2,g3,g4⟩:=ih none a T ds H _ _ _ _ _ _ e hc.1 (fun _ h=>by cases h) p tm dsr w (.code c::k) hro hst hn hF
     cases j with
     |none=>exact absurd e (hno _ _ _ _ _)
     |some c2=>exact⟨tm',ds',w',q,todo,.head st_seq g1,g2,g3,g4.pass (c:=c2) (x:=.code c) rfl rfl⟩
   |cond x a c=>
    simp only[cE,Bool.and_eq_true]at hc
    simp only[evC]at e
    split at e<;>try(cases e;done)
    rename_i t ht
    have hE:=(envR (b:=b) (ds:=dsr) (k:=.code (.cond x a c)::k) hst.gl hst.tr).at hc.1.1
    have hx:(atF b tm dsr (.code (.cond x a c)::k)).eval x=.bool t:=by
     rw[ht]at hE
     generalize(atF b tm dsr (.code (.cond x a c)::k)).eval x=y at hE
     cases hE;rfl
    refine Got.of_steps (.one (st_cond hx)) ?_
    rw[show(if t=true then a else c)=(bif t then a else c) by cases t<;>rfl]
    exact ih none _ T ds H _ _ _ _ _ _ e (by cases t;exact hc.2;exact hc.1.2) (fun _ h=>by cases h) p tm dsr w k hro hst hn hF
   |block id a=>
    simp only[evC]at e
    split at e
    ·rename_i i T2 ds2 H2 R2 W2 e1
     cases hb:Nat.beq i id<;>rw[hb]at e<;>simp only[cond_true,cond_false,Option.some.injEq,Prod.mk.injEq]at e<;>obtain⟨rfl,rfl,rfl,rfl,rfl,rfl⟩:=e
     ·obtain⟨tm',ds',w',q,todo,g1,g2,g3,k2,g4,g5⟩:=ih none a T ds H _ _ _ _ _ _ e1 hc (fun _ h=>by cases h) p tm dsr w (.inBlock id::k) hro hst hn hF
      refine⟨tm',ds',w',q,todo,.head st_block g1,g2,g3,k2,g4,g5.trans ?_⟩
      show(if id==i then some k else exitTo i k)=_
      rw[if_neg]
      intro h
      have:id=i:=by simpa using h
      subst this
      rw[Nat.beq_refl]at hb;cases hb
     ·have:i=id:=Nat.eq_of_beq_eq_true hb
      subst this
      obtain⟨tm',ds',w',q,todo,g1,g2,g3,k2,rfl,g5⟩:=ih none a T ds H _ _ _ _ _ _ e1 hc (fun _ h=>by cases h) p tm dsr w (.inBlock i::k) hro hst hn hF
      refine⟨tm',ds',w',q,k,.head st_block (g1.trans (.one (st_exit ?_))),g2,g3,rfl⟩
      rw[g5]
      show(if i==i then some k else exitTo i k)=_
      simp
    ·rename_i hno
     obtain⟨tm',ds',w',q,todo,g1,g2,g3,g4⟩:=ih none a T ds H _ _ _ _ _ _ e hc (fun _ h=>by cases h) p tm dsr w (.inBlock id::k) hro hst hn hF
     cases j with
     |none=>
      have g4:todo=_:=g4
      subst g4
      exact⟨tm',ds',w',q,k,.head st_block (g1.trans (.one st_inBlock)),g2,g3,rfl⟩
     |some c2=>
      refine⟨tm',ds',w',q,todo,.head st_block g1,g2,g3,?_⟩
      cases c2<;>try exact g4
      exact absurd e (hno _ _ _ _ _ _)
   |loop a=>
    simp only[evC]at e
    split at e
    ·rename_i T2 ds2 H2 R2 W2 e1
     have⟨x1,x2⟩:=addn e
     obtain⟨R3,W3,e3,rfl,rfl⟩:=addRc_some e
     obtain⟨tm',ds',w',q,todo,g1,g2,g3,g4⟩:=ih none a T ds H _ _ _ _ _ _ e1 hc (fun _ h=>by cases h) p tm dsr w (.inLoop a::k) hro hst (fun r a c=>hn r a (by omega)) x2
     have g4:todo=_:=g4
     subst g4
     obtain⟨tm2,ds2',w2,q2,todo2,k1,k2,k3,k4⟩:=ih none (.loop a) T2 ds2 H2 j T1 ds1 H1 R3 W3 e3 hc (fun _ h=>by cases h) q tm' ds' w' k (hro.mono g2.le) g3 (fresh_next hn g2) (bits_r hF)
     refine⟨tm2,ds2',w2,q2,todo2,.head st_loop (g1.trans (.head st_inLoop (steps_tail k1 st_loop fun hm=>?_))),g2.or k2,k3,k4⟩
     have h1:(atF b tm' ds' (.code (.loop a)::k)).todo=(atF b tm2 ds2' todo2).todo:=by
      have:=congrArg (fun m:Machine=>(m.gs[0]?).map fun g=>g.frame.todo) hm
      simpa [lone]using this
     have h1:.code (.loop a)::k=todo2:=h1
     cases j with
     |none=>
      have k4:todo2=k:=k4
      have:=congrArg List.length (h1.trans k4)
      simp at this
     |some c=>
      cases c<;>try exact k4.elim
      all_goals(obtain⟨k9,k5⟩:=k4;first|(rw[←h1]at k5;simp at k5;done)|(rw[←h1]at k5;have k6:=k5.1;simp at k6;done))
    ·rename_i hno
     obtain⟨tm',ds',w',q,todo,g1,g2,g3,g4⟩:=ih none a T ds H _ _ _ _ _ _ e hc (fun _ h=>by cases h) p tm dsr w (.inLoop a::k) hro hst hn hF
     cases j with
     |none=>exact absurd e (hno _ _ _ _ _)
     |some c2=>exact⟨tm',ds',w',q,todo,.head st_loop g1,g2,g3,g4.pass (c:=c2) (x:=.inLoop a) rfl rfl⟩
   |scope a=>
    simp only[evC]at e
    exact(ih (some a) a T ds H _ _ _ _ _ _ e hc (fun x h=>by cases h;exact hc) p tm dsr w k hro hst hn hF).of_steps (.one st_scope)
   |rangeFunc f params assign body=>
    simp only[cE,Bool.and_eq_true]at hc
    simp only[evC]at e
    exact range_run hk hce e hc.1.1 hc.1.2 hc.2 hS hro hst hn hF
end
end Go.Ev
end
section
namespace Go.Ev
def retF (b:Frame) (tm:Array Value) (ds:List Deferred) (todo:List Item):Frame:={atF b tm ds todo with mode:=.returning}
section
variable {P:Program} {b:Frame} {tm:Array Value} {ds:List Deferred} {todo:List Item} {cs:List Frame} {w:World}
theorem go_unwind {fr fr':Frame} {cs':List Frame} {w':World} (hm:fr.mode=.returning) (h:(unwind P true fr cs none w).bare=.go {frame:=fr',callers:=cs',status:=.running,dying:=none} w'):
 step P (lone fr cs w)=.next (lone fr' cs' w'):=by
 refine step_lone_go ?_
 rw[←h]
 obtain⟨fn,tmps,todo,ds,mode,kind,ro⟩:=fr
 simp only at hm
 subst hm
 rfl
theorem st_take {r:Nat} {args:Array Value} {w1:World} (h:(Instr.takeDeferred r).run P w=.ok [] w1):step P (lone (retF b tm ({target:=.collected r,args}::ds) todo) cs w)=.next (lone (retF b tm ds todo) cs w1):=by
 refine go_unwind rfl ?_
 unfold unwind
 simp only[retF,atF,Sem.runT_eq,h,GStep.bare_after]
 rfl
theorem st_return {fn:Func} (hf:P.funcs[b.fn]?=some fn) (hkd:b.kind=.normal) {v:Value} {w1:World} (h:(results fn tm).run P w=.ok v w1) (c:Frame):step P (lone (retF b tm [] todo) (c::cs) w)=.next (lone (c.finish v) cs w1):=by
 refine go_unwind rfl ?_
 unfold unwind
 simp only[retF,atF,hf,Sem.runT_eq,h,GStep.bare_after]
 unfold doReturn
 simp only[hkd]
 rfl
theorem st_leave {j:Option Code} (hj:isRet j=true) (h:Ends j [] todo) (hro:b.roundOf=none):step P (lone (atF b tm ds todo) cs w)=.next (lone (retF b tm ds todo) cs w):=by
 refine go_exec rfl ?_
 cases j with
 |none=>
  have h:todo=[]:=h
  subst h
  rw[Go.Par.exec_leave_nil true rfl,Go.Par.leaveG_none true (f:=atF b tm ds _) hro]
  rfl
 |some c=>
  cases c<;>try(cases hj;done)
  obtain⟨k2,rfl⟩:=h
  rw[Go.Par.exec_leave_ret true rfl,Go.Par.leaveG_none true (f:=atF b tm ds _) hro]
  rfl
theorem st_leaveRound {j:Option Code} (h:Ends j [] todo) {l:Nat} (hro:b.roundOf=some l) (hkd:b.kind=.normal) {v:Value} {w1:World} (hr:(Instr.endRound l j).run P w=.ok v w1) (c:Frame):
 step P (lone (atF b tm ds todo) (c::cs) w)=.next (lone (c.finish v) cs w1):=by
 have fin:(Go.Par.leaveG P true (atF b tm ds todo) (c::cs) j w).bare=.go {frame:=c.finish v,callers:=cs,status:=.running,dying:=none} w1:=by
  rw[Go.Par.leaveG_some true (f:=atF b tm ds todo) hro,GStep.bare_after]
  simp only[Sem.runT_eq,hr]
  unfold doReturn
  simp only[atF,hkd]
  rfl
 refine go_exec rfl ?_
 cases j with
 |none=>
  have h:todo=[]:=h
  subst h
  rw[Go.Par.exec_leave_nil true rfl]
  exact fin
 |some c=>
  cases c<;>try exact h.elim
  ·obtain⟨k2,rfl,h2⟩:=h
   rw[Go.Par.exec_leave_exit true rfl,h2]
   exact fin
  ·obtain⟨k2,rfl,h2⟩:=h
   rw[Go.Par.exec_leave_goto true rfl,h2]
   exact fin
  ·obtain⟨k2,rfl⟩:=h
   rw[Go.Par.exec_leave_ret true rfl]
   exact fin
end
def Bods (P:Program) (S ex:Nat→Bool):Prop:=∀(f:Nat) (fn:Func) (body:Code),S f=true→ex f=false→P.funcs[f]?=some fn→fn.body=some body→cE P S body=true
section
variable {P:Program} {S:Nat→Bool} {Fp:Nat→Prop} {b:Frame} {cs:List Frame} {ce:Next→Hp→Rs Value}
theorem take_run {todo:List Item} {tm:Array Value}:∀(ds:List Deferred) {H H1:Hp} {R W:Nat} {p:Pi} {dsr:List Deferred} {w:World},takeAll P ds H=some ((),H1,R,W)→DL p ds dsr→Rl P S (cK P S) p H.get Fp w→P.globals.size≤H.n→
 (∀r,H.n≤r→r<H1.n→∀r',¬p r r')→(∀r,(R.testBit r=true∨W.testBit r=true)→Fp r)→
 ∃w1 q,Steps P (lone (retF b tm dsr todo) cs w) (lone (retF b tm [] todo) cs w1)∧Mv (fun r=>W.testBit r=true) p H.n w q H1.n w1∧Rl P S (cK P S) q H1.get Fp w1
 | [],H,H1,R,W,p,dsr,w,e,hd,hr,hg,hn,hF=>by
   cases hd
   simp only[takeAll,Option.some.injEq,Prod.mk.injEq,true_and]at e
   obtain⟨rfl,rfl,rfl⟩:=e
   exact⟨w,p,.refl _ _,Mv.refl _ _ _ _,hr⟩
 |d::ds,H,H1,R,W,p,dsr,w,e,hd,hr,hg,hn,hF=>by
  cases hd with
  | @cons _ l' r r' h t=>
    simp only[takeAll]at e
    split at e<;>try(cases e;done)
    rename_i x Ha Ra Wa e1
    split at e<;>try(cases e;done)
    rename_i y Hb Rb Wb e2
    simp only[Option.some.injEq,Prod.mk.injEq,true_and]at e
    obtain⟨rfl,rfl,rfl⟩:=e
    have n1:=(runE_ft P _ e1).nn
    have n2:=(takeAll_ft _ _ _ _ _ e2).nn
    obtain⟨a',w1,q1,a1,⟨_,rfl⟩,a3,a4⟩:=sem_run (SR.takeDeferred h) e1 hr hg (fun r x y=>hn r x (by omega)) (bits_l hF)
    obtain⟨w2,q2,b1,b2,b3⟩:=take_run ds e2 (t.mono a3.le) a4 (by omega) (fresh_next hn a3) (bits_r hF)
    exact⟨w2,q2,.head (st_take a1) b1,a3.or b2,b3⟩
theorem getT_append (l:List Value) (n:Nat) (x:Nat):getT (l++List.replicate n undef) x=getT l x:=by
 induction l generalizing x with
 |nil=>
  have:∀(n x:Nat),getT (List.replicate n undef) x=undef:=by
   intro n
   induction n with
   |zero=>intro x;rfl
   |succ n ih=>intro x;cases x with
    |zero=>rfl
    |succ x=>exact ih x
  rw[List.nil_append,this];rfl
 |cons y l ih=>cases x with
  |zero=>rfl
  |succ x=>exact ih x
theorem getT_toList (a:Array Value) (x:Nat):getT a.toList x=a.getD x undef:=by
 rw[Array.getD_eq_getD_getElem?,←Array.getElem?_toList]
 generalize a.toList=l
 induction l generalizing x with
 |nil=>rfl
 |cons y l ih=>cases x with
  |zero=>rfl
  |succ x=>simpa [getT]using ih x
theorem start_slots {p:Pi} {args args':Array Value} (h:AR S p args args') (n:Nat):
 (args'++Array.replicate (n-args'.size) undef).size=(args.toList++List.replicate (n-args.size) undef).length∧
 ∀x,VR S p (getT (args.toList++List.replicate (n-args.size) undef) x) ((args'++Array.replicate (n-args'.size) undef).getD x undef):=by
 refine⟨by simp[h.1],fun x=>?_⟩
 rw[getT_append,getT_toList]
 have:(args'++Array.replicate (n-args'.size) undef).getD x undef=args'.getD x undef:=by
  rw[Array.getD_eq_getD_getElem?,Array.getD_eq_getD_getElem?]
  rcases Nat.lt_or_ge x args'.size with hx|hx
  ·rw[Array.getElem?_append_left hx]
  ·rw[Array.getElem?_append_right hx,Array.getElem?_eq_none hx,Array.getElem?_replicate]
   split<;>rfl
 rw[this]
 exact h.getD x VR.undef
theorem fn_run (hk:Ok P P.funcs S) {ex:Nat→Bool} (hB:Bods P S ex) (hce:CeOk P S (cK P S) (fun _ _=>False) ce) {n f:Nat} {args args':Array Value} {H:Hp} {v:Value} {H1:Hp} {R W:Nat} (e:evFn P (evReg P) ce n f args H=some (v,H1,R,W)) (hS:S f=true) (hx:ex f=false)
 {p:Pi} {w:World} (ha:AR S p args args') (hr:Rl P S (cK P S) p H.get Fp w) (hG:GlP P S p) (hg:P.globals.size≤H.n) (hn:∀r,H.n≤r→r<H1.n→∀r',¬p r r') (hF:∀r,(R.testBit r=true∨W.testBit r=true)→Fp r) (fr:Frame):
 ∃v' w1 q,Steps P (lone (Frame.enter P f args' .normal) (fr::cs) w) (lone (fr.finish v') cs w1)∧VR S q v v'∧Mv (fun r=>W.testBit r=true) p H.n w q H1.n w1∧Rl P S (cK P S) q H1.get Fp w1:=by
 unfold evFn at e
 split at e<;>try(cases e;done)
 rename_i fn hfn
 split at e<;>try(cases e;done)
 rename_i body hbody
 split at e<;>try(cases e;done)
 rename_i j T1 ds1 Ha Ra Wa e1
 cases hj:isRet j<;>rw[hj]at e<;>simp only[cond_true,cond_false]at e
 ·cases e
 split at e<;>try(cases e;done)
 rename_i u Hb Rb Wb e2
 split at e<;>try(cases e;done)
 rename_i x Hc Rc Wc e3
 simp only[Option.some.injEq,Prod.mk.injEq]at e
 obtain⟨rfl,rfl,rfl,rfl⟩:=e
 have f1:=evC_ft hce _ _ _ _ _ _ _ _ _ _ _ _ _ _ e1
 have n1:=f1.1.nn
 have n2:=(takeAll_ft _ _ _ _ _ e2).nn
 have n3:=(runE_ft P _ e3).nn
 let b0:Frame:=Frame.enter P f args' .normal
 have hb0:lone (Frame.enter P f args' .normal) (fr::cs) w=lone (atF b0 (args'++Array.replicate (fn.ntmps-args'.size) undef) [] [.code body]) (fr::cs) w:=by
  simp[b0,atF,Frame.enter,hfn,hbody]
 rw[hb0]
 obtain⟨s1,s2⟩:=start_slots ha fn.ntmps
 obtain⟨tm',ds',w1,q1,todo,a1,a2,a3,a4⟩:=code_run (b:=b0) (cs:=fr::cs) hk hce none hS n none body _ [] H j T1 ds1 Ha Ra Wa e1 (hB f fn body hS hx hfn hbody) (fun _ h=>by cases h) p _ [] w [] .none ⟨s1,hr,s2,.nil,hG,hg⟩ (fun r x y=>hn r x (by omega)) (bits_l hF)
 have hn1:=fresh_next hn a2
 obtain⟨w2,q2,b1,b2,b3⟩:=take_run (b:=b0) (cs:=fr::cs) (todo:=todo) (tm:=tm') ds1 e2 a3.dl a3.rl (by omega) (fun r x y=>hn1 r x (by omega)) (bits_l (bits_r hF))
 have hn2:=fresh_next hn1 b2
 obtain⟨v',w3,q3,c1,c2,c3,c4⟩:=sem_run (SR.results (fn:=fn) (fn':=fn) rfl (toArray_rel a3.sz fun x=>(a3.tr x).mono b2.le)) e3 b3 (by omega) hn2 (bits_r (bits_r hF))
 exact⟨v',w3,q3,a1.trans (.head (st_leave hj a4 rfl) (b1.trans (.one (st_return (b:=b0) hfn rfl c1 fr)))),c2,a2.or (b2.or c3),c4⟩
theorem round_run (hk:Ok P P.funcs S) (hce:CeOk P S (cK P S) (fun _ _=>False) ce) {n l l' f:Nat} {tmps tmps':Array Value} {assign body:Code} {H:Hp} {v:Value} {H1:Hp} {R W:Nat} (e:evRound P (evReg P) ce n l f tmps assign body H=some (v,H1,R,W)) (hS:S f=true) (hca:cE P S assign=true) (hcb:cE P S body=true)
 {p:Pi} {w:World} (hl:p l l') (ha:AR S p tmps tmps') (hr:Rl P S (cK P S) p H.get Fp w) (hG:GlP P S p) (hg:P.globals.size≤H.n) (hn:∀r,H.n≤r→r<H1.n→∀r',¬p r r') (hF:∀r,(R.testBit r=true∨W.testBit r=true)→Fp r) (fr:Frame):
 ∃v' w1 q,Steps P (lone (Frame.round l' f tmps' assign body .normal) (fr::cs) w) (lone (fr.finish v') cs w1)∧VR S q v v'∧Mv (fun r=>W.testBit r=true) p H.n w q H1.n w1∧Rl P S (cK P S) q H1.get Fp w1:=by
 unfold evRound at e
 split at e<;>try(cases e;done)
 rename_i T1 ds1 Ha Ra Wa e1
 split at e<;>try(cases e;done)
 rename_i u Hb Rb Wb e2
 split at e<;>try(cases e;done)
 rename_i j T3 ds3 Hc Rc Wc e3
 split at e<;>try(cases e;done)
 rename_i x Hd Rd Wd e4
 simp only[Option.some.injEq,Prod.mk.injEq]at e
 obtain⟨rfl,rfl,rfl,rfl⟩:=e
 have n1:=(evC_ft hce _ _ _ _ _ _ _ _ _ _ _ _ _ _ e1).1.nn
 have n2:=(runE_ft P _ e2).nn
 have n3:=(evC_ft hce _ _ _ _ _ _ _ _ _ _ _ _ _ _ e3).1.nn
 have n4:=(runE_ft P _ e4).nn
 let b0:Frame:=Frame.round l' f tmps' assign body .normal
 have s2:∀x,VR S p (getT tmps.toList x) (tmps'.getD x undef):=fun x=>by rw[getT_toList];exact ha.getD x VR.undef
 obtain⟨tm1,ds1',w1,q1,todo1,a1,a2,a3,a4⟩:=code_run (b:=b0) (cs:=fr::cs) hk hce (some l) hS n none assign _ [] H none T1 ds1 Ha Ra Wa e1 hca (fun _ h=>by cases h) p tmps' [] w [.beginRound,.code body] (.some hl) ⟨by simp[ha.1],hr,s2,.nil,hG,hg⟩ (fun r x y=>hn r x (by omega)) (bits_l hF)
 have a4:todo1=_:=a4
 subst a4
 have hn1:=fresh_next hn a2
 obtain⟨u',w2,q2,b1,b2,b3,b4⟩:=sem_run (SR.beginRound (a2.le _ _ hl)) e2 a3.rl (by omega) (fun r x y=>hn1 r x (by omega)) (bits_l (bits_r hF))
 have hn2:=fresh_next hn1 b3
 obtain⟨tm3,ds3',w3,q3,todo3,c1,c2,c3,c4⟩:=code_run (b:=b0) (cs:=fr::cs) hk hce (some l) hS n none body _ ds1 Hb j T3 ds3 Hc Rc Wc e3 hcb (fun _ h=>by cases h) q2 tm1 ds1' w2 [] (.some (b3.le _ _ (a2.le _ _ hl))) ⟨a3.sz,b4,fun x=>(a3.tr x).mono b3.le,a3.dl.mono b3.le,a3.gl.mono b3.le,by omega⟩ (fun r x y=>hn2 r x (by omega)) (bits_l (bits_r (bits_r hF)))
 have hn3:=fresh_next hn2 c2
 have hj:∀c,j=some c→cE P S c=true:=fun c hc=>by
  subst hc
  cases c<;>first|rfl|exact c4.elim
 obtain⟨v',w4,q4,d1,d2,d3,d4⟩:=sem_run (SR.endRound (K:=cK P S) (c2.le _ _ (b3.le _ _ (a2.le _ _ hl))) j hj) e4 c3.rl (by omega) hn3 (bits_r (bits_r (bits_r hF)))
 exact⟨v',w4,q4,a1.trans (.head (st_beginRound (b:=b0) rfl b1) (c1.trans (.one (st_leaveRound (b:=b0) c4 rfl rfl d1 fr)))),d2,a2.or (b3.or (c2.or d3)),d4⟩
theorem evN_ok (hk:Ok P P.funcs S) {ex:Nat→Bool} (hB:Bods P S ex):∀n,CeOk P S (cK P S) (fun _ _=>False) (evN P ex n):=by
 intro n
 induction n with
 |zero=>exact⟨fun nx H v H1 R W e=>by simp[evN,evNG]at e,fun nx H v H1 R W e=>by simp[evN,evNG]at e⟩
 |succ n ih=>
  refine⟨fun nx H v H1 R W e=>?_,fun nx H v H1 R W e p Fp w nx' fr cs hnx hr hG hg hn hF=>?_⟩
  ·cases nx<;>simp only[evN,evNG]at e<;>try(cases e;done)
   ·rename_i f args
    cases hx:ex f<;>rw[hx]at e<;>simp only[cond_true,cond_false]at e
    ·exact evFn_ft ih e
    ·cases e
   ·exact evRound_ft ih e
  ·cases hnx<;>simp only[evN,evNG]at e<;>try(cases e;done)
   ·rename_i f xs xs' hS ha
    cases hx:ex f<;>rw[hx]at e<;>simp only[cond_true,cond_false]at e
    rotate_left
    ·cases e
    obtain⟨v',w1,q,a1,a2,a3,a4⟩:=fn_run (cs:=cs) hk hB ih e hS hx ha hr hG hg hn hF fr
    refine .inl ⟨_,v',w1,rfl,a1,q,a2,a3,a4.mono fun r x=>?_⟩
    rcases x with x|⟨x,y⟩
    ·exact x
    ·exact hF r (.inr ((evFn_ft ih e).nw r x y))
   ·rename_i l l' f xs xs' a c hl hf ha hca hcb _
    obtain⟨v',w1,q,a1,a2,a3,a4⟩:=round_run (cs:=cs) hk ih e hf hca hcb hl ha hr hG hg hn hF fr
    refine .inl ⟨_,v',w1,rfl,a1,q,a2,a3,a4.mono fun r x=>?_⟩
    rcases x with x|⟨x,y⟩
    ·exact x
    ·exact hF r (.inr ((evRound_ft ih e).nw r x y))
end
end Go.Ev
end
