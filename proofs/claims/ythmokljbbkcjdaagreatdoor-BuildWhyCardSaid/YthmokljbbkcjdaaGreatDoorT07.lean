/- A part of the proof that BuildWhy returns true. Conditions: none. -/
import Derived.Test.YthmokljbbkcjdaaGreatDoorT06
import Derived.ChangeMade
set_option linter.unusedVariables false
set_option linter.unusedSimpArgs false
section
namespace Go.Par
open Go.Made
def flat (v:Value):Prop:=∀x∈v.cells,plain 5 x=true
theorem plain_succ:∀(n:Nat) (v:Value),plain n v=true→plain (n+1) v=true:=by
 intro n
 induction n with
 |zero=>
  intro v h
  cases v
  case pointer a=>cases a<;>first|rfl|(simp[Par.plain]at h;done)
  case slice a l c=>cases a<;>first|rfl|(simp[Par.plain]at h;done)
  case map a=>cases a<;>first|rfl|(simp[Par.plain]at h;done)
  case chan a=>cases a<;>first|rfl|(simp[Par.plain]at h;done)
  all_goals first|rfl|(simp[Par.plain]at h;done)
 |succ n ih=>
  intro v h
  cases v
  case pointer a=>cases a<;>first|rfl|(simp[Par.plain]at h;done)
  case slice a l c=>cases a<;>first|rfl|(simp[Par.plain]at h;done)
  case map a=>cases a<;>first|rfl|(simp[Par.plain]at h;done)
  case chan a=>cases a<;>first|rfl|(simp[Par.plain]at h;done)
  case iface t v=>exact ih v h
  case agg xs=>
   have h:xs.all (Par.plain n)=true:=h
   show xs.all (Par.plain (n+1))=true
   exact Array.all_eq_true.2 fun i hi=>ih _ (Array.all_eq_true.1 h i hi)
  case tuple xs=>
   have h:xs.all (Par.plain n)=true:=h
   show xs.all (Par.plain (n+1))=true
   exact Array.all_eq_true.2 fun i hi=>ih _ (Array.all_eq_true.1 h i hi)
  all_goals first|rfl|(simp[Par.plain]at h;done)
theorem plain_up {n m:Nat} (hnm:n≤m) {v:Value} (h:plain n v=true):plain m v=true:=by
 induction hnm with
 |refl=>exact h
 |step _ ih=>exact plain_succ _ _ ih
theorem flat.plain {v:Value} (h:flat v):plain 50 v=true:=by
 unfold flat at h
 cases v with
 |agg xs=>
  show xs.all (Par.plain 49)=true
  exact Array.all_eq_true.2 fun i hi=>plain_up (by omega) (h _ (Array.getElem_mem hi))
 |_=>exact plain_up (by omega) (h _ (by simp[Value.cells]))
theorem forIn_inv {α β:Type} (f:α→β→Option (ForInStep β)) (I:β→Prop) (hf:∀a b r,I b→f a b=some r→I (match r with|.yield b=>b|.done b=>b)):∀(l:List α) (b r:β),I b→forIn l b f=some r→I r:=by
 intro l
 induction l with
 |nil=>intro b r hb h;simp only[List.forIn_nil,pure,Option.some.injEq]at h;exact h▸hb
 |cons a l ih=>
  intro b r hb h
  simp only[List.forIn_cons,bind,Option.bind_eq_some_iff]at h
  obtain⟨s,hs,h⟩:=h
  have:=hf a b s hb hs
  cases s with
  |done b'=>simp only[pure,Option.some.injEq]at h;exact h▸this
  |yield b'=>exact ih b' r this h
def FlatZ (info:TypeId→Option TypeInfo):Prop:=∀t i v,info t=some i→i.zero=some v→flat v
theorem reckonStruct_flat {info:TypeId→Option TypeInfo} (hi:FlatZ info) {fs:Array Field} {i:TypeInfo} (h:reckonStruct info fs=some i) {v:Value} (hv:i.zero=some v):flat v:=by
 unfold reckonStruct at h
 simp only[bind,Option.bind_eq_some_iff,pure]at h
 obtain⟨a,ha,h⟩:=h
 rw[←Array.forIn_toList]at ha
 have key:=forIn_inv _ (fun s:Array Field×Nat×Nat×Nat×Nat×Bool×Bool×Option (Array Value)×String=>∀z,s.2.2.2.2.2.2.2.1=some z→∀x∈z,Par.plain 5 x=true) ?_ _ _ _ ?_ ha
 ·split at h
  all_goals
   simp only[Option.some.injEq]at h
   subst h
   simp only[Option.map_eq_some_iff]at hv
   obtain⟨z,hz,rfl⟩:=hv
   exact key z hz
 ·intro f b r hb hr
  simp only[Option.bind_eq_some_iff]at hr
  obtain⟨j,hj,hr⟩:=hr
  have fin:∀z,(b.2.2.2.2.2.2.2.1.bind fun z0=>j.zero.bind fun z1=>some (z0++z1.cells))=some z→∀x∈z,Par.plain 5 x=true:=by
   intro z hz
   simp only[Option.bind_eq_some_iff,Option.some.injEq]at hz
   obtain⟨z0,h0,z1,h1,rfl⟩:=hz
   intro x hx
   rcases Array.mem_append.1 hx with hx|hx
   ·exact hb z0 h0 x hx
   ·exact hi _ _ _ hj h1 x hx
  repeat' split at hr
  all_goals(try(simp only[Option.bind_none,reduceCtorEq]at hr;done))
  all_goals(try simp only[Option.bind_eq_some_iff]at hr)
  all_goals(obtain⟨_,_,hr⟩:=hr;simp only[Option.some.injEq]at hr;subst hr;intro z hz;first|(cases hz;done)|exact fin z hz)
 ·intro z hz
  simp only[Option.some.injEq]at hz
  subst hz
  simp
theorem reckon_flat {info:TypeId→Option TypeInfo} (hi:FlatZ info) {d:TypeDesc} {i:TypeInfo} (h:reckon info d=some i) {v:Value} (hv:i.zero=some v):flat v:=by
 have one:∀u:Value,Par.plain 0 u=true→flat u:=fun u hu x hx=>by
  cases u<;>first|(simp only[Value.cells,List.mem_toArray,List.mem_singleton]at hx;subst hx;exact plain_up (Nat.zero_le _) hu)|(cases hu;done)
 cases d with
 |struct fs=>exact reckonStruct_flat hi h hv
 |array n e=>
  simp only[reckon,bind,Option.bind_eq_some_iff,pure,Option.some.injEq]at h
  obtain⟨j,hj,s,_,rfl⟩:=h
  simp only at hv
  split at hv
  ·cases hv
  ·split at hv
   ·simp only[Option.some.injEq]at hv;subst hv;intro x hx;simp[Value.cells]at hx
   ·simp only[Option.map_eq_some_iff]at hv
    obtain⟨z,hz,rfl⟩:=hv
    intro x hx
    simp only[Value.cells,Array.mem_flatten,Array.mem_replicate]at hx
    obtain⟨y,⟨_,rfl⟩,hx⟩:=hx
    exact hi _ _ _ hj hz x hx
 |pointer e=>
  simp only[reckon,bind,Option.bind_eq_some_iff,pure]at h
  obtain⟨j,hj,h⟩:=h
  repeat' split at h
  all_goals(try(cases h;done))
  all_goals(simp only[Option.bind_eq_some_iff,Option.some.injEq]at h;obtain⟨_,_,rfl⟩:=h;simp only[word,Option.some.injEq]at hv;subst hv;exact one _ rfl)
 |_=>
  first
  |(simp only[reckon,reduceCtorEq]at h;done)
  |(simp only[reckon,bind,Option.bind_eq_some_iff,pure,Option.some.injEq]at h;obtain⟨_,_,_,_,rfl⟩:=h;simp only[word,Option.some.injEq]at hv;subst hv;exact one _ rfl)
  |(simp only[reckon,bind,Option.bind_eq_some_iff,pure,Option.some.injEq]at h;obtain⟨_,_,_,_,_,_,_,_,rfl⟩:=h;simp only[word,Option.some.injEq]at hv;subst hv;exact one _ rfl)
  |(simp only[reckon,bind,Option.bind_eq_some_iff,pure,Option.some.injEq]at h;obtain⟨_,_,rfl⟩:=h;simp only[word,Option.some.injEq]at hv;subst hv;exact one _ rfl)
def tableFlat (T:Tables):Bool:=T.types.all fun i=>match i.zero with|some v=>v.cells.all (Par.plain 5)|none=>true
theorem infoAt_flat {T:Tables} (h:tableFlat T=true):∀f,FlatZ (infoAt T f):=by
 have low:∀(t:Nat) (i:TypeInfo) (v:Value),T.types[t]?=some i→i.zero=some v→flat v:=by
  intro t i v ht hv
  obtain⟨hlt,he⟩:=Array.getElem?_eq_some_iff.1 ht
  have:=Array.all_eq_true.1 h t hlt
  rw[he]at this
  simp only[hv]at this
  intro x hx
  obtain⟨k,hk,rfl⟩:=Array.mem_iff_getElem.1 hx
  exact Array.all_eq_true.1 this k hk
 intro f
 induction f with
 |zero=>intro t i v ht;cases ht
 |succ f ih=>
  intro t i v ht hv
  unfold infoAt at ht
  split at ht
  ·exact low t i v ht hv
  ·simp only[Option.bind_eq_some_iff]at ht
   obtain⟨d,_,ht⟩:=ht
   exact reckon_flat ih ht hv
theorem zeros_of {P:Program} (h:tableFlat P.toTables=true):ZerosPlain P:=by
 intro t i v ht hv
 have ht:Tables.info? P.toTables t=some i:=ht
 have:infoAt P.toTables depth t=some i:=by
  unfold Tables.info? at ht
  split at ht
  ·unfold depth infoAt;rw[if_pos (by assumption)];exact ht
  ·exact ht
 exact(infoAt_flat h depth t i v this hv).plain
def tableNames (T:Tables):Bool:=T.types.all fun i=>match i.desc with|.named n _=>!(n== "sync.copyChecker")|_=>true
theorem checker_of {P:Program} (h:tableNames P.toTables=true):NoChecker P:=by
 intro t i u ht hd
 have ht:Tables.info? P.toTables t=some i:=ht
 by_cases hlt:t<P.types.size
 ·unfold Tables.info? at ht
  rw[if_pos hlt]at ht
  obtain⟨hlt,he⟩:=Array.getElem?_eq_some_iff.1 ht
  have:=Array.all_eq_true.1 h t hlt
  rw[he,hd]at this
  simp at this
 ·have:=Tables.info?_beyond hlt ht
  rw[hd]at this
  cases this
end Go.Par
end
section
namespace Go.Par
open Go.Conc
def rdy (m:Region.Mode) (ops:Array Oper) (listed:Array Bool):List Nat:=
 (List.range ops.size).filter fun i=>!listed.getD i true&&((ops[i]?).map (·.after.all fun e=>!Region.binds m e||listed.getD e.on false)).getD false
inductive Lin (m:Region.Mode) (ops:Array Oper):Nat→Array Bool→List Nat→Prop
 |stop {n:Nat} {listed:Array Bool} (h:n=0∨rdy m ops listed=[]):Lin m ops n listed []
 |next {n i:Nat} {listed:Array Bool} {l:List Nat} (h:i∈rdy m ops listed) (t:Lin m ops n (listed.setIfInBounds i true) l):Lin m ops (n+1) listed (i::l)
theorem lin_go (m:Region.Mode) (ops:Array Oper):∀(n t:Nat) (listed:Array Bool) (acc:List Nat),∃l,Region.linearise.go m ops n t listed acc=acc.reverse++l∧Lin m ops n listed l:=by
 intro n
 induction n with
 |zero=>intro t listed acc;exact⟨[],by simp[Region.linearise.go],.stop (.inl rfl)⟩
 |succ n ih=>
  intro t listed acc
  unfold Region.linearise.go
  have e:((List.range ops.size).filter fun i=>!listed.getD i true&&((ops[i]?).map (·.after.all fun e=>!Region.binds m e||listed.getD e.on false)).getD false)=rdy m ops listed:=rfl
  simp only[e]
  cases hi:(rdy m ops listed)[t%(rdy m ops listed).length]? with
  |none=>
   refine⟨[],by simp,.stop (.inr ?_)⟩
   cases hr:rdy m ops listed with
   |nil=>rfl
   |cons a l=>
    rw[hr]at hi
    have:t%(a::l).length<(a::l).length:=Nat.mod_lt _ (by simp)
    rw[List.getElem?_eq_getElem this]at hi
    cases hi
  |some i=>
   obtain⟨l,h1,h2⟩:=ih (t/(rdy m ops listed).length) (listed.setIfInBounds i true) (i::acc)
   exact⟨i::l,by simp only[];rw[h1];simp,.next (List.mem_of_getElem? hi) h2⟩
theorem lin_of (m:Region.Mode) (ops:Array Oper) (t:Nat):Lin m ops ops.size (Array.replicate ops.size false) (Region.linearise m ops t):=by
 obtain⟨l,h1,h2⟩:=lin_go m ops ops.size t (Array.replicate ops.size false) []
 unfold Region.linearise
 rw[h1]
 exact h2
def fullLin (m:Region.Mode) (ops:Array Oper):Nat→Array Bool→List (List Nat)
 |0,_=>[[]]
 |n+1,listed=>if(rdy m ops listed).isEmpty then [[]]else(rdy m ops listed).flatMap fun i=>(fullLin m ops n (listed.setIfInBounds i true)).map (i::·)
theorem mem_fullLin {m:Region.Mode} {ops:Array Oper} {n:Nat} {listed:Array Bool} {l:List Nat} (h:Lin m ops n listed l):l∈fullLin m ops n listed:=by
 induction h with
 | @stop n listed h=>
   cases n with
   |zero=>simp[fullLin]
   |succ n=>
    rcases h with h|h
    ·omega
    ·simp[fullLin,h]
 | @next n i listed l h _ ih=>
   simp only[fullLin]
   split
   ·rename_i he
    rw[List.isEmpty_iff]at he
    rw[he]at h;cases h
   ·simp only[List.mem_flatMap,List.mem_map];exact⟨_,h,_,ih,rfl⟩
structure Makes (P:Program) (o:Oper) (d:Nat) (v:Nat→Value) (x:Obj):Prop where
 dst:o.dst=some d
 guard:o.guard=none
 run:∀(a:Act) (w:World),(execOp a.eval o).run P w=.ok (.value (v w.heap.size)) (w.alloc x)
 ev:∀(a:Act) (w:World),(execOp a.eval o).events P w #[]=#[]
structure Made (ops:Array Oper) (d:Nat→Nat) (v:Nat→Nat→Value) (x:Nat→Obj) (is:List Nat) (kn own:Nat→Prop) (tm:Array Value) (w:World) (pos:Nat→Nat) (kn' own':Nat→Prop) (tm':Array Value) (w':World):Prop where
 size:tm'.size=tm.size
 slot:∀i∈is,d i<tm.size→tm'.getD (d i) undef=v i (pos i)
 others:∀j,(∀i∈is,d i≠j)→tm'.getD j undef=tm.getD j undef
 new:∀i∈is,w.heap.size≤pos i∧pos i<w'.heap.size
 inj:∀i∈is,∀j∈is,pos i=pos j→i=j
 heap:∀i∈is,w'.heap[pos i]?=some (x i)
 env:Env kn w w'
 knw:∀r,kn' r↔kn r∨∃i∈is,r=pos i
 ownw:∀r,own' r↔own r∨∃i∈is,r=pos i
theorem getD_set_same (a:Array Value) (i:Nat) (v u:Value) (h:i<a.size):(a.setIfInBounds i v).getD i u=v:=by
 rw[Array.getD_eq_getD_getElem?,get_set_same _ h];rfl
theorem getD_set_ne (a:Array Value) {i j:Nat} (v u:Value) (h:j≠i):(a.setIfInBounds i v).getD j u=a.getD j u:=by
 rw[Array.getD_eq_getD_getElem?,Array.getD_eq_getD_getElem?,get_set_ne _ h]
theorem Tree.makes {P:Program} {main:Bool} {K:PtG} (T:Tree P main K) {b:Frame} {k:List Item} {cs:List Frame} {ops:Array Oper} {rest:List Nat} (hk:b.kind≠ .early) {d:Nat→Nat} {v:Nat→Nat→Value} {x:Nat→Obj}:
 ∀(is:List Nat),is.Nodup→(∀i∈is,∃o,ops[i]?=some o∧Makes P o (d i) (v i) (x i))→(∀i∈is,∀j∈is,d i=d j→i=j)→∀(kn own:Nat→Prop) (tm:Array Value) (ds:List Deferred) (w:World),(∀r,kn r→r<w.heap.size)→
  (∀pos kn' own' tm' w',Made ops d v x is kn own tm w pos kn' own' tm' w'→K kn' own' (G (b.at ⟨tm',ds⟩ (.inRegion ops rest::k)) cs) w')→
  K kn own (G (b.at ⟨tm,ds⟩ (.inRegion ops (is++rest)::k)) cs) w:=by
 intro is
 induction is with
 |nil=>
  intro _ _ _ kn own tm ds w _ h
  exact h (fun _=>0) kn own tm w ⟨rfl,fun i hi=>by simp at hi,fun _ _=>rfl,fun i hi=>by simp at hi,fun i hi=>by simp at hi,fun i hi=>by simp at hi,Env.refl _ _,fun r=>by simp,fun r=>by simp⟩
 |cons i is ih=>
  intro hnd hall hdj kn own tm ds w hlt h
  obtain⟨o,ho,hm⟩:=hall i (by simp)
  rw[List.nodup_cons]at hnd
  refine T.op (i:=i) (rest:=is++rest) ho (by unfold Region.wanted;rw[hm.guard]) hk fun w2 he=>⟨_,_,hm.run _ w2,by rw[hm.ev];exact Fair.alloc _,?_⟩
  rw[orNew_alloc,orNew_alloc]
  have hs:(w2.alloc (x i)).heap.size=w2.heap.size+1:=by show(w2.heap.push (x i)).size=_;simp
  have hself:(w2.alloc (x i)).heap[w2.heap.size]?=some (x i):=by show(w2.heap.push (x i))[w2.heap.size]?=_;simp
  have hold:∀r,r<w2.heap.size→(w2.alloc (x i)).heap[r]?=w2.heap[r]?:=fun r hr=>by
   show(w2.heap.push (x i))[r]?=_
   simp[Array.getElem?_push,Nat.ne_of_lt hr]
  have hput:Act.put ⟨tm,ds⟩ o.dst (v i w2.heap.size)=⟨tm.setIfInBounds (d i) (v i w2.heap.size),ds⟩:=by rw[hm.dst];rfl
  rw[hput]
  refine ih hnd.2 (fun j hj=>hall j (by simp[hj])) (fun a ha c hc=>hdj a (by simp[ha]) c (by simp[hc])) _ _ _ ds _ (fun r hr=>?_) fun pos kn' own' tm' w' hM=>?_
  ·rw[hs]
   rcases hr with hr|hr
   ·have:=Nat.lt_of_lt_of_le (hlt r hr) he.1;omega
   ·omega
  ·have hpi:∀j∈is,w2.heap.size+1≤pos j:=fun j hj=>by have:=(hM.new j hj).1;omega
   have hne:∀j∈is,j≠i:=fun j hj e=>hnd.1 (e▸hj)
   refine h (fun j=>if j=i then w2.heap.size else pos j) kn' own' tm' w' ⟨?_,?_,?_,?_,?_,?_,?_,?_,?_⟩
   ·rw[hM.size];simp
   ·intro j hj hd
    rcases List.mem_cons.1 hj with rfl|hj
    ·rw[if_pos rfl,hM.others (d j) (fun c hc e=>hne c hc (hdj c (by simp[hc]) j (by simp) e)),getD_set_same _ _ _ _ hd]
    ·rw[if_neg (hne j hj)];exact hM.slot j hj (by simpa using hd)
   ·intro j hj
    rw[hM.others j (fun c hc=>hj c (by simp[hc])),getD_set_ne _ _ _ (Ne.symm (hj i (by simp)))]
   ·intro j hj
    have hmono:=hM.env.1
    rcases List.mem_cons.1 hj with rfl|hj
    ·rw[if_pos rfl];have:=he.1;omega
    ·rw[if_neg (hne j hj)]
     have:=hM.new j hj
     have:=he.1
     omega
   ·intro a ha c hc e
    rcases List.mem_cons.1 ha with ea|ha<;>rcases List.mem_cons.1 hc with ec|hc
    ·rw[ea,ec]
    ·rw[ea,if_pos rfl,if_neg (hne c hc)]at e
     have:=hpi c hc;omega
    ·rw[ec,if_pos rfl,if_neg (hne a ha)]at e
     have:=hpi a ha;omega
    ·rw[if_neg (hne a ha),if_neg (hne c hc)]at e
     exact hM.inj a ha c hc e
   ·intro j hj
    rcases List.mem_cons.1 hj with rfl|hj
    ·rw[if_pos rfl,hM.env.2 _ (.inr rfl),hself]
    ·rw[if_neg (hne j hj)];exact hM.heap j hj
   ·refine⟨Nat.le_trans he.1 (by have:=hM.env.1;omega),fun r hr=>?_,hM.env.os.trans he.os,hM.env.out.trans he.out⟩
    rw[hM.env.2 r (.inl hr),hold r (Nat.lt_of_lt_of_le (hlt r hr) he.1),he.2 r hr]
   ·intro r
    rw[hM.knw r]
    constructor
    ·rintro((h|h)|⟨j,hj,h⟩)
     ·exact .inl h
     ·exact .inr ⟨i,by simp,by rw[if_pos rfl];exact h⟩
     ·exact .inr ⟨j,by simp[hj],by rw[if_neg (hne j hj)];exact h⟩
    ·rintro(h|⟨j,hj,h⟩)
     ·exact .inl (.inl h)
     ·rcases List.mem_cons.1 hj with rfl|hj
      ·rw[if_pos rfl]at h;exact .inl (.inr h)
      ·rw[if_neg (hne j hj)]at h;exact .inr ⟨j,hj,h⟩
   ·intro r
    rw[hM.ownw r]
    constructor
    ·rintro((h|h)|⟨j,hj,h⟩)
     ·exact .inl h
     ·exact .inr ⟨i,by simp,by rw[if_pos rfl];exact h⟩
     ·exact .inr ⟨j,by simp[hj],by rw[if_neg (hne j hj)];exact h⟩
    ·rintro(h|⟨j,hj,h⟩)
     ·exact .inl (.inl h)
     ·rcases List.mem_cons.1 hj with rfl|hj
      ·rw[if_pos rfl]at h;exact .inl (.inr h)
      ·rw[if_neg (hne j hj)]at h;exact .inr ⟨j,hj,h⟩
theorem makes_chan {P:Program} {o:Oper} {t e d:Nat} {dir:ChanDir} {i:TypeInfo} (ho:o.op=.makeChan t (.const (.int .i64 0))) (hd:o.dst=some d) (hg:o.guard=none) (ht:P.underlying t=some (.chan dir e)) (hi:P.info? e=some i):
 Makes P o d (fun r=>.chan (some r)) (.chan 0 #[] false 0 0 false):=by
 obtain⟨dst,op,ty,pos,af,gd⟩:=o
 simp only at ho hd hg
 subst ho;subst hd;subst hg
 refine⟨rfl,rfl,fun a w=>?_,fun a w=>?_⟩
 ·have:=run_makeChan (P:=P) (w:=w) ht hi .i64 0 (by decide) (by simp)
  show(Instr.makeChan t (.int .i64 0)>>=fun v=>pure (Next.value v)).run P w=_
  have this:(Instr.makeChan t (.int .i64 0)).run P w=.ok (.chan (some w.heap.size)) (w.alloc (.chan 0 #[] false 0 0 false)):=this
  simp[this]
 ·have h1:=run_makeChan (P:=P) (w:=w) ht hi .i64 0 (by decide) (by simp)
  have h2:=events_makeChan (P:=P) (w:=w) ht hi .i64 0 (by decide) (by simp) #[]
  have h1:(Instr.makeChan t (.int .i64 0)).run P w=.ok (.chan (some w.heap.size)) (w.alloc (.chan 0 #[] false 0 0 false)):=h1
  have h2:(Instr.makeChan t (.int .i64 0)).events P w #[]=#[]:=h2
  show(Instr.makeChan t (.int .i64 0)>>=fun v=>pure (Next.value v)).events P w #[]=_
  simp[h1,h2]
theorem makes_alloc {P:Program} {o:Oper} {t d:Nat} {i:TypeInfo} {z:Value} (ho:o.op=.alloc t) (hd:o.dst=some d) (hg:o.guard=none) (hi:P.info? t=some i) (hz:i.zero=some z):
 Makes P o d (fun r=>.pointer (some ⟨r,0,none⟩)) (.cells z.cells t):=by
 obtain⟨dst,op,ty,pos,af,gd⟩:=o
 simp only at ho hd hg
 subst ho;subst hd;subst hg
 have hzv:∀w,(zeroValue t).run P w=.ok z w:=fun w=>by simp[zeroValue,typeInfo,hi,hz]
 refine⟨rfl,rfl,fun a w=>?_,fun a w=>?_⟩
 ·simp[execOp,Instr.alloc,hzv,newVar,newRow]
 ·simp[execOp,Instr.alloc,hzv,newVar,newRow]
theorem setCell_ne (w:World) (a:Addr) (v:Value) {r:Nat} (h:r≠a.block):(w.setCell a v).heap[r]?=w.heap[r]?:=by
 simp[World.setCell,Array.getElem?_modify,Ne.symm h]
theorem setCell_one {w:World} {r:Nat} {u v:Value} {e:TypeId} {fz:Nat×Nat} (h:w.heap[r]?=some (.cells #[u] e fz)):(w.setCell ⟨r,0,none⟩ v).heap[r]?=some (.cells #[v] e fz):=by
 simp[World.setCell,Array.getElem?_modify,h]
theorem cell_one {w:World} {r:Nat} {u:Value} {e:TypeId} {fz:Nat×Nat} (h:w.heap[r]?=some (.cells #[u] e fz)):w.cell? ⟨r,0,none⟩=some u:=by simp[World.cell?,h]
theorem frozen_one {w:World} {r:Nat} {u:Value} {e:TypeId} (h:w.heap[r]?=some (.cells #[u] e (0,0))):w.frozen? ⟨r,0,none⟩=false:=by simp[World.frozen?,h]
theorem env_setCell {kn:Nat→Prop} {w:World} (a:Addr) (v:Value) (h:¬kn a.block):Env kn w (w.setCell a v):=
 ⟨by simp[World.setCell],fun r hr=>setCell_ne w a v fun e=>h (e▸hr),rfl,rfl⟩
end Go.Par
end
section
namespace Go.Par
open Go.Conc
open Go.ConcN (upd upd_same upd_ne sumTo)
structure Alright (P:Program) (gs:Array Goroutine) (g:Goroutine) (kn own:Nat→Prop) (w:World) (t:Trace):Prop where
 at0:gs[0]?=some g
 run:g.status=.running
 quit:∃q,Quitters P gs q
 co:Co (fun g=>g=0) (fun _=>kn) (fun _=>own) w.heap.size t
theorem seg_run {P:Program} {At:PtG} (hat:∀kn own g w d,At kn own g (World.at w d)→At kn own g w) {kn own:Nat→Prop} {g:Goroutine} {w:World} (h:Seg P At kn own g w):
 ∀gs w1 sl t,Env kn w w1→Alright P gs g kn own w1 t→∃N kn' own' g' w' gs' sl' t',runNT P N (crowd gs w1 sl) t=(.next (crowd gs' w' sl'),t')∧At kn' own' g' w'∧Alright P gs' g' kn' own' w' t':=by
 induction h with
 | @mk kn own g w ok go ih=>
   have key:∀n gs w1 sl t q,sumTo gs.size q=n→Env kn w w1→gs[0]?=some g→g.status=.running→Quitters P gs q→Co (fun g=>g=0) (fun _=>kn) (fun _=>own) w1.heap.size t→
    ∃N kn' own' g' w' gs' sl' t',runNT P N (crowd gs w1 sl) t=(.next (crowd gs' w' sl'),t')∧At kn' own' g' w'∧Alright P gs' g' kn' own' w' t':=by
    intro n
    induction n using Nat.strongRecOn with
    |ind n ihn=>
     intro gs w1 sl t q hn he h0 hr hq hco
     by_cases hA:At kn own g w1
     ·exact⟨0,kn,own,g,w1,gs,sl,t,rfl,hA,h0,hr,⟨q,hq⟩,hco⟩
     have aw:∀x∈gs,Conc.awake x:=by
      intro x hx
      obtain⟨j,hj,rfl⟩:=Array.mem_iff_getElem.1 hx
      have hj':=Array.getElem?_eq_getElem hj
      rcases Nat.eq_zero_or_pos j with rfl|hpos
      ·rw[h0]at hj'
       rw[←Option.some.inj hj'];exact awake_of (.inl hr)
      ·exact awake_of ((hq j _ hpos hj').status.imp id .inr)
     obtain⟨i,x,d,sl',hi,hx,hst⟩:=crowd_pick (P:=P) (w:=w1) (sl:=sl) aw ⟨0,_,h0,hr⟩
     rcases Nat.eq_zero_or_pos i with rfl|hpos
     ·obtain rfl:x=g:=by rw[h0]at hi;exact(Option.some.inj hi).symm
      have hsz:0<gs.size:=(Array.getElem?_eq_some_iff.1 h0).1
      have hA2:¬At kn own x (w1.at d):=fun h=>hA (hat _ _ _ _ _ h)
      rcases ok (w1.at d) (he.trans (env_at _ _ _))with h|⟨g2,w3,es,h1,h2,h3⟩
      ·exact absurd h hA2
      have hrun:=runT_crowd_go (P:=P) (sl:=sl') (i:=0) h0 (show stepG P (0==0) x (w1.at d)=_ from h1)
      rw[hq.woken h0 hr]at hrun
      obtain⟨N,kn',own',g',w',gs',sl2,t',k1,k2,k3⟩:=ih (w1.at d) g2 w3 es (he.trans (env_at _ _ _)) hA2 h1 (gs.setIfInBounds 0 g2) w3 sl' (t++MemOp.ofEvents 0 x.frame.fn x.frame.place es) (Env.refl _ _)
       ⟨get_set_same _ hsz,h2,⟨q,fun j y hj hy=>by rw[get_set_ne _ (by omega)]at hy;exact hq j y hj hy⟩,(hco.step (w:=w1.at d) (g:=0) rfl rfl h3 _ _).lone (upd_same ..) (upd_same ..)⟩
      exact⟨N+1,kn',own',g',w',gs',sl2,t',by simp only[runNT,hst.trans hrun];exact k1,k2,k3⟩
     ·have hqi:=hq i x hpos hi
      have hi0:(i==0)=false:=by simp;omega
      have hlt:i<gs.size:=(Array.getElem?_eq_some_iff.1 hi).1
      cases hk:q i with
      |zero=>rw[hk]at hqi;rw[show x.status=.finished from hqi]at hx;cases hx
      |succ k=>
       rw[hk]at hqi
       rcases hqi with hf|⟨_,g',hs,hq'⟩
       ·rw[hf]at hx;cases hx
       have hrun:=runT_crowd_go (P:=P) (sl:=sl') hi (by rw[hi0];exact hs (w1.at d))
       rw[hq.woken h0 hr]at hrun
       have e0:t++MemOp.ofEvents i x.frame.fn x.frame.place #[]=t:=by simp[MemOp.ofEvents]
       obtain⟨N,kn',own',g2,w',gs',sl2,t',k1,k2,k3⟩:=ihn (sumTo gs.size (upd q i k)) (by
        rw[←hn]
        refine sumTo_less hlt ?_ fun j hj=>upd_ne _ _ hj
        rw[upd_same,hk];omega) (gs.setIfInBounds i g') (w1.at d) sl' t (upd q i k) (by simp) (he.trans (env_at _ _ _)) (by rw[get_set_ne _ (by omega)];exact h0) hr (fun j y hj hy=>by
         by_cases e:j=i
         ·subst e
          rw[get_set_same _ hlt]at hy
          rw[upd_same,←Option.some.inj hy];exact hq'
         ·rw[get_set_ne _ e]at hy
          rw[upd_ne _ _ e];exact hq j y hj hy) hco
       refine⟨N+1,kn',own',g2,w',gs',sl2,t',?_,k2,k3⟩
       have:=hst.trans hrun
       simp only[runNT,this]
       rw[e0]
       exact k1
   intro gs w1 sl t he ha
   obtain⟨q,hq⟩:=ha.quit
   exact key _ gs w1 sl t q rfl he ha.at0 ha.run hq ha.co
theorem Co.grow {kn own kn' own':Nat→Prop} {B:Nat} {t:Trace} (h:Co (fun g=>g=0) (fun _=>kn) (fun _=>own) B t) (hk:∀r,kn' r→r<B) (ho:∀r,own' r→kn' r):Co (fun g=>g=0) (fun _=>kn') (fun _=>own') B t:=by
 have all:∀i a r,touchAt t i=some a→LocAt a.loc r→Knows t 0 i:=fun i a r hi hr=>by
  have hm:a.loc.isMemory=true:=by rcases hr with⟨x,e,_⟩|e<;>rw[e]<;>rfl
  rcases h.ho i a hi hm with h1|⟨g,h1,h2,_⟩
  ·exact h1
  ·exact absurd h2 h1
 exact⟨h.clean,h.calm,fun _ _=>ho,fun _ _=>hk,fun g k hg hk' hne=>absurd (hg.trans hk'.symm) hne,fun g hg i a r hi hr _ _=>hg▸all i a r hi hr,fun g hg i a r hi hr _=>hg▸all i a r hi hr,h.ho,h.low⟩
theorem Inv.alright {P:Program} {G:Gather P} {b:Nat} {S:St} {gs:Array Goroutine} {w:World} {t:Trace} (h:Inv G b S gs w t) (ho:AtOut G S w):Alright P gs S.mn.g S.mn.kn S.mn.own w t:=by
 obtain⟨h1,h2,h3,h4,_⟩:=h.atOut ho
 exact⟨h1,h2,⟨S.q,h3⟩,h4⟩
end Go.Par
end
section
namespace Go.Par
def Leaves (X:Nat→Prop) (HA:HatT) (HP:HpostT):Prop:=
 (∀kn own f w,HA kn own f w→HA (fun r=>kn r∨X r) own f w)∧
 ∀kn own f w v w3 kn3 own3,HP (fun r=>kn r∨X r) own f w v w3 kn3 own3→∃kn4,HP kn own f w v w3 kn4 own3∧kn3=(fun r=>kn4 r∨X r)∧Env X w w3∧∀r,own3 r→own r∨¬X r
theorem CT.keep {P:Program} {main:Bool} {base:List Frame} {Fin:FinT} {HA:HatT} {HP:HpostT} (X:Nat→Prop) (hl:Leaves X HA HP) {kn own:Nat→Prop} {f:Frame} {top:List Frame} {w:World}
 (h:CT P main base Fin HA HP kn own f top w) (hX:∀r,X r→r<w.heap.size) (hd:∀r,own r→¬X r):
 CT P main base (fun _ own v w'=>(∃kn0,Fin kn0 own v w')∧Env X w w') HA HP (fun r=>kn r∨X r) own f top w:=by
 have key:=CT.ind (I:=fun kn own f top w1=>(∀r,own r→¬X r)→Env X w w1→CT P main base (fun _ own v w'=>(∃kn0,Fin kn0 own v w')∧Env X w w') HA HP (fun r=>kn r∨X r) own f top w1) ?_ h
 ·exact key hd (Env.refl _ _)
 intro kn own f top w1 hb hd1 he1
 have keep:∀{w2 w3:World} {es:Array Event},Env (fun r=>kn r∨X r) w1 w2→Fair kn own w2 w3 es→Env X w w3∧∀r,orNew own w2 w3 r→¬X r:=fun{w2 w3 es} he hf=>by
  have he2:Env X w w2:=he1.trans (he.mono fun r h=>.inr h)
  have hlt:∀r,X r→r<w2.heap.size:=fun r hr=>Nat.lt_of_lt_of_le (hX r hr) he2.1
  refine⟨he2.trans ⟨hf.size,fun r hr=>hf.others r (hlt r hr) fun ho=>hd1 r ho hr,hf.os,hf.out⟩,fun r hr hx=>?_⟩
  rcases hr with hr|hr
  ·exact hd1 r hr hx
  ·have:=hlt r hx;have:=hr.1;omega
 refine CT.mk fun w2 he=>?_
 rcases hb w2 (he.mono fun r h=>.inl h)with⟨w3,es,f2,top2,h1,h2,h3⟩|⟨w3,es,v,b',bs',h0,h1,h2,h3⟩|⟨w3,es,v,h0,h1,h2,h3⟩|⟨h1,c,rest,h2,h3⟩
 ·refine .inl ⟨w3,es,f2,top2,h1,h2.mono (fun r h=>.inl h) (fun r h=>h),?_⟩
  rw[orNew_or]
  obtain⟨k1,k2⟩:=keep he h2
  exact h3.1 k2 k1
 ·exact .inr (.inl ⟨w3,es,v,b',bs',h0,h1,h2.mono (fun r h=>.inl h) (fun r h=>h),⟨_,h3⟩,(keep he h2).1⟩)
 ·exact .inr (.inr (.inl ⟨w3,es,v,h0,h1,h2.mono (fun r h=>.inl h) (fun r h=>h),⟨_,h3⟩,(keep he h2).1⟩))
 ·refine .inr (.inr (.inr ⟨hl.1 _ _ _ _ h1,c,rest,h2,fun v w3 kn3 own3 hp=>?_⟩))
  obtain⟨kn4,q1,rfl,q3,q4⟩:=hl.2 _ _ _ _ _ _ _ _ hp
  refine(h3 v w3 kn4 own3 q1).1 (fun r hr=>?_) ((he1.trans (he.mono fun r h=>.inr h)).trans q3)
  rcases q4 r hr with x|x
  ·exact hd1 r x
  ·exact x
end Go.Par
end
section
namespace Go.Par
structure CallL (P:Program) (F:Array Func) (S:Nat→Bool) (e:FuncId):Prop where
 marked:S (P.funcs.size+P.globals.size)=false
 lone:∀(lf:Frame) (cs:List Frame) (v:World),HatO S lf→lf.kind=.normal→∃n,1≤n∧runN P n (lone lf cs v)=.next (lone (lf.finish (.bool true)) cs v)
 comp:∀(main:Bool) (f:Frame) (cs:List Frame) (w:World),HatO S f→f.kind=.normal→stepG (withF P F) main (gor f cs) w=.go (gor (Frame.enter (withF P F) e #[] .normal) (f::cs)) w #[]
def HA1 (Q:Program) (e:FuncId):HatT:=fun _ _ f _=>f=Frame.enter Q e #[] .normal
def HP1:HpostT:=fun kn own _ w v w3 kn3 own3=>v=.bool true∧Env kn w w3∧kn3=kn∧own3=own
section
variable {P:Program} {F:Array Func} {S:Nat→Bool} {N:Nat} {e:FuncId}
theorem HatO.lone {p:Pi} {lf f:Frame} (h:FrR P S noH p lf f) (hh:HatO S f):HatO S lf:=by
 obtain⟨hm,o,ops,i,is,k,h1,h2,h3,h4⟩:=hh
 have hmo:=h.mode
 rw[hm]at hmo
 have hrun:lf.mode=.run:=by generalize lf.mode=x at hmo;cases hmo;rfl
 have htl:=h.todo
 rw[h1]at htl
 generalize h5:lf.todo=t at htl
 cases htl with
 |cons hi htl=>
  cases hi with
  |inRegion _ _=>
   refine⟨hrun,o,ops,i,is,_,h5,h2,h3,?_⟩
   rw[←h4]
   congr 1
   exact funext fun j=>yielded_rel ops h.tmps j
section
variable (Q:Program) (S:Nat→Bool) (N:Nat) (main:Bool) (base:List Frame) (Fin:FinT) (HA:HatT) (HP:HpostT)
def Nd.out1 (x:Nd) (w2 w3:World):Prop:=Env (rng x.p) w2 w3∧¬CT Q main base Fin HA HP (rng x.p) (ownOf N x.p) (x.f.finish (.bool true)) x.top w3
open Classical in
noncomputable def Nd.pick1 (x:Nd):World:=if h:∃w3,x.out1 Q N main base Fin HA HP (x.pick Q N main base Fin HA HP) w3 then h.choose else x.w
theorem Nd.pick1_spec (x:Nd) (h:∃w3,x.out1 Q N main base Fin HA HP (x.pick Q N main base Fin HA HP) w3):x.out1 Q N main base Fin HA HP (x.pick Q N main base Fin HA HP) (x.pick1 Q N main base Fin HA HP):=by
 unfold Nd.pick1
 rw[dif_pos h]
 exact h.choose_spec
open Classical in
noncomputable def Nd.nx1 (x:Nd):Nd:=
 if HatO S x.f then⟨x.p,x.L,x.f.finish (.bool true),x.top,x.pick1 Q N main base Fin HA HP⟩
 else match x.step Q main base (x.pick Q N main base Fin HA HP)with
 |.go g w3 _=>⟨ext x.p x.L (x.pick Q N main base Fin HA HP).heap.size (w3.heap.size-(x.pick Q N main base Fin HA HP).heap.size),x.L+(w3.heap.size-(x.pick Q N main base Fin HA HP).heap.size),
    g.frame,g.callers.take (g.callers.length-base.length),w3⟩
 |_=>x
noncomputable def Nd.path1 (x:Nd):Nat→Nd
 |0=>x
 |k+1=>(Nd.path1 x k).nx1 Q S N main base Fin HA HP
open Classical in
noncomputable def Nd.cnt1 (x:Nd):Nat:=
 if HatO S x.f then 0 else(gw (x.step Q main base (x.pick Q N main base Fin HA HP))).drawn-(x.pick Q N main base Fin HA HP).drawn
noncomputable def Nd.piece1 (x:Nd) (i:Nat):Question→Nat:=(x.pick Q N main base Fin HA HP).tape ((x.pick Q N main base Fin HA HP).drawn+i)
end
theorem ct_of_calls {p:Pi} (hc:Closed P F S noH) (hg:Globs P S p) {lf f:Frame} {ltop top:List Frame} {lw w:World} (hw:WR P S (KS P S) N p lw w)
 (hf:FL P S noH p (lf::ltop) (f::top)) {R:Value→World→Prop} (hl:CallL P F S e) (hbar:Bar P lf ltop lw R fun _ _=>False) (main:Bool) (base:List Frame) (hb:Bot P S main base):
 CT (withF P F) main base (FinOf P S N p R) (HA1 (withF P F) e) HP1 (rng p) (ownOf N p) f top w:=by
 refine Classical.byContradiction fun hct=>?_
 let Fin:=FinOf P S N p R
 let HA:=HA1 (withF P F) e
 let x0:Nd:=⟨p,lw.heap.size,f,top,w⟩
 have hx0:¬x0.ct (withF P F) N main base Fin HA HP1:=hct
 let X:=fun k=>Nd.path1 (withF P F) S N main base Fin HA HP1 x0 k
 let pk:=fun k=>(X k).pick (withF P F) N main base Fin HA HP1
 let m:=fun k=>(X k).cnt1 (withF P F) S N main base Fin HA HP1
 let D:=fun k=>dsum m lw.drawn k
 let start:=fun T:Nat→Question→Nat=>Go.lone lf (ltop++[Base P]) {lw with tape:=T}
 have inv:∀k (T:Nat→Question→Nat),(∀j,j<k→∀i,i<m j→T (D j+i)=(X j).piece1 (withF P F) N main base Fin HA HP1 i)→∃ν g gs v,k≤ν∧runN P ν (start T)=.next (Go.lone g (gs++[Base P]) v)∧WR P S (KS P S) N (X k).p v (X k).w∧
  FL P S noH (X k).p (g::gs) ((X k).f::(X k).top)∧Globs P S (X k).p∧v.tape=T∧v.drawn=D k∧v.heap.size=(X k).L∧(¬(X k).ct (withF P F) N main base Fin HA HP1)∧Le p (X k).p:=by
  intro k
  induction k with
  |zero=>intro T _;exact⟨0,lf,ltop,{lw with tape:=T},Nat.le_refl _,rfl,hw.tape T lw.drawn,hf,hg,rfl,rfl,rfl,hx0,Le.refl p⟩
  |succ k ih=>
   intro T hT
   obtain⟨ν,g,gs,v,e0,e1,e2,e3,e4,e5,e6,e7,e8,e9⟩:=ih T fun j hj i hi=>hT j (by omega) i hi
   obtain⟨henv,hbad⟩:=(X k).pick_spec (withF P F) N main base Fin HA HP1 e8
   have hw2:WR P S (KS P S) N (X k).p v (pk k):=e2.env henv
   obtain⟨n,fr,w1,c1,c2⟩:=hbar T
   have hends:Ends P fr w1:=by
    rcases c2 with⟨rv,h,_⟩|⟨e,ch,h,_⟩
    ·exact .inl ⟨rv,h⟩
    ·exact .inr ⟨_,h⟩
   obtain⟨hle,hrest⟩:=before c1 hends e1
   by_cases hhat:HatO S (X k).f
   ·
    have hcnt:m k=0:=by show Nd.cnt1 _ _ _ _ _ _ _ _ (X k)=_;unfold Nd.cnt1;rw[if_pos hhat]
    have hout:∃w3,(X k).out1 (withF P F) N main base Fin HA HP1 (pk k) w3:=by
     refine Classical.byContradiction fun hno=>hbad (.inl ⟨pk k,#[],Frame.enter (withF P F) e #[] .normal,(X k).f::(X k).top,?_,Fair.refl (fun e h=>by simp at h),?_⟩)
     ·exact hl.comp main (X k).f ((X k).top++base) (pk k) hhat e3.head.kind'
     ·rw[orNew_self,orNew_self]
      refine CT.mk fun w2 he=>.inr (.inr (.inr ⟨rfl,(X k).f,(X k).top,rfl,fun v' w3 kn3 own3 hp=>?_⟩))
      obtain⟨rfl,he3,rfl,rfl⟩:=hp
      exact Classical.byContradiction fun hx=>hno ⟨w3,he.trans he3,hx⟩
    obtain⟨henv3,hnct⟩:=(X k).pick1_spec (withF P F) N main base Fin HA HP1 hout
    obtain⟨nn,p0,p1⟩:=hl.lone g (gs++[Base P]) v (HatO.lone e3.head hhat) e3.head.kind
    have hnx:X (k+1)=⟨(X k).p,(X k).L,(X k).f.finish (.bool true),(X k).top,(X k).pick1 (withF P F) N main base Fin HA HP1⟩:=by
     show(X k).nx1 (withF P F) S N main base Fin HA HP1=_
     unfold Nd.nx1;rw[if_pos hhat]
    rw[hnx]
    refine⟨ν+nn,g.finish (.bool true),gs,v,by omega,by rw[runN_add,e1];exact p1,hw2.env henv3,e3.top (e3.head.finish (.bool true)) (finish_round _ _),e4,e5,?_,e7,hnct,e9⟩
    rw[e6]
    show D k=dsum m lw.drawn k+m k
    rw[hcnt];rfl
   ·
    have hcnt:m k=(gw ((X k).step (withF P F) main base (pk k))).drawn-(pk k).drawn:=by show Nd.cnt1 _ _ _ _ _ _ _ _ (X k)=_;unfold Nd.cnt1;rw[if_neg hhat]
    have htapes:Tapes (m k) v (pk k):=fun j hj q=>by
     have:=hT k (by omega) j hj
     rw[e5,e6,this]
     rfl
    have hd:(gw (stepG (withF P F) main {frame:=(X k).f,callers:=(X k).top++base,status:=.running,dying:=none} (pk k))).drawn≤(pk k).drawn+m k:=by
     rw[hcnt]
     show(gw ((X k).step (withF P F) main base (pk k))).drawn≤(pk k).drawn+((gw ((X k).step (withF P F) main base (pk k))).drawn-(pk k).drawn)
     omega
    have hsim:=Sim.step (b:=Base P) (bs:=[]) (base':=base) hc hw2 e4 e3 (fun _ _ _ _ _ _ _ h=>h) hhat true main hb htapes hd
    rcases hsim with⟨o,w3,es,hs⟩|⟨q,ch,ch',w3,es,hch,hs⟩|⟨c,nn,v1,w3,es,es',hm,hes,hcase⟩
    ·exact(no_end hrest hends (step_lone_ended (o:=o) (w':=w3) (by rw[hs];rfl))).elim
    ·exfalso
     have hstep:step P (Go.lone g (gs++[Base P]) v)=.next (Go.lone ((Base P).raise ch) [] w3):=step_lone_go (by rw[hs];rfl)
     obtain⟨_,hσ⟩:=at_end hrest hstep (base_raise_ends P ch w3)
     rw[hσ]at hstep
     rcases c2 with⟨rv,h,_⟩|⟨e,ch2,h,hF,hnv⟩
     ·rw[step_leave_returned h]at hstep
      simp only[Stepped.next.injEq]at hstep
      have q1:=(lone_inj hstep).1
      rw[base_finish]at q1
      have:=congrArg (fun f:Frame=>f.mode) q1
      simp[Base,Frame.raise]at this
     ·exact hF
    ·obtain⟨hfair,hr1,hr2⟩:=Moved.fair hw2 hm hes
     rcases hcase with⟨f2,f2',t2,t2',hfl,hs,hs'⟩|⟨rv2,rv2',hv,hs,hs'⟩
     ·have hstep:step P (Go.lone g (gs++[Base P]) v)=.next (Go.lone f2 (t2++[Base P]) v1):=step_lone_go (by rw[hs];rfl)
      have hk1:=runN_one P ν _ _ e1
      rw[hstep]at hk1
      have hs2:(X k).step (withF P F) main base (pk k)=.go (gor f2' (t2'++base)) w3 es':=hs'
      have hnx:X (k+1)=⟨ext (X k).p (X k).L (pk k).heap.size c,(X k).L+c,f2',t2',w3⟩:=by
       show(X k).nx1 (withF P F) S N main base Fin HA HP1=_
       unfold Nd.nx1
       rw[if_neg hhat]
       have hs3:(X k).step (withF P F) main base ((X k).pick (withF P F) N main base Fin HA HP1)=.go (gor f2' (t2'++base)) w3 es':=hs'
       rw[hs3]
       have hsz:w3.heap.size-((X k).pick (withF P F) N main base Fin HA HP1).heap.size=c:=by
        have h6:w3.heap.size=(pk k).heap.size+c:=hm.size'
        show w3.heap.size-(pk k).heap.size=c
        rw[h6,Nat.add_sub_cancel_left]
       simp only[hsz]
       congr 1
       rw[List.length_append,Nat.add_sub_cancel]
       exact List.take_left
      rw[hnx]
      have hrel:=hm.rel
      rw[e7]at hrel hfl hr1 hr2
      have hle2:=ext_le (X k).p (X k).L (pk k).heap.size c
      refine⟨ν+1,f2,t2,v1,by omega,hk1,hrel,hfl,e4.mono hle2,hm.tape.trans e5,?_,by rw[hm.size,e7],?_,e9.trans hle2⟩
      ·rw[hm.drawn,e6]
       have:m k=nn:=by
        rw[hcnt,hs2]
        have h5:w3.drawn=(pk k).drawn+nn:=hm.drawn'
        show w3.drawn-(pk k).drawn=nn
        rw[h5,Nat.add_sub_cancel_left]
       show D k+nn=dsum m lw.drawn k+m k
       rw[this]
      ·intro hct2
       refine hbad (.inl ⟨w3,es',f2',t2',hs2,hfair,?_⟩)
       unfold Nd.ct at hct2
       rw[hr1,hr2]at hct2
       exact hct2
     ·exfalso
      have hstep:step P (Go.lone g (gs++[Base P]) v)=.next (Go.lone ((Base P).finish rv2) [] v1):=step_lone_go (by rw[hs];rfl)
      obtain⟨_,hσ⟩:=at_end hrest hstep (base_finish_ends P rv2 v1)
      rw[hσ]at hstep
      rcases c2 with⟨rv,h,hR⟩|⟨e,ch2,h,hF,_⟩
      ·rw[step_leave_returned h]at hstep
       simp only[Stepped.next.injEq]at hstep
       obtain⟨q1,_,q3⟩:=lone_inj hstep
       rw[base_finish,base_finish]at q1
       have hvv:rv=rv2:=by
        have:=congrArg (fun f:Frame=>f.tmps) q1
        simpa using this
       subst hvv;subst q3
       have hfin:Fin (orNew (rng (X k).p) (pk k) w3) (orNew (ownOf N (X k).p) (pk k) w3) rv2' w3:=⟨_,rv,w1,hR,hv,hm.rel,e9.trans (ext_le _ _ _ _),hr1.symm,hr2.symm⟩
       rcases hs' with⟨b',bs',hbase,hs'⟩|⟨hbase,hs'⟩
       ·exact hbad (.inr (.inl ⟨w3,es',rv2',b',bs',hbase,hs',hfair,hfin⟩))
       ·exact hbad (.inr (.inr (.inl ⟨w3,es',rv2',hbase,hs',hfair,hfin⟩)))
      ·exact hF
 obtain⟨T,hT⟩:=splice m (fun k j=>(X k).piece1 (withF P F) N main base Fin HA HP1 j) lw.drawn
 obtain⟨n,fr,w1,c1,c2⟩:=hbar T
 have hends:Ends P fr w1:=by
  rcases c2 with⟨rv,h,_⟩|⟨e,ch,h,_⟩
  ·exact .inl ⟨rv,h⟩
  ·exact .inr ⟨_,h⟩
 obtain⟨ν,g,gs,v,e0,e1,_⟩:=inv (n+1) T fun j _ i hi=>hT j i hi
 obtain⟨hle,_⟩:=before c1 hends e1
 omega
end
end Go.Par
end
section
namespace Go.Par
open Go.Conc
open Go.ConcN (upd upd_same upd_ne sumTo sumTo_upd sumTo_congr le_sumTo sumTo_le)
def Rets (P:Program) (b:Frame) (bs:List Frame) (Fin:FinT) (m:Machine) (t:Trace):Prop:=
 ∃N v w3 kn3 own3 gs' sl' t' q',runNT P N m t=(.next (crowd gs' w3 sl'),t')∧Fin kn3 own3 v w3∧gs'[0]?=some (gor (b.finish v) bs)∧Quitters P gs' q'∧Co (fun g=>g=0) (fun _=>kn3) (fun _=>own3) w3.heap.size t'
theorem Rets.step {P:Program} {b:Frame} {bs:List Frame} {Fin:FinT} {m m':Machine} {t:Trace} {ops:Array MemOp} (h:stepT P m=(.next m',ops)) (k:Rets P b bs Fin m' (t++ops)):Rets P b bs Fin m t:=by
 obtain⟨N,v,w3,kn3,own3,gs',sl',t',q',h1,h2⟩:=k
 exact⟨N+1,v,w3,kn3,own3,gs',sl',t',q',by simp only[runNT,h];exact h1,h2⟩
theorem Rets.steps {P:Program} {b:Frame} {bs:List Frame} {Fin:FinT} {m m':Machine} {t t':Trace} {N:Nat} (h:runNT P N m t=(.next m',t')) (k:Rets P b bs Fin m' t'):Rets P b bs Fin m t:=by
 obtain⟨M,v,w3,kn3,own3,gs',sl',t',q',h1,h2⟩:=k
 exact⟨N+M,v,w3,kn3,own3,gs',sl',t',q',by rw[runNT_add,h];exact h1,h2⟩
section
variable {P:Program} {Fin:FinT} {HA:HatT} {HP:HpostT} {b0:Frame} {bs0:List Frame}
theorem rets_of_ct (hpay:Pays P HA HP) (hat:∀kn own f w d,HA kn own f (World.at w d)→HA kn own f w) (hpt:∀kn own f w d v w3 kn3 own3,HP kn own f w v w3 kn3 own3→HP kn own f (World.at w d) v w3 kn3 own3)
 {kn own:Nat→Prop} {f:Frame} {top:List Frame} {w:World} (h:CT P true (b0::bs0) Fin HA HP kn own f top w):
 ∀gs w1 sl t q,Env kn w w1→gs[0]?=some (gor f (top++b0::bs0))→Quitters P gs q→Co (fun g=>g=0) (fun _=>kn) (fun _=>own) w1.heap.size t→Rets P b0 bs0 Fin (crowd gs w1 sl) t:=by
 refine CT.ind (I:=fun kn own f top w=>∀gs w1 sl t q,Env kn w w1→gs[0]?=some (gor f (top++b0::bs0))→Quitters P gs q→Co (fun g=>g=0) (fun _=>kn) (fun _=>own) w1.heap.size t→Rets P b0 bs0 Fin (crowd gs w1 sl) t) ?_ h
 intro kn own f top w hbody
 have key:∀n gs w1 sl t q,sumTo gs.size q=n→Env kn w w1→gs[0]?=some (gor f (top++b0::bs0))→Quitters P gs q→Co (fun g=>g=0) (fun _=>kn) (fun _=>own) w1.heap.size t→Rets P b0 bs0 Fin (crowd gs w1 sl) t:=by
  intro n
  induction n using Nat.strongRecOn with
  |ind n ih=>
   intro gs w1 sl t q hn he h0 hq hco
   have pay:HA kn own f w1→∀c rest,top=c::rest→(∀v w3 kn3 own3,HP kn own f w1 v w3 kn3 own3→(∀gs w1 sl t q,Env kn3 w3 w1→gs[0]?=some (gor (c.finish v) (rest++b0::bs0))→Quitters P gs q→Co (fun g=>g=0) (fun _=>kn3) (fun _=>own3) w1.heap.size t→Rets P b0 bs0 Fin (crowd gs w1 sl) t))→Rets P b0 bs0 Fin (crowd gs w1 sl) t:=by
    intro hA c rest htop hc
    subst htop
    obtain⟨N,v,w3,kn3,own3,gs',sl',t',q',p1,p2,p3,p4,p5⟩:=hpay kn own f c (rest++b0::bs0) w1 gs sl t q h0 hq hco hA
    exact(hc v w3 kn3 own3 p2 gs' w3 sl' t' q' (Env.refl _ _) p3 p4 p5).steps p1
   have aw:∀g∈gs,Conc.awake g:=by
    intro g hg
    obtain⟨j,hj,rfl⟩:=Array.mem_iff_getElem.1 hg
    have hj':=Array.getElem?_eq_getElem hj
    rcases Nat.eq_zero_or_pos j with rfl|hpos
    ·rw[h0]at hj'
     rw[←Option.some.inj hj'];exact awake_of (.inl rfl)
    ·exact awake_of ((hq j _ hpos hj').status.imp id .inr)
   obtain⟨i,g,d,sl',hi,hg,hst⟩:=crowd_pick (P:=P) (w:=w1) (sl:=sl) aw ⟨0,_,h0,rfl⟩
   rcases Nat.eq_zero_or_pos i with rfl|hpos
   ·obtain rfl:g=gor f (top++b0::bs0):=by rw[h0]at hi;exact(Option.some.inj hi).symm
    have hsz:0<gs.size:=(Array.getElem?_eq_some_iff.1 h0).1
    rcases hbody (w1.at d) (he.trans (env_at _ _ _))with⟨w3,es,f2,top2,h1,h2,h3⟩|⟨w3,es,v,b,bs,hbb,h1,h2,h3⟩|⟨w3,es,v,hbb,h1,h2,h3⟩|⟨h1,c,rest,htop,h2⟩
    ·have hrun:=runT_crowd_go (P:=P) (sl:=sl') (i:=0) h0 (show stepG P (0==0) (gor f (top++b0::bs0)) (w1.at d)=_ from h1)
     rw[hq.woken h0 rfl]at hrun
     refine Rets.step (hst.trans hrun) (h3.1 _ w3 sl' _ q (Env.refl _ _) (get_set_same _ hsz) (fun j x hj hx=>?_) ?_)
     ·rw[get_set_ne _ (by omega)]at hx;exact hq j x hj hx
     ·exact(hco.step (w:=w1.at d) (g:=0) rfl rfl h2 _ _).lone (upd_same ..) (upd_same ..)
    ·obtain⟨rfl,rfl⟩:b0=b∧bs0=bs:=by simpa using hbb
     have hrun:=runT_crowd_go (P:=P) (sl:=sl') (i:=0) h0 (show stepG P (0==0) (gor f (top++b0::bs0)) (w1.at d)=_ from h1)
     rw[hq.woken h0 rfl]at hrun
     refine Rets.step (hst.trans hrun) ⟨0,v,w3,_,_,_,sl',_,q,rfl,h3,get_set_same _ hsz,fun j x hj hx=>?_,(hco.step (w:=w1.at d) (g:=0) rfl rfl h2 _ _).lone (upd_same ..) (upd_same ..)⟩
     rw[get_set_ne _ (by omega)]at hx;exact hq j x hj hx
    ·cases hbb
    ·exact pay (hat _ _ _ _ _ h1) c rest htop fun v w3 kn3 own3 hp=>(h2 v w3 kn3 own3 (hpt _ _ _ _ _ _ _ _ _ hp)).1
   ·have hqi:=hq i g hpos hi
    have hi0:(i==0)=false:=by simp;omega
    have hlt:i<gs.size:=(Array.getElem?_eq_some_iff.1 hi).1
    cases hk:q i with
    |zero=>rw[hk]at hqi;rw[show g.status=.finished from hqi]at hg;cases hg
    |succ k=>
     rw[hk]at hqi
     rcases hqi with hf|⟨_,g',hs,hq'⟩
     ·rw[hf]at hg;cases hg
     have hrun:=runT_crowd_go (P:=P) (sl:=sl') hi (by rw[hi0];exact hs (w1.at d))
     rw[hq.woken h0 rfl]at hrun
     have e0:t++MemOp.ofEvents i g.frame.fn g.frame.place #[]=t:=by simp[MemOp.ofEvents]
     refine Rets.step (hst.trans hrun) ?_
     rw[e0]
     refine ih (sumTo gs.size (upd q i k)) ?_ _ (w1.at d) sl' t (upd q i k) (by simp) (he.trans (env_at _ _ _)) ?_ (fun j x hj hx=>?_) hco
     ·rw[←hn]
      refine sumTo_less hlt ?_ fun j hj=>upd_ne _ _ hj
      rw[upd_same,hk];omega
     ·rw[get_set_ne _ (by omega)];exact h0
     ·by_cases e:j=i
      ·subst e
       rw[get_set_same _ hlt]at hx
       rw[upd_same,←Option.some.inj hx];exact hq'
      ·rw[get_set_ne _ e]at hx
       rw[upd_ne _ _ e];exact hq j x hj hx
 intro gs w1 sl t q he h0 hq hco
 exact key _ gs w1 sl t q rfl he h0 hq hco
end
end Go.Par
end
