/- A part. Conditions: none. -/
import Derived.Test.YtboiakcocelkmaaGreatDoorT06
import Derived.ChangeMade
set_option linter.all false
namespace Go.au
open Go.Made
variable {P:Program} {i:TypeInfo} {info:TypeId->Option TypeInfo} {v:Value}
def flat (v:Value):Prop:=∀x∈v.cells,plain 5 x=true
theorem zL:∀(n:Nat) (v:Value),plain n v=true->plain (n+1) v=true:=by
 intro n;induction n with
 |zero=>
  intro v h;cases v;case pointer a=>cases a<;>first|rfl|(simp[au.plain]at h;done)
  case slice a l c=>cases a<;>first|rfl|(simp[au.plain]at h;done)
  case map a=>cases a<;>first|rfl|(simp[au.plain]at h;done)
  case chan a=>cases a<;>first|rfl|(simp[au.plain]at h;done)
  all_goals first|rfl|(simp[au.plain]at h;done)
 |succ n ih=>
  intro v h;cases v;case pointer a=>cases a<;>first|rfl|(simp[au.plain]at h;done)
  case slice a l c=>cases a<;>first|rfl|(simp[au.plain]at h;done)
  case map a=>cases a<;>first|rfl|(simp[au.plain]at h;done)
  case chan a=>cases a<;>first|rfl|(simp[au.plain]at h;done)
  case iface t v=>exact ih v h
  case agg xs=>
   have h:xs.all (au.plain n)=true:=h;show xs.all (au.plain (n+1))=true;exact Array.all_eq_true.2 fun i hi=>ih _ (Array.all_eq_true.1 h i hi)
  case tuple xs=>
   have h:xs.all (au.plain n)=true:=h;show xs.all (au.plain (n+1))=true;exact Array.all_eq_true.2 fun i hi=>ih _ (Array.all_eq_true.1 h i hi)
  all_goals first|rfl|(simp[au.plain]at h;done)
theorem qY {n m:Nat} (Id:n<=m) (h:plain n v=true):plain m v=true:=by
 induction Id with
 |refl=>exact h
 |step _ ih=>exact zL _ _ ih
theorem flat.plain (h:flat v):plain 50 v=true:=by
 unfold flat at h;cases v with
 |agg xs=>
  show xs.all (au.plain 49)=true;exact Array.all_eq_true.2 fun i hi=>qY (by omega) (h _ (Array.getElem_mem hi))
 |_=>exact qY (by omega) (h _ (by simp[Value.cells]))
theorem C6 {α β:Type} (f:α->β->Option (ForInStep β)) (I:β->Prop) (hf:∀a b r,I b->f a b=some r->I (match r with|.yield b=>b|.done b=>b)):∀(l:List α) (b r:β),I b->forIn l b f=some r->I r:=by
 intro l;induction l with
 |nil=>intro b r hb h;simp only[List.forIn_nil,pure,Option.some.injEq]at h;exact h▸hb
 |cons a l ih=>
  intro b r hb h;simp only[List.forIn_cons,bind,Option.bind_eq_some_iff]at h;obtain⟨s,hs,h⟩:=h;have:=hf a b s hb hs;cases s with
  |done b'=>simp only[pure,Option.some.injEq]at h;exact h▸this
  |yield b'=>exact ih b' r this h
def E5 (info:TypeId->Option TypeInfo):Prop:=∀t i v,info t=some i->i.zero=some v->flat v
theorem mU (hi:E5 info) {fs:Array Field} (h:reckonStruct info fs=some i) (hv:i.zero=some v):flat v:=by
 unfold reckonStruct at h;simp only[bind,Option.bind_eq_some_iff,pure]at h;obtain⟨a,ha,h⟩:=h;rw[<-Array.forIn_toList]at ha;have key:=C6 _ (fun s:Array Field×Nat×Nat×Nat×Nat×Bool×Bool×Option (Array Value)×String=>∀z,s.2.2.2.2.2.2.2.1=some z->∀x∈z,au.plain 5 x=true) ?_ _ _ _ ?_ ha
 .split at h
  all_goals
   simp only[Option.some.injEq]at h;subst h;simp only[Option.map_eq_some_iff]at hv;obtain⟨z,hz,rfl⟩:=hv;exact key z hz
 .intro f b r hb hr;simp only[Option.bind_eq_some_iff]at hr;obtain⟨j,hj,hr⟩:=hr
  have fin:∀z,(b.2.2.2.2.2.2.2.1.bind fun z0=>j.zero.bind fun z1=>some (z0++z1.cells))=some z->∀x∈z,au.plain 5 x=true:=by
   intro z hz;simp only[Option.bind_eq_some_iff,Option.some.injEq]at hz;obtain⟨z0,h0,z1,h1,rfl⟩:=hz;intro x hx;rcases Array.mem_append.1 hx with hx|hx
   .exact hb z0 h0 x hx
   .exact hi _ _ _ hj h1 x hx
  repeat' split at hr
  all_goals(try(simp only[Option.bind_none,reduceCtorEq]at hr;done))
  all_goals(try simp only[Option.bind_eq_some_iff]at hr)
  all_goals(obtain⟨_,_,hr⟩:=hr;simp only[Option.some.injEq]at hr;subst hr;intro z hz;first|(cases hz;done)|exact fin z hz)
 .intro z hz;simp only[Option.some.injEq]at hz;subst hz;simp
theorem wV (hi:E5 info) {d:TypeDesc} (h:reckon info d=some i) (hv:i.zero=some v):flat v:=by
 have one:∀u:Value,au.plain 0 u=true->flat u:=fun u hu x hx=>by
  cases u<;>first|(simp only[Value.cells,List.mem_toArray,List.mem_singleton]at hx;subst hx;exact qY (Nat.zero_le _) hu)|(cases hu;done)
 cases d with
 |struct fs=>exact mU hi h hv
 |array n e=>
  simp only[reckon,bind,Option.bind_eq_some_iff,pure,Option.some.injEq]at h;obtain⟨j,hj,s,_,rfl⟩:=h;simp only at hv;split at hv
  .cases hv
  .split at hv
   .simp only[Option.some.injEq]at hv;subst hv;intro x hx;simp[Value.cells]at hx
   .simp only[Option.map_eq_some_iff]at hv;obtain⟨z,hz,rfl⟩:=hv;intro x hx;simp only[Value.cells,Array.mem_flatten,Array.mem_replicate]at hx;obtain⟨y,⟨_,rfl⟩,hx⟩:=hx;exact hi _ _ _ hj hz x hx
 |pointer e=>
  simp only[reckon,bind,Option.bind_eq_some_iff,pure]at h;obtain⟨j,hj,h⟩:=h;repeat' split at h
  all_goals(try(cases h;done))
  all_goals(simp only[Option.bind_eq_some_iff,Option.some.injEq]at h;obtain⟨_,_,rfl⟩:=h;simp only[word,Option.some.injEq]at hv;subst hv;exact one _ rfl)
 |_=>
  first
  |(simp only[reckon,reduceCtorEq]at h;done)
  |(simp only[reckon,bind,Option.bind_eq_some_iff,pure,Option.some.injEq]at h;obtain⟨_,_,_,_,rfl⟩:=h;simp only[word,Option.some.injEq]at hv;subst hv;exact one _ rfl)
  |(simp only[reckon,bind,Option.bind_eq_some_iff,pure,Option.some.injEq]at h;obtain⟨_,_,_,_,_,_,_,_,rfl⟩:=h;simp only[word,Option.some.injEq]at hv;subst hv;exact one _ rfl)
  |(simp only[reckon,bind,Option.bind_eq_some_iff,pure,Option.some.injEq]at h;obtain⟨_,_,rfl⟩:=h;simp only[word,Option.some.injEq]at hv;subst hv;exact one _ rfl)
def tG (T:Tables):Bool:=T.types.all fun i=>match i.zero with|some v=>v.cells.all (au.plain 5)|none=>true
theorem wW {T:Tables} (h:tG T=true):∀f,E5 (infoAt T f):=by
 have low:∀(t:Nat) (i:TypeInfo) (v:Value),T.types[t]?=some i->i.zero=some v->flat v:=by
  intro t i v ht hv;obtain⟨az,he⟩:=Array.getElem?_eq_some_iff.1 ht;have:=Array.all_eq_true.1 h t az;rw[he]at this;simp only[hv]at this;intro x hx;obtain⟨k,hk,rfl⟩:=Array.mem_iff_getElem.1 hx;exact Array.all_eq_true.1 this k hk
 intro f;induction f with
 |zero=>intro t i v ht;cases ht
 |succ f ih=>
  intro t i v ht hv;unfold infoAt at ht;split at ht
  .exact low t i v ht hv
  .simp only[Option.bind_eq_some_iff]at ht;obtain⟨d,_,ht⟩:=ht;exact wV ih ht hv
theorem E6 (h:tG P.toTables=true):aV P:=by
 intro t i v ht hv;have ht:Tables.info? P.toTables t=some i:=ht
 have:infoAt P.toTables depth t=some i:=by
  unfold Tables.info? at ht;split at ht
  .unfold depth infoAt;rw[if_pos (by assumption)];exact ht
  .exact ht
 exact(wW h depth t i v this hv).plain
def zM (T:Tables):Bool:=T.types.all fun i=>match i.desc with|.named n _=>!(n== "sync.copyChecker")|_=>true
theorem zN (h:zM P.toTables=true):aF P:=by
 intro t i u ht hd;have ht:Tables.info? P.toTables t=some i:=ht;by_cases az:t<P.types.size
 .unfold Tables.info? at ht;rw[if_pos az]at ht;obtain⟨az,he⟩:=Array.getElem?_eq_some_iff.1 ht;have:=Array.all_eq_true.1 h t az;rw[he,hd]at this;simp at this
 .have:=Tables.info?_beyond az ht;rw[hd]at this;cases this
end Go.au
namespace Go.au
open Go.Conc
variable {P:Program} {d r t:Nat} {e:TypeId} {fz:Nat×Nat} {i:TypeInfo} {o:Oper} {ops:Array Oper} {u:Value} {w:World}
def Es (m:Region.Mode) (ops:Array Oper) (listed:Array Bool):List Nat:=
 (List.range ops.size).filter fun i=>!listed.getD i true&&((ops[i]?).map (·.after.all fun e=>!Region.binds m e||listed.getD e.on false)).getD false
inductive Ln (m:Region.Mode) (ops:Array Oper):Nat->Array Bool->List Nat->Prop
 |stop {n:Nat} {listed:Array Bool} (h:n=0\/Es m ops listed=[]):Ln m ops n listed []
 |next {n i:Nat} {listed:Array Bool} {l:List Nat} (h:i∈Es m ops listed) (t:Ln m ops n (listed.setIfInBounds i true) l):Ln m ops (n+1) listed (i::l)
theorem M2 (m:Region.Mode) (ops:Array Oper):∀(n t:Nat) (listed:Array Bool) (acc:List Nat),∃l,Region.linearise.go m ops n t listed acc=acc.reverse++l/\Ln m ops n listed l:=by
 intro n;induction n with
 |zero=>intro t listed acc;exact⟨[],by simp[Region.linearise.go],.stop (.inl rfl)⟩
 |succ n ih=>
  intro t listed acc;unfold Region.linearise.go;have e:((List.range ops.size).filter fun i=>!listed.getD i true&&((ops[i]?).map (·.after.all fun e=>!Region.binds m e||listed.getD e.on false)).getD false)=Es m ops listed:=rfl;simp only[e];cases hi:(Es m ops listed)[t%(Es m ops listed).length]? with
  |none=>
   refine⟨[],by simp,.stop (.inr ?_)⟩;cases hr:Es m ops listed with
   |nil=>rfl
   |cons a l=>
    rw[hr]at hi;have:t%(a::l).length<(a::l).length:=Nat.mod_lt _ (by simp);rw[List.getElem?_eq_getElem this]at hi;cases hi
  |some i=>
   obtain⟨l,h1,h2⟩:=ih (t/(Es m ops listed).length) (listed.setIfInBounds i true) (i::acc);exact⟨i::l,by simp only[];rw[h1];simp,.next (List.mem_of_getElem? hi) h2⟩
theorem zO (m:Region.Mode) (ops:Array Oper) (t:Nat):Ln m ops ops.size (Array.replicate ops.size false) (Region.linearise m ops t):=by
 obtain⟨l,h1,h2⟩:=M2 m ops ops.size t (Array.replicate ops.size false) [];unfold Region.linearise;rw[h1];exact h2
def jx (m:Region.Mode) (ops:Array Oper):Nat->Array Bool->List (List Nat)
 |0,_=>[[]]
 |n+1,listed=>if(Es m ops listed).isEmpty then [[]]else(Es m ops listed).flatMap fun i=>(jx m ops n (listed.setIfInBounds i true)).map (i::·)
theorem pg {m:Region.Mode} {n:Nat} {listed:Array Bool} {l:List Nat} (h:Ln m ops n listed l):l∈jx m ops n listed:=by
 induction h with
 | @stop n listed h=>
   cases n with
   |zero=>simp[jx]
   |succ n=>
    rcases h with h|h
    .omega
    .simp[jx,h]
 | @next n i listed l h _ ih=>
   simp only[jx];split
   .rename_i he;rw[List.isEmpty_iff]at he;rw[he]at h;cases h
   .simp only[List.mem_flatMap,List.mem_map];exact⟨_,h,_,ih,rfl⟩
structure Bx (P:Program) (o:Oper) (d:Nat) (v:Nat->Value) (x:Obj):Prop where
 dst:o.dst=some d
 guard:o.guard=none
 run:∀(a:Act) (w:World),(execOp a.eval o).run P w=.ok (.value (v w.heap.size)) (w.alloc x)
 ev:∀(a:Act) (w:World),(execOp a.eval o).events P w #[]=#[]
structure Made (ops:Array Oper) (d:Nat->Nat) (v:Nat->Nat->Value) (x:Nat->Obj) (is:List Nat) (kn own:Nat->Prop) (tm:Array Value) (w:World) (pos:Nat->Nat) (gt dO:Nat->Prop) (br:Array Value) (w':World):Prop where
 size:br.size=tm.size
 slot:∀i∈is,d i<tm.size->br.getD (d i) undef=v i (pos i)
 others:∀j,(∀i∈is,d i≠j)->br.getD j undef=tm.getD j undef
 new:∀i∈is,w.heap.size<=pos i/\pos i<w'.heap.size
 inj:∀i∈is,∀j∈is,pos i=pos j->i=j
 heap:∀i∈is,w'.heap[pos i]?=some (x i)
 env:Env kn w w'
 TN:∀r,gt r↔kn r\/∃i∈is,r=pos i
 Ja:∀r,dO r↔own r\/∃i∈is,r=pos i
theorem ai (a:Array Value) (i:Nat) (v u:Value) (h:i<a.size):(a.setIfInBounds i v).getD i u=v:=by
 rw[Array.getD_eq_getD_getElem?,aM _ h];rfl
theorem getD_set_ne (a:Array Value) {i j:Nat} (v u:Value) (h:j≠i):(a.setIfInBounds i v).getD j u=a.getD j u:=by
 rw[Array.getD_eq_getD_getElem?,Array.getD_eq_getD_getElem?,aD _ h]
theorem Tree.makes {main:Bool} {K:lU} (T:Tree P main K) {b:Frame} {k:List Item} {cs:List Frame} {rest:List Nat} (hk:b.kind≠ .early) {d:Nat->Nat} {v:Nat->Nat->Value} {x:Nat->Obj}:
 ∀(is:List Nat),is.Nodup->(∀i∈is,∃o,ops[i]?=some o/\Bx P o (d i) (v i) (x i))->(∀i∈is,∀j∈is,d i=d j->i=j)->∀(kn own:Nat->Prop) (tm:Array Value) (ds:List Deferred) (w:World),(∀r,kn r->r<w.heap.size)->
  (∀pos gt dO br w',Made ops d v x is kn own tm w pos gt dO br w'->K gt dO (G (b.at ⟨br,ds⟩ (.inRegion ops rest::k)) cs) w')->
  K kn own (G (b.at ⟨tm,ds⟩ (.inRegion ops (is++rest)::k)) cs) w:=by
 intro is;induction is with
 |nil=>
  intro _ _ _ kn own tm ds w _ h;exact h (fun _=>0) kn own tm w ⟨rfl,fun i hi=>by simp at hi,fun _ _=>rfl,fun i hi=>by simp at hi,fun i hi=>by simp at hi,fun i hi=>by simp at hi,Env.refl _ _,fun r=>by simp,fun r=>by simp⟩
 |cons i is ih=>
  intro CN bI TO kn own tm ds w az h;obtain⟨o,ho,hm⟩:=bI i (by simp);rw[List.nodup_cons]at CN;refine T.op (i:=i) (rest:=is++rest) ho (by unfold Region.wanted;rw[hm.guard]) hk fun w2 he=>⟨_,_,hm.run _ w2,by rw[hm.ev];exact Fair.alloc _,?_⟩
  rw[iy,iy];have hs:(w2.alloc (x i)).heap.size=w2.heap.size+1:=by show(w2.heap.push (x i)).size=_;simp
  have Qr:(w2.alloc (x i)).heap[w2.heap.size]?=some (x i):=by show(w2.heap.push (x i))[w2.heap.size]?=_;simp
  have hold:∀r,r<w2.heap.size->(w2.alloc (x i)).heap[r]?=w2.heap[r]?:=fun r hr=>by
   show(w2.heap.push (x i))[r]?=_;simp[Array.getElem?_push,Nat.ne_of_lt hr]
  have Jb:Act.put ⟨tm,ds⟩ o.dst (v i w2.heap.size)=⟨tm.setIfInBounds (d i) (v i w2.heap.size),ds⟩:=by rw[hm.dst];rfl
  rw[Jb];refine ih CN.2 (fun j hj=>bI j (by simp[hj])) (fun a ha c hc=>TO a (by simp[ha]) c (by simp[hc])) _ _ _ ds _ (fun r hr=>?_) fun pos gt dO br w' hM=>?_
  .rw[hs];rcases hr with hr|hr
   .have:=Nat.lt_of_lt_of_le (az r hr) he.1;omega
   .omega
  .have Vv:∀j∈is,w2.heap.size+1<=pos j:=fun j hj=>by have:=(hM.new j hj).1;omega
   have bA:∀j∈is,j≠i:=fun j hj e=>CN.1 (e▸hj);refine h (fun j=>if j=i then w2.heap.size else pos j) gt dO br w' ⟨?_,?_,?_,?_,?_,?_,?_,?_,?_⟩
   .rw[hM.size];simp
   .intro j hj hd;rcases List.mem_cons.1 hj with rfl|hj
    .rw[if_pos rfl,hM.others (d j) (fun c hc e=>bA c hc (TO c (by simp[hc]) j (by simp) e)),ai _ _ _ _ hd]
    .rw[if_neg (bA j hj)];exact hM.slot j hj (by simpa using hd)
   .intro j hj;rw[hM.others j (fun c hc=>hj c (by simp[hc])),getD_set_ne _ _ _ (Ne.symm (hj i (by simp)))]
   .intro j hj;have Zv:=hM.env.1;rcases List.mem_cons.1 hj with rfl|hj
    .rw[if_pos rfl];have:=he.1;omega
    .rw[if_neg (bA j hj)];have:=hM.new j hj;have:=he.1;omega
   .intro a ha c hc e;rcases List.mem_cons.1 ha with ea|ha<;>rcases List.mem_cons.1 hc with ec|hc
    .rw[ea,ec]
    .rw[ea,if_pos rfl,if_neg (bA c hc)]at e;have:=Vv c hc;omega
    .rw[ec,if_pos rfl,if_neg (bA a ha)]at e;have:=Vv a ha;omega
    .rw[if_neg (bA a ha),if_neg (bA c hc)]at e;exact hM.inj a ha c hc e
   .intro j hj;rcases List.mem_cons.1 hj with rfl|hj
    .rw[if_pos rfl,hM.env.2 _ (.inr rfl),Qr]
    .rw[if_neg (bA j hj)];exact hM.heap j hj
   .refine⟨Nat.le_trans he.1 (by have:=hM.env.1;omega),fun r hr=>?_,hM.env.os.trans he.os,hM.env.out.trans he.out⟩;rw[hM.env.2 r (.inl hr),hold r (Nat.lt_of_lt_of_le (az r hr) he.1),he.2 r hr]
   .intro r;rw[hM.TN r];constructor
    .rintro((h|h)|⟨j,hj,h⟩)
     .exact .inl h
     .exact .inr ⟨i,by simp,by rw[if_pos rfl];exact h⟩
     .exact .inr ⟨j,by simp[hj],by rw[if_neg (bA j hj)];exact h⟩
    .rintro(h|⟨j,hj,h⟩)
     .exact .inl (.inl h)
     .rcases List.mem_cons.1 hj with rfl|hj
      .rw[if_pos rfl]at h;exact .inl (.inr h)
      .rw[if_neg (bA j hj)]at h;exact .inr ⟨j,hj,h⟩
   .intro r;rw[hM.Ja r];constructor
    .rintro((h|h)|⟨j,hj,h⟩)
     .exact .inl h
     .exact .inr ⟨i,by simp,by rw[if_pos rfl];exact h⟩
     .exact .inr ⟨j,by simp[hj],by rw[if_neg (bA j hj)];exact h⟩
    .rintro(h|⟨j,hj,h⟩)
     .exact .inl (.inl h)
     .rcases List.mem_cons.1 hj with rfl|hj
      .rw[if_pos rfl]at h;exact .inl (.inr h)
      .rw[if_neg (bA j hj)]at h;exact .inr ⟨j,hj,h⟩
theorem qZ {e:Nat} {dir:ChanDir} (ho:o.op=.makeChan t (.const (.int .i64 0))) (hd:o.dst=some d) (hg:o.guard=none) (ht:P.underlying t=some (.chan dir e)) (hi:P.info? e=some i):
 Bx P o d (fun r=>.chan (some r)) (.chan 0 #[] false 0 0 false):=by
 obtain⟨dst,op,ty,pos,af,gd⟩:=o;simp only at ho hd hg;subst ho;subst hd;subst hg;refine⟨rfl,rfl,fun a w=>?_,fun a w=>?_⟩
 .have:=run_makeChan (P:=P) (w:=w) ht hi .i64 0 (by decide) (by simp);show(Instr.makeChan t (.int .i64 0)>>=fun v=>pure (Next.value v)).run P w=_;have this:(Instr.makeChan t (.int .i64 0)).run P w=.ok (.chan (some w.heap.size)) (w.alloc (.chan 0 #[] false 0 0 false)):=this;simp[this]
 .have h1:=run_makeChan (P:=P) (w:=w) ht hi .i64 0 (by decide) (by simp);have h2:=events_makeChan (P:=P) (w:=w) ht hi .i64 0 (by decide) (by simp) #[];have h1:(Instr.makeChan t (.int .i64 0)).run P w=.ok (.chan (some w.heap.size)) (w.alloc (.chan 0 #[] false 0 0 false)):=h1;have h2:(Instr.makeChan t (.int .i64 0)).events P w #[]=#[]:=h2;show(Instr.makeChan t (.int .i64 0)>>=fun v=>pure (Next.value v)).events P w #[]=_;simp[h1,h2]
theorem iz {z:Value} (ho:o.op=.alloc t) (hd:o.dst=some d) (hg:o.guard=none) (hi:P.info? t=some i) (hz:i.zero=some z):
 Bx P o d (fun r=>.pointer (some ⟨r,0,none⟩)) (.cells z.cells t):=by
 obtain⟨dst,op,ty,pos,af,gd⟩:=o;simp only at ho hd hg;subst ho;subst hd;subst hg;have Mz:∀w,(zeroValue t).run P w=.ok z w:=fun w=>by simp[zeroValue,typeInfo,hi,hz]
 refine⟨rfl,rfl,fun a w=>?_,fun a w=>?_⟩
 .simp[execOp,Instr.alloc,Mz,newVar,newRow]
 .simp[execOp,Instr.alloc,Mz,newVar,newRow]
theorem eP (w:World) (a:Addr) (v:Value) (h:r≠a.block):(w.setCell a v).heap[r]?=w.heap[r]?:=by
 simp[World.setCell,Array.getElem?_modify,Ne.symm h]
theorem iA {v:Value} (h:w.heap[r]?=some (.cells #[u] e fz)):(w.setCell ⟨r,0,none⟩ v).heap[r]?=some (.cells #[v] e fz):=by
 simp[World.setCell,Array.getElem?_modify,h]
theorem cP (h:w.heap[r]?=some (.cells #[u] e fz)):w.cell? ⟨r,0,none⟩=some u:=by simp[World.cell?,h]
theorem dQ (h:w.heap[r]?=some (.cells #[u] e (0,0))):w.frozen? ⟨r,0,none⟩=false:=by simp[World.frozen?,h]
theorem fZ {kn:Nat->Prop} (a:Addr) (v:Value) (h:¬kn a.block):Env kn w (w.setCell a v):=
 ⟨by simp[World.setCell],fun r hr=>eP w a v fun e=>h (e▸hr),rfl,rfl⟩
end Go.au
namespace Go.au
open Go.Conc
open Go.ConcN (upd upd_same upd_ne sumTo)
variable {P:Program} {kn own:Nat->Prop} {t:Trace} {w:World}
structure kV (P:Program) (gs:Array Goroutine) (g:Goroutine) (kn own:Nat->Prop) (w:World) (t:Trace):Prop where
 TP:gs[0]?=some g
 run:g.status=.running
 quit:∃q,cu P gs q
 co:Co (fun g=>g=0) (fun _=>kn) (fun _=>own) w.heap.size t
theorem Jc {At:lU} (E2:∀kn own g w d,At kn own g (World.at w d)->At kn own g w) {g:Goroutine} (h:iu P At kn own g w):
 ∀gs w1 sl t,Env kn w w1->kV P gs g kn own w1 t->∃N gt dO g' w' eB fW t',runNT P N (crowd gs w1 sl) t=(.next (crowd eB w' fW),t')/\At gt dO g' w'/\kV P eB g' gt dO w' t':=by
 induction h with
 | @mk kn own g w ok go ih=>
   have key:∀n gs w1 sl t q,sumTo gs.size q=n->Env kn w w1->gs[0]?=some g->g.status=.running->cu P gs q->Co (fun g=>g=0) (fun _=>kn) (fun _=>own) w1.heap.size t->
    ∃N gt dO g' w' eB fW t',runNT P N (crowd gs w1 sl) t=(.next (crowd eB w' fW),t')/\At gt dO g' w'/\kV P eB g' gt dO w' t':=by
    intro n;induction n using Nat.strongRecOn with
    |ind n ihn=>
     intro gs w1 sl t q hn he h0 hr hq jw;by_cases hA:At kn own g w1
     .exact⟨0,kn,own,g,w1,gs,sl,t,rfl,hA,h0,hr,⟨q,hq⟩,jw⟩
     have aw:∀x∈gs,Conc.awake x:=by
      intro x hx;obtain⟨j,hj,rfl⟩:=Array.mem_iff_getElem.1 hx;have we:=Array.getElem?_eq_getElem hj;rcases Nat.eq_zero_or_pos j with rfl|gH
      .rw[h0]at we;rw[<-Option.some.inj we];exact awake_of (.inl hr)
      .exact awake_of ((hq j _ gH we).status.imp id .inr)
     obtain⟨i,x,d,fW,hi,hx,bF⟩:=crowd_pick (P:=P) (w:=w1) (sl:=sl) aw ⟨0,_,h0,hr⟩;rcases Nat.eq_zero_or_pos i with rfl|gH
     .obtain rfl:x=g:=by rw[h0]at hi;exact(Option.some.inj hi).symm
      have bP:0<gs.size:=(Array.getElem?_eq_some_iff.1 h0).1;have eQ:¬At kn own x (w1.at d):=fun h=>hA (E2 _ _ _ _ _ h);rcases ok (w1.at d) (he.trans (gW _ _ _))with h|⟨g2,w3,es,h1,h2,h3⟩
      .exact absurd h eQ
      have aP:=runT_crowd_go (P:=P) (sl:=fW) (i:=0) h0 (show stepG P (0==0) x (w1.at d)=_ from h1);rw[hq.woken h0 hr]at aP
      obtain⟨N,gt,dO,g',w',eB,I9,t',k1,k2,k3⟩:=ih (w1.at d) g2 w3 es (he.trans (gW _ _ _)) eQ h1 (gs.setIfInBounds 0 g2) w3 fW (t++MemOp.ofEvents 0 x.frame.fn x.frame.place es) (Env.refl _ _)
       ⟨aM _ bP,h2,⟨q,fun j y hj hy=>by rw[aD _ (by omega)]at hy;exact hq j y hj hy⟩,(jw.step (w:=w1.at d) (g:=0) rfl rfl h3 _ _).lone (upd_same ..) (upd_same ..)⟩
      exact⟨N+1,gt,dO,g',w',eB,I9,t',by simp only[runNT,bF.trans aP];exact k1,k2,k3⟩
     .have wh:=hq i x gH hi;have wS:(i==0)=false:=by simp;omega
      have az:i<gs.size:=(Array.getElem?_eq_some_iff.1 hi).1;cases hk:q i with
      |zero=>rw[hk]at wh;rw[show x.status=.finished from wh]at hx;cases hx
      |succ k=>
       rw[hk]at wh;rcases wh with hf|⟨_,g',hs,tn⟩
       .rw[hf]at hx;cases hx
       have aP:=runT_crowd_go (P:=P) (sl:=fW) hi (by rw[wS];exact hs (w1.at d));rw[hq.woken h0 hr]at aP;have e0:t++MemOp.ofEvents i x.frame.fn x.frame.place #[]=t:=by simp[MemOp.ofEvents]
       obtain⟨N,gt,dO,g2,w',eB,I9,t',k1,k2,k3⟩:=ihn (sumTo gs.size (upd q i k)) (by
        rw[<-hn];refine jv az ?_ fun j hj=>upd_ne _ _ hj
        rw[upd_same,hk];omega) (gs.setIfInBounds i g') (w1.at d) fW t (upd q i k) (by simp) (he.trans (gW _ _ _)) (by rw[aD _ (by omega)];exact h0) hr (fun j y hj hy=>by
         by_cases e:j=i
         .subst e;rw[aM _ az]at hy;rw[upd_same,<-Option.some.inj hy];exact tn
         .rw[aD _ e]at hy;rw[upd_ne _ _ e];exact hq j y hj hy) jw
       refine⟨N+1,gt,dO,g2,w',eB,I9,t',?_,k2,k3⟩;have:=bF.trans aP;simp only[runNT,this];rw[e0];exact k1
   intro gs w1 sl t he ha;obtain⟨q,hq⟩:=ha.quit;exact key _ gs w1 sl t q rfl he ha.TP ha.run hq ha.co
theorem Co.grow {gt dO:Nat->Prop} {B:Nat} (h:Co (fun g=>g=0) (fun _=>kn) (fun _=>own) B t) (hk:∀r,gt r->r<B) (ho:∀r,dO r->gt r):Co (fun g=>g=0) (fun _=>gt) (fun _=>dO) B t:=by
 have all:∀i a r,touchAt t i=some a->jQ a.loc r->Knows t 0 i:=fun i a r hi hr=>by
  have hm:a.loc.isMemory=true:=by rcases hr with⟨x,e,_⟩|e<;>rw[e]<;>rfl
  rcases h.ho i a hi hm with h1|⟨g,h1,h2,_⟩
  .exact h1
  .exact absurd h2 h1
 exact⟨h.clean,h.calm,fun _ _=>ho,fun _ _=>hk,fun g k hg y7 bA=>absurd (hg.trans y7.symm) bA,fun g hg i a r hi hr _ _=>hg▸all i a r hi hr,fun g hg i a r hi hr _=>hg▸all i a r hi hr,h.ho,h.low⟩
theorem Inv.Jd {G:gV P} {b:Nat} {S:St} {gs:Array Goroutine} (h:Inv G b S gs w t) (ho:jS G S w):kV P gs S.mn.g S.mn.kn S.mn.own w t:=by
 obtain⟨h1,h2,h3,h4,_⟩:=h.Qo ho;exact⟨h1,h2,⟨S.q,h3⟩,h4⟩
end Go.au
namespace Go.au
variable {f lf:Frame} {p:Pi} {top:List Frame} {w:World}
def Leaves (X:Nat->Prop) (HA:jY) (HP:dp):Prop:=
 (∀kn own f w,HA kn own f w->HA (fun r=>kn r\/X r) own f w)/\
 ∀kn own f w v w3 dW be,HP (fun r=>kn r\/X r) own f w v w3 dW be->∃TQ,HP kn own f w v w3 TQ be/\dW=(fun r=>TQ r\/X r)/\Env X w w3/\∀r,be r->own r\/¬X r
theorem CT.keep {P:Program} {main:Bool} {base:List Frame} {Fin:mO} {HA:jY} {HP:dp} (X:Nat->Prop) (hl:Leaves X HA HP) {kn own:Nat->Prop}
 (h:CT P main base Fin HA HP kn own f top w) (hX:∀r,X r->r<w.heap.size) (hd:∀r,own r->¬X r):
 CT P main base (fun _ own v w'=>(∃Ih,Fin Ih own v w')/\Env X w w') HA HP (fun r=>kn r\/X r) own f top w:=by
 have key:=CT.ind (I:=fun kn own f top w1=>(∀r,own r->¬X r)->Env X w w1->CT P main base (fun _ own v w'=>(∃Ih,Fin Ih own v w')/\Env X w w') HA HP (fun r=>kn r\/X r) own f top w1) ?_ h
 .exact key hd (Env.refl _ _)
 intro kn own f top w1 hb CO C0
 have keep:∀{w2 w3:World} {es:Array Event},Env (fun r=>kn r\/X r) w1 w2->Fair kn own w2 w3 es->Env X w w3/\∀r,aC own w2 w3 r->¬X r:=fun{w2 w3 es} he hf=>by
  have wE:Env X w w2:=C0.trans (he.mono fun r h=>.inr h);have az:∀r,X r->r<w2.heap.size:=fun r hr=>Nat.lt_of_lt_of_le (hX r hr) wE.1;refine⟨wE.trans ⟨hf.size,fun r hr=>hf.others r (az r hr) fun ho=>CO r ho hr,hf.os,hf.out⟩,fun r hr hx=>?_⟩;rcases hr with hr|hr
  .exact CO r hr hx
  .have:=az r hx;have:=hr.1;omega
 refine CT.mk fun w2 he=>?_;rcases hb w2 (he.mono fun r h=>.inl h)with⟨w3,es,f2,mP,h1,h2,h3⟩|⟨w3,es,v,b',uB,h0,h1,h2,h3⟩|⟨w3,es,v,h0,h1,h2,h3⟩|⟨h1,c,rest,h2,h3⟩
 .refine .inl ⟨w3,es,f2,mP,h1,h2.mono (fun r h=>.inl h) (fun r h=>h),?_⟩;rw[jc];obtain⟨k1,k2⟩:=keep he h2;exact h3.1 k2 k1
 .exact .inr (.inl ⟨w3,es,v,b',uB,h0,h1,h2.mono (fun r h=>.inl h) (fun r h=>h),⟨_,h3⟩,(keep he h2).1⟩)
 .exact .inr (.inr (.inl ⟨w3,es,v,h0,h1,h2.mono (fun r h=>.inl h) (fun r h=>h),⟨_,h3⟩,(keep he h2).1⟩))
 .refine .inr (.inr (.inr ⟨hl.1 _ _ _ _ h1,c,rest,h2,fun v w3 dW be hp=>?_⟩));obtain⟨TQ,q1,rfl,q3,q4⟩:=hl.2 _ _ _ _ _ _ _ _ hp;refine(h3 v w3 TQ be q1).1 (fun r hr=>?_) ((C0.trans (he.mono fun r h=>.inr h)).trans q3);rcases q4 r hr with x|x
  .exact CO r x
  .exact x
structure Lo (P:Program) (F:Array Func) (S:Nat->Bool) (e:FuncId):Prop where
 marked:S (P.funcs.size+P.globals.size)=false
 lone:∀(lf:Frame) (cs:List Frame) (v:World),nX S lf->lf.kind=.normal->∃n,1<=n/\runN P n (lone lf cs v)=.next (lone (lf.finish (.bool true)) cs v)
 comp:∀(main:Bool) (f:Frame) (cs:List Frame) (w:World),nX S f->f.kind=.normal->stepG (ag P F) main (gN f cs) w=.go (gN (Frame.enter (ag P F) e #[] .normal) (f::cs)) w #[]
def O9 (Q:Program) (e:FuncId):jY:=fun _ _ f _=>f=Frame.enter Q e #[] .normal
def tH:dp:=fun kn own _ w v w3 dW be=>v=.bool true/\Env kn w w3/\dW=kn/\be=own
section
variable {P:Program} {F:Array Func} {S:Nat->Bool} {N:Nat} {e:FuncId}
theorem nX.lone (h:jX P S Ig p lf f) (hh:nX S f):nX S lf:=by
 obtain⟨hm,o,ops,i,is,k,h1,h2,h3,h4⟩:=hh;have lS:=h.mode;rw[hm]at lS;have aP:lf.mode=.run:=by generalize lf.mode=x at lS;cases lS;rfl
 have CQ:=h.todo;rw[h1]at CQ;generalize h5:lf.todo=t at CQ;cases CQ with
 |cons hi CQ=>
  cases hi with
  |inRegion _ _=>
   refine⟨aP,o,ops,i,is,_,h5,h2,h3,?_⟩;rw[<-h4];congr 1;exact funext fun j=>oX ops h.tmps j
section
variable (Q:Program) (S:Nat->Bool) (N:Nat) (main:Bool) (base:List Frame) (Fin:mO) (HA:jY) (HP:dp)
def Nd.Je (x:Nd) (w2 w3:World):Prop:=Env (iZ x.p) w2 w3/\¬CT Q main base Fin HA HP (iZ x.p) (bJ N x.p) (x.f.finish (.bool true)) x.top w3
open Classical in
noncomputable def Nd.By (x:Nd):World:=if h:∃w3,x.Je Q N main base Fin HA HP (x.pick Q N main base Fin HA HP) w3 then h.choose else x.w
theorem Nd.zP (x:Nd) (h:∃w3,x.Je Q N main base Fin HA HP (x.pick Q N main base Fin HA HP) w3):x.Je Q N main base Fin HA HP (x.pick Q N main base Fin HA HP) (x.By Q N main base Fin HA HP):=by
 unfold Nd.By;rw[dif_pos h];exact h.choose_spec
open Classical in
noncomputable def Nd.Qs (x:Nd):Nd:=
 if nX S x.f then⟨x.p,x.L,x.f.finish (.bool true),x.top,x.By Q N main base Fin HA HP⟩
 else match x.step Q main base (x.pick Q N main base Fin HA HP)with
 |.go g w3 _=>⟨ext x.p x.L (x.pick Q N main base Fin HA HP).heap.size (w3.heap.size-(x.pick Q N main base Fin HA HP).heap.size),x.L+(w3.heap.size-(x.pick Q N main base Fin HA HP).heap.size),
    g.frame,g.callers.take (g.callers.length-base.length),w3⟩
 |_=>x
noncomputable def Nd.Lp (x:Nd):Nat->Nd
 |0=>x
 |k+1=>(Nd.Lp x k).Qs Q S N main base Fin HA HP
open Classical in
noncomputable def Nd.E7 (x:Nd):Nat:=
 if nX S x.f then 0 else(gw (x.step Q main base (x.pick Q N main base Fin HA HP))).drawn-(x.pick Q N main base Fin HA HP).drawn
noncomputable def Nd.E8 (x:Nd) (i:Nat):Question->Nat:=(x.pick Q N main base Fin HA HP).tape ((x.pick Q N main base Fin HA HP).drawn+i)
end
theorem wX (hc:Closed P F S Ig) (hg:gU P S p) {qN:List Frame} {lw:World} (hw:WR P S (KS P S) N p lw w)
 (hf:FL P S Ig p (lf::qN) (f::top)) {R:Value->World->Prop} (hl:Lo P F S e) (CS:TD P lf qN lw R fun _ _=>False) (main:Bool) (base:List Frame) (hb:MD P S main base):
 CT (ag P F) main base (qO P S N p R) (O9 (ag P F) e) tH (iZ p) (bJ N p) f top w:=by
 refine Classical.byContradiction fun Vb=>?_;let Fin:=qO P S N p R
 let HA:=O9 (ag P F) e
 let x0:Nd:=⟨p,lw.heap.size,f,top,w⟩
 have qa:¬x0.ct (ag P F) N main base Fin HA tH:=Vb;let X:=fun k=>Nd.Lp (ag P F) S N main base Fin HA tH x0 k
 let pk:=fun k=>(X k).pick (ag P F) N main base Fin HA tH
 let m:=fun k=>(X k).E7 (ag P F) S N main base Fin HA tH
 let D:=fun k=>fJ m lw.drawn k
 let start:=fun T:Nat->Question->Nat=>Go.lone lf (qN++[Base P]) {lw with tape:=T}
 have inv:∀k (T:Nat->Question->Nat),(∀j,j<k->∀i,i<m j->T (D j+i)=(X j).E8 (ag P F) N main base Fin HA tH i)->∃ν g gs v,k<=ν/\runN P ν (start T)=.next (Go.lone g (gs++[Base P]) v)/\WR P S (KS P S) N (X k).p v (X k).w/\
  FL P S Ig (X k).p (g::gs) ((X k).f::(X k).top)/\gU P S (X k).p/\v.tape=T/\v.drawn=D k/\v.heap.size=(X k).L/\(¬(X k).ct (ag P F) N main base Fin HA tH)/\Le p (X k).p:=by
  intro k;induction k with
  |zero=>intro T _;exact⟨0,lf,qN,{lw with tape:=T},Nat.le_refl _,rfl,hw.tape T lw.drawn,hf,hg,rfl,rfl,rfl,qa,Le.refl p⟩
  |succ k ih=>
   intro T hT;obtain⟨ν,g,gs,v,e0,e1,e2,e3,e4,e5,e6,e7,e8,e9⟩:=ih T fun j hj i hi=>hT j (by omega) i hi;obtain⟨uH,qM⟩:=(X k).tA (ag P F) N main base Fin HA tH e8;have wd:WR P S (KS P S) N (X k).p v (pk k):=e2.env uH;obtain⟨n,fr,w1,c1,c2⟩:=CS T
   have lC:Ends P fr w1:=by
    rcases c2 with⟨rv,h,_⟩|⟨e,ch,h,_⟩
    .exact .inl ⟨rv,h⟩
    .exact .inr ⟨_,h⟩
   obtain⟨hle,oZ⟩:=before c1 lC e1;by_cases kq:nX S (X k).f
   ·
    have sH:m k=0:=by show Nd.E7 _ _ _ _ _ _ _ _ (X k)=_;unfold Nd.E7;rw[if_pos kq]
    have CU:∃w3,(X k).Je (ag P F) N main base Fin HA tH (pk k) w3:=by
     refine Classical.byContradiction fun im=>qM (.inl ⟨pk k,#[],Frame.enter (ag P F) e #[] .normal,(X k).f::(X k).top,?_,Fair.refl (fun e h=>by simp at h),?_⟩)
     .exact hl.comp main (X k).f ((X k).top++base) (pk k) kq e3.head.jO
     .rw[aJ,aJ];refine CT.mk fun w2 he=>.inr (.inr (.inr ⟨rfl,(X k).f,(X k).top,rfl,fun v' w3 dW be hp=>?_⟩));obtain⟨rfl,wY,rfl,rfl⟩:=hp;exact Classical.byContradiction fun hx=>im ⟨w3,he.trans wY,hx⟩
    obtain⟨Qt,MJ⟩:=(X k).zP (ag P F) N main base Fin HA tH CU;obtain⟨nn,p0,p1⟩:=hl.lone g (gs++[Base P]) v (nX.lone e3.head kq) e3.head.kind
    have Er:X (k+1)=⟨(X k).p,(X k).L,(X k).f.finish (.bool true),(X k).top,(X k).By (ag P F) N main base Fin HA tH⟩:=by
     show(X k).Qs (ag P F) S N main base Fin HA tH=_;unfold Nd.Qs;rw[if_pos kq]
    rw[Er];refine⟨ν+nn,g.finish (.bool true),gs,v,by omega,by rw[runN_add,e1];exact p1,wd.env Qt,e3.top (e3.head.finish (.bool true)) (dn _ _),e4,e5,?_,e7,MJ,e9⟩;rw[e6];show D k=fJ m lw.drawn k+m k;rw[sH];rfl
   ·
    have sH:m k=(gw ((X k).step (ag P F) main base (pk k))).drawn-(pk k).drawn:=by show Nd.E7 _ _ _ _ _ _ _ _ (X k)=_;unfold Nd.E7;rw[if_neg kq]
    have zx:jP (m k) v (pk k):=fun j hj q=>by
     have:=hT k (by omega) j hj;rw[e5,e6,this];rfl
    have hd:(gw (stepG (ag P F) main {frame:=(X k).f,callers:=(X k).top++base,status:=.running,dying:=none} (pk k))).drawn<=(pk k).drawn+m k:=by
     rw[sH];show(gw ((X k).step (ag P F) main base (pk k))).drawn<=(pk k).drawn+((gw ((X k).step (ag P F) main base (pk k))).drawn-(pk k).drawn)
     omega
    have MK:=cU.step (b:=Base P) (bs:=[]) (aL:=base) hc wd e4 e3 (fun _ _ _ _ _ _ _ h=>h) kq true main hb zx hd;rcases MK with⟨o,w3,es,hs⟩|⟨q,ch,O4,w3,es,Bn,hs⟩|⟨c,nn,v1,w3,es,cH,hm,Qf,i6⟩
    .exact(uG oZ lC (step_lone_ended (o:=o) (w':=w3) (by rw[hs];rfl))).elim
    .exfalso;have bC:step P (Go.lone g (gs++[Base P]) v)=.next (Go.lone ((Base P).raise ch) [] w3):=step_lone_go (by rw[hs];rfl);obtain⟨_,hσ⟩:=uF oZ bC (eK P ch w3);rw[hσ]at bC;rcases c2 with⟨rv,h,_⟩|⟨e,Bp,h,hF,Zp⟩
     .rw[step_leave_returned h]at bC;simp only[Stepped.next.injEq]at bC;have q1:=(eE bC).1;rw[dh]at q1;have:=congrArg (fun f:Frame=>f.mode) q1;simp[Base,Frame.raise]at this
     .exact hF
    .obtain⟨qR,qf,nK⟩:=bQ.fair wd hm Qf;rcases i6 with⟨f2,I4,t2,I5,y9,hs,su⟩|⟨ML,zy,hv,hs,su⟩
     .have bC:step P (Go.lone g (gs++[Base P]) v)=.next (Go.lone f2 (t2++[Base P]) v1):=step_lone_go (by rw[hs];rfl);have lD:=qK P ν _ _ e1;rw[bC]at lD;have v8:(X k).step (ag P F) main base (pk k)=.go (gN I4 (I5++base)) w3 cH:=su
      have Er:X (k+1)=⟨ext (X k).p (X k).L (pk k).heap.size c,(X k).L+c,I4,I5,w3⟩:=by
       show(X k).Qs (ag P F) S N main base Fin HA tH=_;unfold Nd.Qs;rw[if_neg kq];have za:(X k).step (ag P F) main base ((X k).pick (ag P F) N main base Fin HA tH)=.go (gN I4 (I5++base)) w3 cH:=su;rw[za]
       have bP:w3.heap.size-((X k).pick (ag P F) N main base Fin HA tH).heap.size=c:=by
        have h6:w3.heap.size=(pk k).heap.size+c:=hm.ka;show w3.heap.size-(pk k).heap.size=c;rw[h6,Nat.add_sub_cancel_left]
       simp only[bP];congr 1;rw[List.length_append,Nat.add_sub_cancel];exact List.take_left
      rw[Er];have hrel:=hm.rel;rw[e7]at hrel y9 qf nK;have uJ:=eA (X k).p (X k).L (pk k).heap.size c;refine⟨ν+1,f2,t2,v1,by omega,lD,hrel,y9,e4.mono uJ,hm.tape.trans e5,?_,by rw[hm.size,e7],?_,e9.trans uJ⟩
      .rw[hm.drawn,e6]
       have:m k=nn:=by
        rw[sH,v8];have h5:w3.drawn=(pk k).drawn+nn:=hm.kc;show w3.drawn-(pk k).drawn=nn;rw[h5,Nat.add_sub_cancel_left]
       show D k+nn=fJ m lw.drawn k+m k;rw[this]
      .intro zz;refine qM (.inl ⟨w3,cH,I4,I5,v8,qR,?_⟩);unfold Nd.ct at zz;rw[qf,nK]at zz;exact zz
     .exfalso;have bC:step P (Go.lone g (gs++[Base P]) v)=.next (Go.lone ((Base P).finish ML) [] v1):=step_lone_go (by rw[hs];rfl);obtain⟨_,hσ⟩:=uF oZ bC (fI P ML v1);rw[hσ]at bC;rcases c2 with⟨rv,h,hR⟩|⟨e,Bp,h,hF,_⟩
      .rw[step_leave_returned h]at bC;simp only[Stepped.next.injEq]at bC;obtain⟨q1,_,q3⟩:=eE bC;rw[dh,dh]at q1
       have Ve:rv=ML:=by
        have:=congrArg (fun f:Frame=>f.tmps) q1;simpa using this
       subst Ve;subst q3;have qS:Fin (aC (iZ (X k).p) (pk k) w3) (aC (bJ N (X k).p) (pk k) w3) zy w3:=⟨_,rv,w1,hR,hv,hm.rel,e9.trans (eA _ _ _ _),qf.symm,nK.symm⟩
       rcases su with⟨b',uB,i7,su⟩|⟨i7,su⟩
       .exact qM (.inr (.inl ⟨w3,cH,zy,b',uB,i7,su,qR,qS⟩))
       .exact qM (.inr (.inr (.inl ⟨w3,cH,zy,i7,su,qR,qS⟩)))
      .exact hF
 obtain⟨T,hT⟩:=splice m (fun k j=>(X k).E8 (ag P F) N main base Fin HA tH j) lw.drawn;obtain⟨n,fr,w1,c1,c2⟩:=CS T
 have lC:Ends P fr w1:=by
  rcases c2 with⟨rv,h,_⟩|⟨e,ch,h,_⟩
  .exact .inl ⟨rv,h⟩
  .exact .inr ⟨_,h⟩
 obtain⟨ν,g,gs,v,e0,e1,_⟩:=inv (n+1) T fun j _ i hi=>hT j i hi;obtain⟨hle,_⟩:=before c1 lC e1;omega
end
end Go.au
namespace Go.au
open Go.Conc
open Go.ConcN (upd upd_same upd_ne sumTo sumTo_upd sumTo_congr le_sumTo sumTo_le)
variable {b:Frame} {bs:List Frame} {m m':Machine} {t:Trace}
def mV (P:Program) (b:Frame) (bs:List Frame) (Fin:mO) (m:Machine) (t:Trace):Prop:=
 ∃N v w3 dW be eB fW t' q',runNT P N m t=(.next (crowd eB w3 fW),t')/\Fin dW be v w3/\eB[0]?=some (gN (b.finish v) bs)/\cu P eB q'/\Co (fun g=>g=0) (fun _=>dW) (fun _=>be) w3.heap.size t'
theorem mV.step {P:Program} {Fin:mO} {ops:Array MemOp} (h:stepT P m=(.next m',ops)) (k:mV P b bs Fin m' (t++ops)):mV P b bs Fin m t:=by
 obtain⟨N,v,w3,dW,be,eB,fW,t',q',h1,h2⟩:=k;exact⟨N+1,v,w3,dW,be,eB,fW,t',q',by simp only[runNT,h];exact h1,h2⟩
theorem mV.steps {P:Program} {Fin:mO} {t':Trace} {N:Nat} (h:runNT P N m t=(.next m',t')) (k:mV P b bs Fin m' t'):mV P b bs Fin m t:=by
 obtain⟨M,v,w3,dW,be,eB,fW,t',q',h1,h2⟩:=k;exact⟨N+M,v,w3,dW,be,eB,fW,t',q',by rw[runNT_add,h];exact h1,h2⟩
section
variable {P:Program} {Fin:mO} {HA:jY} {HP:dp} {b0:Frame} {zQ:List Frame}
theorem zR (zJ:uN P HA HP) (E2:∀kn own f w d,HA kn own f (World.at w d)->HA kn own f w) (Qp:∀kn own f w d v w3 dW be,HP kn own f w v w3 dW be->HP kn own f (World.at w d) v w3 dW be)
 {kn own:Nat->Prop} {f:Frame} {top:List Frame} {w:World} (h:CT P true (b0::zQ) Fin HA HP kn own f top w):
 ∀gs w1 sl t q,Env kn w w1->gs[0]?=some (gN f (top++b0::zQ))->cu P gs q->Co (fun g=>g=0) (fun _=>kn) (fun _=>own) w1.heap.size t->mV P b0 zQ Fin (crowd gs w1 sl) t:=by
 refine CT.ind (I:=fun kn own f top w=>∀gs w1 sl t q,Env kn w w1->gs[0]?=some (gN f (top++b0::zQ))->cu P gs q->Co (fun g=>g=0) (fun _=>kn) (fun _=>own) w1.heap.size t->mV P b0 zQ Fin (crowd gs w1 sl) t) ?_ h;intro kn own f top w jb
 have key:∀n gs w1 sl t q,sumTo gs.size q=n->Env kn w w1->gs[0]?=some (gN f (top++b0::zQ))->cu P gs q->Co (fun g=>g=0) (fun _=>kn) (fun _=>own) w1.heap.size t->mV P b0 zQ Fin (crowd gs w1 sl) t:=by
  intro n;induction n using Nat.strongRecOn with
  |ind n ih=>
   intro gs w1 sl t q hn he h0 hq jw
   have pay:HA kn own f w1->∀c rest,top=c::rest->(∀v w3 dW be,HP kn own f w1 v w3 dW be->(∀gs w1 sl t q,Env dW w3 w1->gs[0]?=some (gN (c.finish v) (rest++b0::zQ))->cu P gs q->Co (fun g=>g=0) (fun _=>dW) (fun _=>be) w1.heap.size t->mV P b0 zQ Fin (crowd gs w1 sl) t))->mV P b0 zQ Fin (crowd gs w1 sl) t:=by
    intro hA c rest ju hc;subst ju;obtain⟨N,v,w3,dW,be,eB,fW,t',q',p1,p2,p3,p4,p5⟩:=zJ kn own f c (rest++b0::zQ) w1 gs sl t q h0 hq jw hA;exact(hc v w3 dW be p2 eB w3 fW t' q' (Env.refl _ _) p3 p4 p5).steps p1
   have aw:∀g∈gs,Conc.awake g:=by
    intro g hg;obtain⟨j,hj,rfl⟩:=Array.mem_iff_getElem.1 hg;have we:=Array.getElem?_eq_getElem hj;rcases Nat.eq_zero_or_pos j with rfl|gH
    .rw[h0]at we;rw[<-Option.some.inj we];exact awake_of (.inl rfl)
    .exact awake_of ((hq j _ gH we).status.imp id .inr)
   obtain⟨i,g,d,fW,hi,hg,bF⟩:=crowd_pick (P:=P) (w:=w1) (sl:=sl) aw ⟨0,_,h0,rfl⟩;rcases Nat.eq_zero_or_pos i with rfl|gH
   .obtain rfl:g=gN f (top++b0::zQ):=by rw[h0]at hi;exact(Option.some.inj hi).symm
    have bP:0<gs.size:=(Array.getElem?_eq_some_iff.1 h0).1;rcases jb (w1.at d) (he.trans (gW _ _ _))with⟨w3,es,f2,mP,h1,h2,h3⟩|⟨w3,es,v,b,bs,IV,h1,h2,h3⟩|⟨w3,es,v,IV,h1,h2,h3⟩|⟨h1,c,rest,ju,h2⟩
    .have aP:=runT_crowd_go (P:=P) (sl:=fW) (i:=0) h0 (show stepG P (0==0) (gN f (top++b0::zQ)) (w1.at d)=_ from h1);rw[hq.woken h0 rfl]at aP;refine mV.step (bF.trans aP) (h3.1 _ w3 fW _ q (Env.refl _ _) (aM _ bP) (fun j x hj hx=>?_) ?_)
     .rw[aD _ (by omega)]at hx;exact hq j x hj hx
     .exact(jw.step (w:=w1.at d) (g:=0) rfl rfl h2 _ _).lone (upd_same ..) (upd_same ..)
    .obtain⟨rfl,rfl⟩:b0=b/\zQ=bs:=by simpa using IV
     have aP:=runT_crowd_go (P:=P) (sl:=fW) (i:=0) h0 (show stepG P (0==0) (gN f (top++b0::zQ)) (w1.at d)=_ from h1);rw[hq.woken h0 rfl]at aP;refine mV.step (bF.trans aP) ⟨0,v,w3,_,_,_,fW,_,q,rfl,h3,aM _ bP,fun j x hj hx=>?_,(jw.step (w:=w1.at d) (g:=0) rfl rfl h2 _ _).lone (upd_same ..) (upd_same ..)⟩;rw[aD _ (by omega)]at hx;exact hq j x hj hx
    .cases IV
    .exact pay (E2 _ _ _ _ _ h1) c rest ju fun v w3 dW be hp=>(h2 v w3 dW be (Qp _ _ _ _ _ _ _ _ _ hp)).1
   .have wh:=hq i g gH hi;have wS:(i==0)=false:=by simp;omega
    have az:i<gs.size:=(Array.getElem?_eq_some_iff.1 hi).1;cases hk:q i with
    |zero=>rw[hk]at wh;rw[show g.status=.finished from wh]at hg;cases hg
    |succ k=>
     rw[hk]at wh;rcases wh with hf|⟨_,g',hs,tn⟩
     .rw[hf]at hg;cases hg
     have aP:=runT_crowd_go (P:=P) (sl:=fW) hi (by rw[wS];exact hs (w1.at d));rw[hq.woken h0 rfl]at aP;have e0:t++MemOp.ofEvents i g.frame.fn g.frame.place #[]=t:=by simp[MemOp.ofEvents]
     refine mV.step (bF.trans aP) ?_;rw[e0];refine ih (sumTo gs.size (upd q i k)) ?_ _ (w1.at d) fW t (upd q i k) (by simp) (he.trans (gW _ _ _)) ?_ (fun j x hj hx=>?_) jw
     .rw[<-hn];refine jv az ?_ fun j hj=>upd_ne _ _ hj;rw[upd_same,hk];omega
     .rw[aD _ (by omega)];exact h0
     .by_cases e:j=i
      .subst e;rw[aM _ az]at hx;rw[upd_same,<-Option.some.inj hx];exact tn
      .rw[aD _ e]at hx;rw[upd_ne _ _ e];exact hq j x hj hx
 intro gs w1 sl t q he h0 hq jw;exact key _ gs w1 sl t q rfl he h0 hq jw
end
end Go.au
namespace Go.au
theorem CT.Qu {P:Program} {main:Bool} {base:List Frame} {Fin:mO} {e:FuncId} (X:Nat->Prop) {kn own:Nat->Prop} {f:Frame} {top:List Frame} {w:World}
 (h:CT P main base Fin (O9 P e) tH kn own f top w) (hX:∀r,X r->r<w.heap.size) (hd:∀r,own r->¬X r):
 CT P main base (fun _ own v w'=>(∃Ih,Fin Ih own v w')/\Env X w w') (fun kn own f w1=>O9 P e kn own f w1/\(∀r,X r->kn r)/\Env X w w1) tH (fun r=>kn r\/X r) own f top w:=by
 have key:=CT.ind (I:=fun kn own f top w1=>(∀r,own r->¬X r)->Env X w w1->CT P main base (fun _ own v w'=>(∃Ih,Fin Ih own v w')/\Env X w w') (fun kn own f w1=>O9 P e kn own f w1/\(∀r,X r->kn r)/\Env X w w1) tH (fun r=>kn r\/X r) own f top w1) ?_ h
 .exact key hd (Env.refl _ _)
 intro kn own f top w1 hb CO C0
 have keep:∀{w2 w3:World} {es:Array Event},Env (fun r=>kn r\/X r) w1 w2->Fair kn own w2 w3 es->Env X w w3/\∀r,aC own w2 w3 r->¬X r:=fun{w2 w3 es} he hf=>by
  have wE:Env X w w2:=C0.trans (he.mono fun r h=>.inr h);have az:∀r,X r->r<w2.heap.size:=fun r hr=>Nat.lt_of_lt_of_le (hX r hr) wE.1;refine⟨wE.trans ⟨hf.size,fun r hr=>hf.others r (az r hr) fun ho=>CO r ho hr,hf.os,hf.out⟩,fun r hr hx=>?_⟩;rcases hr with hr|hr
  .exact CO r hr hx
  .have:=az r hx;have:=hr.1;omega
 refine CT.mk fun w2 he=>?_;rcases hb w2 (he.mono fun r h=>.inl h)with⟨w3,es,f2,mP,h1,h2,h3⟩|⟨w3,es,v,b',uB,h0,h1,h2,h3⟩|⟨w3,es,v,h0,h1,h2,h3⟩|⟨h1,c,rest,h2,h3⟩
 .refine .inl ⟨w3,es,f2,mP,h1,h2.mono (fun r h=>.inl h) (fun r h=>h),?_⟩;rw[jc];obtain⟨k1,k2⟩:=keep he h2;exact h3.1 k2 k1
 .exact .inr (.inl ⟨w3,es,v,b',uB,h0,h1,h2.mono (fun r h=>.inl h) (fun r h=>h),⟨_,h3⟩,(keep he h2).1⟩)
 .exact .inr (.inr (.inl ⟨w3,es,v,h0,h1,h2.mono (fun r h=>.inl h) (fun r h=>h),⟨_,h3⟩,(keep he h2).1⟩))
 .have wE:Env X w w2:=C0.trans (he.mono fun r h=>.inr h);refine .inr (.inr (.inr ⟨⟨h1,fun r hr=>.inr hr,wE⟩,c,rest,h2,fun v w3 dW be hp=>?_⟩));obtain⟨rfl,q2,rfl,rfl⟩:=hp;exact(h3 (.bool true) w3 kn be ⟨rfl,q2.mono fun r h=>.inl h,rfl,rfl⟩).1 CO (wE.trans (q2.mono fun r h=>.inr h))
def rowsOf (w:World):Pi:=⟨fun r r'=>r=r'/\∃c e fz,w.heap[r]?=some (.cells c e fz),fun _ _=>False,false⟩
open Classical in
theorem Jf {S:Nat->Bool} (hJ:S JK=true) (p:Pi) (hl:p.l=false):∀(n:Nat) (v':Value),SizeOf.sizeOf v'<n->∃v,VR S p v v'/\(VR S p v' v'->v=v'):=by
 intro n;induction n with
 |zero=>intro v' h;omega
 |succ n ih=>
  intro v' hn;by_cases hs:VR S p v' v'
  .exact⟨v',hs,fun _=>rfl⟩
  have bI:∀xs:Array Value,SizeOf.sizeOf xs<n->∃ys:Array Value,AR S p ys xs:=by
   intro xs hx
   have hm:∀x∈xs,∃v,VR S p v x:=fun x hxm=>by
    have:=Array.sizeOf_lt_of_mem hxm;obtain⟨v,h,_⟩:=ih x (by omega);exact⟨v,h⟩
   let g:Value->Value:=fun x=>if h:∃v,VR S p v x then h.choose else x
   refine⟨xs.map g,by simp,fun i a b ha hb=>?_⟩;rw[Array.getElem?_map,hb]at ha;simp only[Option.map_some,Option.some.injEq]at ha;subst ha;have h:=hm b (Array.mem_of_getElem? hb);show VR S p (if h:∃v,VR S p v b then h.choose else b) b;rw[dif_pos h];exact h.choose_spec
  cases hj:K4 v' with
  |true=>exact⟨.tuple #[],.nO hl hJ hj,fun h=>absurd h hs⟩
  |false=>
   cases v' with
   |bool b=>exact absurd (.bool b) hs
   |int k n=>exact absurd (.int k n) hs
   |string s=>exact absurd (.string s) hs
   |chan c=>exact absurd (.chan c) hs
   |nilFunc=>exact absurd .nilFunc hs
   |nilIface=>exact absurd .nilIface hs
   |pointer a=>cases a with
    |none=>exact absurd .sy hs
    |some a=>cases hj
   |slice a l c=>cases a with
    |none=>exact absurd (.cI l c) hs
    |some a=>cases hj
   |map a=>cases a with
    |none=>exact absurd .sA hs
    |some a=>cases hj
   |func f xs ys=>cases f with
    |method n=>exact⟨MF,.zi hl hJ n xs ys,fun h=>absurd h hs⟩
    |_=>cases hj
   |agg xs=>
    obtain⟨ys,hy⟩:=bI xs (by simp only[Value.agg.sizeOf_spec]at hn;omega);exact⟨_,hy.agg,fun h=>absurd h hs⟩
   |tuple xs=>
    obtain⟨ys,hy⟩:=bI xs (by simp only[Value.tuple.sizeOf_spec]at hn;omega);exact⟨_,hy.tuple,fun h=>absurd h hs⟩
   |_=>cases hj
open Classical in
noncomputable def dz (S:Nat->Bool) (p:Pi) (v':Value):Value:=if h:∃v,VR S p v v'/\(VR S p v' v'->v=v')then h.choose else v'
theorem Bz {S:Nat->Bool} (hJ:S JK=true) (p:Pi) (hl:p.l=false) (v':Value):VR S p (dz S p v') v'/\(VR S p v' v'->dz S p v'=v'):=by
 have h:=Jf hJ p hl (SizeOf.sizeOf v'+1) v' (by omega);unfold dz;rw[dif_pos h];exact h.choose_spec
noncomputable def Vw (S:Nat->Bool) (p:Pi):Obj->Obj
 |.cells c e _=>.cells (c.map (dz S p)) e (0,c.size)
 |o=>o
noncomputable def io (S:Nat->Bool) (w:World):World:={w with heap:=w.heap.map (Vw S (rowsOf w))}
section
variable {P:Program} {S:Nat->Bool} {w:World}
theorem wZ:(io S w).heap.size=w.heap.size:=by show(w.heap.map _).size=_;simp
theorem uQ {r:Nat} {c:Array Value} {e:TypeId} {fz:Nat×Nat} (h:w.heap[r]?=some (.cells c e fz)):(io S w).heap[r]?=some (.cells (c.map (dz S (rowsOf w))) e (0,c.size)):=by
 show(w.heap.map _)[r]?=_;rw[Array.getElem?_map,h];rfl
theorem M3 (hJ:S JK=true) (hg:P.globals.size<=w.heap.size):WR P S (KS P S) w.heap.size (rowsOf w) (io S w) w:=by
 refine⟨fun r r' s s' x y=>by rw[<-x.1,<-y.1],fun r r' x=>?_,by rw[wZ];exact Nat.le_refl _,fun r r' x=>by rw[x.1],by rw[wZ];exact hg,hg,rfl,fun _ _ h=>h⟩;obtain⟨rfl,c,e,fz,h⟩:=x;refine⟨_,_,uQ h,h,.inl ⟨(Array.getElem?_eq_some_iff.1 h).1,c.map (dz S (rowsOf w)),c,e,fz,by simp,rfl,by simp,fun i a b ha hb=>?_⟩⟩;rw[Array.getElem?_map,hb]at ha;simp only[Option.map_some,Option.some.injEq]at ha;subst ha;exact(Bz hJ _ rfl b).1
theorem ku (hJ:S JK=true) {a:Addr} {v:Value} (h:w.cell? a=some v) (hv:VR S (rowsOf w) v v):(io S w).cell? a=some v:=by
 unfold World.cell? at h⊢;split at h
 .rename_i c e fz hx;rw[uQ hx];simp only;split at h
  .cases h
  .rename_i lj;rw[if_neg lj,Array.getElem?_map,h];simp only[Option.map_some,Option.some.injEq];exact(Bz hJ _ rfl v).2 hv
 .cases h
end
end Go.au
