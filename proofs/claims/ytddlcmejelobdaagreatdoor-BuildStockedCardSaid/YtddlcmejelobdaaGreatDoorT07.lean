/- A part. Conditions: none. -/
import Derived.Test.YtddlcmejelobdaaGreatDoorT06
import Derived.ChangeMade
set_option linter.all false
namespace Go.aq
open Go.Made
variable {P:Program} {i:TypeInfo} {info:TypeId->Option TypeInfo} {v:Value}
def flat (v:Value):Prop:=∀x∈v.cells,plain 5 x=true
theorem Bo:∀(n:Nat) (v:Value),plain n v=true->plain (n+1) v=true:=by
 intro n;induction n with
 |zero=>
  intro v h;cases v;case pointer a=>cases a<;>first|rfl|(simp[aq.plain]at h;done)
  case slice a l c=>cases a<;>first|rfl|(simp[aq.plain]at h;done)
  case map a=>cases a<;>first|rfl|(simp[aq.plain]at h;done)
  case chan a=>cases a<;>first|rfl|(simp[aq.plain]at h;done)
  all_goals first|rfl|(simp[aq.plain]at h;done)
 |succ n ih=>
  intro v h;cases v;case pointer a=>cases a<;>first|rfl|(simp[aq.plain]at h;done)
  case slice a l c=>cases a<;>first|rfl|(simp[aq.plain]at h;done)
  case map a=>cases a<;>first|rfl|(simp[aq.plain]at h;done)
  case chan a=>cases a<;>first|rfl|(simp[aq.plain]at h;done)
  case iface t v=>exact ih v h
  case agg xs=>
   have h:xs.all (aq.plain n)=true:=h;show xs.all (aq.plain (n+1))=true;exact Array.all_eq_true.2 fun i hi=>ih _ (Array.all_eq_true.1 h i hi)
  case tuple xs=>
   have h:xs.all (aq.plain n)=true:=h;show xs.all (aq.plain (n+1))=true;exact Array.all_eq_true.2 fun i hi=>ih _ (Array.all_eq_true.1 h i hi)
  all_goals first|rfl|(simp[aq.plain]at h;done)
theorem rP {n m:Nat} (Kw:n<=m) (h:plain n v=true):plain m v=true:=by
 induction Kw with
 |refl=>exact h
 |step _ ih=>exact Bo _ _ ih
theorem flat.plain (h:flat v):plain 50 v=true:=by
 unfold flat at h;cases v with
 |agg xs=>
  show xs.all (aq.plain 49)=true;exact Array.all_eq_true.2 fun i hi=>rP (by omega) (h _ (Array.getElem_mem hi))
 |_=>exact rP (by omega) (h _ (by simp[Value.cells]))
theorem E9 {α β:Type} (f:α->β->Option (ForInStep β)) (I:β->Prop) (hf:∀a b r,I b->f a b=some r->I (match r with|.yield b=>b|.done b=>b)):∀(l:List α) (b r:β),I b->forIn l b f=some r->I r:=by
 intro l;induction l with
 |nil=>intro b r hb h;simp only[List.forIn_nil,pure,Option.some.injEq]at h;exact h▸hb
 |cons a l ih=>
  intro b r hb h;simp only[List.forIn_cons,bind,Option.bind_eq_some_iff]at h;obtain⟨s,hs,h⟩:=h;have:=hf a b s hb hs;cases s with
  |done b'=>simp only[pure,Option.some.injEq]at h;exact h▸this
  |yield b'=>exact ih b' r this h
def H6 (info:TypeId->Option TypeInfo):Prop:=∀t i v,info t=some i->i.zero=some v->flat v
theorem nO (hi:H6 info) {fs:Array Field} (h:reckonStruct info fs=some i) (hv:i.zero=some v):flat v:=by
 unfold reckonStruct at h;simp only[bind,Option.bind_eq_some_iff,pure]at h;obtain⟨a,ha,h⟩:=h;rw[<-Array.forIn_toList]at ha;have key:=E9 _ (fun s:Array Field×Nat×Nat×Nat×Nat×Bool×Bool×Option (Array Value)×String=>∀z,s.2.2.2.2.2.2.2.1=some z->∀x∈z,aq.plain 5 x=true) ?_ _ _ _ ?_ ha
 .split at h
  all_goals
   simp only[Option.some.injEq]at h;subst h;simp only[Option.map_eq_some_iff]at hv;obtain⟨z,hz,rfl⟩:=hv;exact key z hz
 .intro f b r hb hr;simp only[Option.bind_eq_some_iff]at hr;obtain⟨j,hj,hr⟩:=hr
  have fin:∀z,(b.2.2.2.2.2.2.2.1.bind fun z0=>j.zero.bind fun z1=>some (z0++z1.cells))=some z->∀x∈z,aq.plain 5 x=true:=by
   intro z hz;simp only[Option.bind_eq_some_iff,Option.some.injEq]at hz;obtain⟨z0,h0,z1,h1,rfl⟩:=hz;intro x hx;rcases Array.mem_append.1 hx with hx|hx
   .exact hb z0 h0 x hx
   .exact hi _ _ _ hj h1 x hx
  repeat' split at hr
  all_goals(try(simp only[Option.bind_none,reduceCtorEq]at hr;done))
  all_goals(try simp only[Option.bind_eq_some_iff]at hr)
  all_goals(obtain⟨_,_,hr⟩:=hr;simp only[Option.some.injEq]at hr;subst hr;intro z hz;first|(cases hz;done)|exact fin z hz)
 .intro z hz;simp only[Option.some.injEq]at hz;subst hz;simp
theorem yB (hi:H6 info) {d:TypeDesc} (h:reckon info d=some i) (hv:i.zero=some v):flat v:=by
 have one:∀u:Value,aq.plain 0 u=true->flat u:=fun u hu x hx=>by
  cases u<;>first|(simp only[Value.cells,List.mem_toArray,List.mem_singleton]at hx;subst hx;exact rP (Nat.zero_le _) hu)|(cases hu;done)
 cases d with
 |struct fs=>exact nO hi h hv
 |array n e=>
  simp only[reckon,bind,Option.bind_eq_some_iff,pure,Option.some.injEq]at h;obtain⟨j,hj,s,_,rfl⟩:=h;simp only at hv;split at hv
  .cases hv
  .split at hv
   .simp only[Option.some.injEq]at hv;subst hv;intro x hx;simp[Value.cells]at hx
   .simp only[Option.map_eq_some_iff]at hv;obtain⟨z,hz,rfl⟩:=hv;intro x hx;simp only[Value.cells,Array.mem_flatten,Array.mem_replicate]at hx;obtain⟨y,⟨_,rfl⟩,hx⟩:=hx;exact hi _ _ _ hj hz x hx
 |pointer e=>
  simp only[reckon,bind,Option.bind_eq_some_iff,pure]at h;obtain⟨j,hj,h⟩:=h;repeat' split at h
  all_goals(try(cases h;done))
  all_goals(simp only[Option.bind_eq_some_iff,Option.some.injEq]at h;obtain⟨_,_,rfl⟩:=h;simp only[word,Option.some.injEq]at hv;subst hv;exact one _ rfl)
 |_=>
  first
  |(simp only[reckon,reduceCtorEq]at h;done)
  |(simp only[reckon,bind,Option.bind_eq_some_iff,pure,Option.some.injEq]at h;obtain⟨_,_,_,_,rfl⟩:=h;simp only[word,Option.some.injEq]at hv;subst hv;exact one _ rfl)
  |(simp only[reckon,bind,Option.bind_eq_some_iff,pure,Option.some.injEq]at h;obtain⟨_,_,_,_,_,_,_,_,rfl⟩:=h;simp only[word,Option.some.injEq]at hv;subst hv;exact one _ rfl)
  |(simp only[reckon,bind,Option.bind_eq_some_iff,pure,Option.some.injEq]at h;obtain⟨_,_,rfl⟩:=h;simp only[word,Option.some.injEq]at hv;subst hv;exact one _ rfl)
def uq (T:Tables):Bool:=T.types.all fun i=>match i.zero with|some v=>v.cells.all (aq.plain 5)|none=>true
theorem yC {T:Tables} (h:uq T=true):∀f,H6 (infoAt T f):=by
 have low:∀(t:Nat) (i:TypeInfo) (v:Value),T.types[t]?=some i->i.zero=some v->flat v:=by
  intro t i v ht hv;obtain⟨ar,he⟩:=Array.getElem?_eq_some_iff.1 ht;have:=Array.all_eq_true.1 h t ar;rw[he]at this;simp only[hv]at this;intro x hx;obtain⟨k,hk,rfl⟩:=Array.mem_iff_getElem.1 hx;exact Array.all_eq_true.1 this k hk
 intro f;induction f with
 |zero=>intro t i v ht;cases ht
 |succ f ih=>
  intro t i v ht hv;unfold infoAt at ht;split at ht
  .exact low t i v ht hv
  .simp only[Option.bind_eq_some_iff]at ht;obtain⟨d,_,ht⟩:=ht;exact yB ih ht hv
theorem H7 (h:uq P.toTables=true):bc P:=by
 intro t i v ht hv;have ht:Tables.info? P.toTables t=some i:=ht
 have:infoAt P.toTables depth t=some i:=by
  unfold Tables.info? at ht;split at ht
  .unfold depth infoAt;rw[if_pos (by assumption)];exact ht
  .exact ht
 exact(yC h depth t i v this hv).plain
def Bp (T:Tables):Bool:=T.types.all fun i=>match i.desc with|.named n _=>!(n== "sync.copyChecker")|_=>true
theorem Bq (h:Bp P.toTables=true):aI P:=by
 intro t i u ht hd;have ht:Tables.info? P.toTables t=some i:=ht;by_cases ar:t<P.types.size
 .unfold Tables.info? at ht;rw[if_pos ar]at ht;obtain⟨ar,he⟩:=Array.getElem?_eq_some_iff.1 ht;have:=Array.all_eq_true.1 h t ar;rw[he,hd]at this;simp at this
 .have:=Tables.info?_beyond ar ht;rw[hd]at this;cases this
end Go.aq
namespace Go.aq
open Go.Conc
variable {P:Program} {d r t:Nat} {e:TypeId} {fz:Nat×Nat} {i:TypeInfo} {o:Oper} {ops:Array Oper} {u:Value} {w:World}
def GO (m:Region.Mode) (ops:Array Oper) (listed:Array Bool):List Nat:=
 (List.range ops.size).filter fun i=>!listed.getD i true&&((ops[i]?).map (·.after.all fun e=>!Region.binds m e||listed.getD e.on false)).getD false
inductive N3 (m:Region.Mode) (ops:Array Oper):Nat->Array Bool->List Nat->Prop
 |stop {n:Nat} {listed:Array Bool} (h:n=0\/GO m ops listed=[]):N3 m ops n listed []
 |next {n i:Nat} {listed:Array Bool} {l:List Nat} (h:i∈GO m ops listed) (t:N3 m ops n (listed.setIfInBounds i true) l):N3 m ops (n+1) listed (i::l)
theorem PQ (m:Region.Mode) (ops:Array Oper):∀(n t:Nat) (listed:Array Bool) (acc:List Nat),∃l,Region.linearise.go m ops n t listed acc=acc.reverse++l/\N3 m ops n listed l:=by
 intro n;induction n with
 |zero=>intro t listed acc;exact⟨[],by simp[Region.linearise.go],.stop (.inl rfl)⟩
 |succ n ih=>
  intro t listed acc;unfold Region.linearise.go;have e:((List.range ops.size).filter fun i=>!listed.getD i true&&((ops[i]?).map (·.after.all fun e=>!Region.binds m e||listed.getD e.on false)).getD false)=GO m ops listed:=rfl;simp only[e];cases hi:(GO m ops listed)[t%(GO m ops listed).length]? with
  |none=>
   refine⟨[],by simp,.stop (.inr ?_)⟩;cases hr:GO m ops listed with
   |nil=>rfl
   |cons a l=>
    rw[hr]at hi;have:t%(a::l).length<(a::l).length:=Nat.mod_lt _ (by simp);rw[List.getElem?_eq_getElem this]at hi;cases hi
  |some i=>
   obtain⟨l,h1,h2⟩:=ih (t/(GO m ops listed).length) (listed.setIfInBounds i true) (i::acc);exact⟨i::l,by simp only[];rw[h1];simp,.next (List.mem_of_getElem? hi) h2⟩
theorem Bs (m:Region.Mode) (ops:Array Oper) (t:Nat):N3 m ops ops.size (Array.replicate ops.size false) (Region.linearise m ops t):=by
 obtain⟨l,h1,h2⟩:=PQ m ops ops.size t (Array.replicate ops.size false) [];unfold Region.linearise;rw[h1];exact h2
def jT (m:Region.Mode) (ops:Array Oper):Nat->Array Bool->List (List Nat)
 |0,_=>[[]]
 |n+1,listed=>if(GO m ops listed).isEmpty then [[]]else(GO m ops listed).flatMap fun i=>(jT m ops n (listed.setIfInBounds i true)).map (i::·)
theorem pM {m:Region.Mode} {n:Nat} {listed:Array Bool} {l:List Nat} (h:N3 m ops n listed l):l∈jT m ops n listed:=by
 induction h with
 | @stop n listed h=>
   cases n with
   |zero=>simp[jT]
   |succ n=>
    rcases h with h|h
    .omega
    .simp[jT,h]
 | @next n i listed l h _ ih=>
   simp only[jT];split
   .rename_i he;rw[List.isEmpty_iff]at he;rw[he]at h;cases h
   .simp only[List.mem_flatMap,List.mem_map];exact⟨_,h,_,ih,rfl⟩
structure Dr (P:Program) (o:Oper) (d:Nat) (v:Nat->Value) (x:Obj):Prop where
 dst:o.dst=some d
 guard:o.guard=none
 run:∀(a:Act) (w:World),(execOp a.eval o).run P w=.ok (.value (v w.heap.size)) (w.alloc x)
 ev:∀(a:Act) (w:World),(execOp a.eval o).events P w #[]=#[]
structure Made (ops:Array Oper) (d:Nat->Nat) (v:Nat->Nat->Value) (x:Nat->Obj) (is:List Nat) (kn own:Nat->Prop) (tm:Array Value) (w:World) (pos:Nat->Nat) (gV dX:Nat->Prop) (bA:Array Value) (w':World):Prop where
 size:bA.size=tm.size
 slot:∀i∈is,d i<tm.size->bA.getD (d i) undef=v i (pos i)
 others:∀j,(∀i∈is,d i≠j)->bA.getD j undef=tm.getD j undef
 new:∀i∈is,w.heap.size<=pos i/\pos i<w'.heap.size
 inj:∀i∈is,∀j∈is,pos i=pos j->i=j
 heap:∀i∈is,w'.heap[pos i]?=some (x i)
 env:Env kn w w'
 Xb:∀r,gV r↔kn r\/∃i∈is,r=pos i
 Ly:∀r,dX r↔own r\/∃i∈is,r=pos i
theorem ae (a:Array Value) (i:Nat) (v u:Value) (h:i<a.size):(a.setIfInBounds i v).getD i u=v:=by
 rw[Array.getD_eq_getD_getElem?,aO _ h];rfl
theorem getD_set_ne (a:Array Value) {i j:Nat} (v u:Value) (h:j≠i):(a.setIfInBounds i v).getD j u=a.getD j u:=by
 rw[Array.getD_eq_getD_getElem?,Array.getD_eq_getD_getElem?,aF _ h]
theorem Tree.makes {main:Bool} {K:mL} (T:Tree P main K) {b:Frame} {k:List Item} {cs:List Frame} {rest:List Nat} (hk:b.kind≠ .early) {d:Nat->Nat} {v:Nat->Nat->Value} {x:Nat->Obj}:
 ∀(is:List Nat),is.Nodup->(∀i∈is,∃o,ops[i]?=some o/\Dr P o (d i) (v i) (x i))->(∀i∈is,∀j∈is,d i=d j->i=j)->∀(kn own:Nat->Prop) (tm:Array Value) (ds:List Deferred) (w:World),(∀r,kn r->r<w.heap.size)->
  (∀pos gV dX bA w',Made ops d v x is kn own tm w pos gV dX bA w'->K gV dX (G (b.at ⟨bA,ds⟩ (.inRegion ops rest::k)) cs) w')->
  K kn own (G (b.at ⟨tm,ds⟩ (.inRegion ops (is++rest)::k)) cs) w:=by
 intro is;induction is with
 |nil=>
  intro _ _ _ kn own tm ds w _ h;exact h (fun _=>0) kn own tm w ⟨rfl,fun i hi=>by simp at hi,fun _ _=>rfl,fun i hi=>by simp at hi,fun i hi=>by simp at hi,fun i hi=>by simp at hi,Env.refl _ _,fun r=>by simp,fun r=>by simp⟩
 |cons i is ih=>
  intro xB bG Su kn own tm ds w ar h;obtain⟨o,ho,hm⟩:=bG i (by simp);rw[List.nodup_cons]at xB;refine T.op (i:=i) (rest:=is++rest) ho (by unfold Region.wanted;rw[hm.guard]) hk fun w2 he=>⟨_,_,hm.run _ w2,by rw[hm.ev];exact Fair.alloc _,?_⟩
  rw[iT,iT];have hs:(w2.alloc (x i)).heap.size=w2.heap.size+1:=by show(w2.heap.push (x i)).size=_;simp
  have TW:(w2.alloc (x i)).heap[w2.heap.size]?=some (x i):=by show(w2.heap.push (x i))[w2.heap.size]?=_;simp
  have hold:∀r,r<w2.heap.size->(w2.alloc (x i)).heap[r]?=w2.heap[r]?:=fun r hr=>by
   show(w2.heap.push (x i))[r]?=_;simp[Array.getElem?_push,Nat.ne_of_lt hr]
  have Lz:Act.put ⟨tm,ds⟩ o.dst (v i w2.heap.size)=⟨tm.setIfInBounds (d i) (v i w2.heap.size),ds⟩:=by rw[hm.dst];rfl
  rw[Lz];refine ih xB.2 (fun j hj=>bG j (by simp[hj])) (fun a ha c hc=>Su a (by simp[ha]) c (by simp[hc])) _ _ _ ds _ (fun r hr=>?_) fun pos gV dX bA w' hM=>?_
  .rw[hs];rcases hr with hr|hr
   .have:=Nat.lt_of_lt_of_le (ar r hr) he.1;omega
   .omega
  .have hpi:∀j∈is,w2.heap.size+1<=pos j:=fun j hj=>by have:=(hM.new j hj).1;omega
   have bC:∀j∈is,j≠i:=fun j hj e=>xB.1 (e▸hj);refine h (fun j=>if j=i then w2.heap.size else pos j) gV dX bA w' ⟨?_,?_,?_,?_,?_,?_,?_,?_,?_⟩
   .rw[hM.size];simp
   .intro j hj hd;rcases List.mem_cons.1 hj with rfl|hj
    .rw[if_pos rfl,hM.others (d j) (fun c hc e=>bC c hc (Su c (by simp[hc]) j (by simp) e)),ae _ _ _ _ hd]
    .rw[if_neg (bC j hj)];exact hM.slot j hj (by simpa using hd)
   .intro j hj;rw[hM.others j (fun c hc=>hj c (by simp[hc])),getD_set_ne _ _ _ (Ne.symm (hj i (by simp)))]
   .intro j hj;have N4:=hM.env.1;rcases List.mem_cons.1 hj with rfl|hj
    .rw[if_pos rfl];have:=he.1;omega
    .rw[if_neg (bC j hj)];have:=hM.new j hj;have:=he.1;omega
   .intro a ha c hc e;rcases List.mem_cons.1 ha with ea|ha<;>rcases List.mem_cons.1 hc with ec|hc
    .rw[ea,ec]
    .rw[ea,if_pos rfl,if_neg (bC c hc)]at e;have:=hpi c hc;omega
    .rw[ec,if_pos rfl,if_neg (bC a ha)]at e;have:=hpi a ha;omega
    .rw[if_neg (bC a ha),if_neg (bC c hc)]at e;exact hM.inj a ha c hc e
   .intro j hj;rcases List.mem_cons.1 hj with rfl|hj
    .rw[if_pos rfl,hM.env.2 _ (.inr rfl),TW]
    .rw[if_neg (bC j hj)];exact hM.heap j hj
   .refine⟨Nat.le_trans he.1 (by have:=hM.env.1;omega),fun r hr=>?_,hM.env.os.trans he.os,hM.env.out.trans he.out⟩;rw[hM.env.2 r (.inl hr),hold r (Nat.lt_of_lt_of_le (ar r hr) he.1),he.2 r hr]
   .intro r;rw[hM.Xb r];constructor
    .rintro((h|h)|⟨j,hj,h⟩)
     .exact .inl h
     .exact .inr ⟨i,by simp,by rw[if_pos rfl];exact h⟩
     .exact .inr ⟨j,by simp[hj],by rw[if_neg (bC j hj)];exact h⟩
    .rintro(h|⟨j,hj,h⟩)
     .exact .inl (.inl h)
     .rcases List.mem_cons.1 hj with rfl|hj
      .rw[if_pos rfl]at h;exact .inl (.inr h)
      .rw[if_neg (bC j hj)]at h;exact .inr ⟨j,hj,h⟩
   .intro r;rw[hM.Ly r];constructor
    .rintro((h|h)|⟨j,hj,h⟩)
     .exact .inl h
     .exact .inr ⟨i,by simp,by rw[if_pos rfl];exact h⟩
     .exact .inr ⟨j,by simp[hj],by rw[if_neg (bC j hj)];exact h⟩
    .rintro(h|⟨j,hj,h⟩)
     .exact .inl (.inl h)
     .rcases List.mem_cons.1 hj with rfl|hj
      .rw[if_pos rfl]at h;exact .inl (.inr h)
      .rw[if_neg (bC j hj)]at h;exact .inr ⟨j,hj,h⟩
theorem rQ {e:Nat} {dir:ChanDir} (ho:o.op=.makeChan t (.const (.int .i64 0))) (hd:o.dst=some d) (hg:o.guard=none) (ht:P.underlying t=some (.chan dir e)) (hi:P.info? e=some i):
 Dr P o d (fun r=>.chan (some r)) (.chan 0 #[] false 0 0 false):=by
 obtain⟨dst,op,ty,pos,af,gd⟩:=o;simp only at ho hd hg;subst ho;subst hd;subst hg;refine⟨rfl,rfl,fun a w=>?_,fun a w=>?_⟩
 .have:=run_makeChan (P:=P) (w:=w) ht hi .i64 0 (by decide) (by simp);show(Instr.makeChan t (.int .i64 0)>>=fun v=>pure (Next.value v)).run P w=_;have this:(Instr.makeChan t (.int .i64 0)).run P w=.ok (.chan (some w.heap.size)) (w.alloc (.chan 0 #[] false 0 0 false)):=this;simp[this]
 .have h1:=run_makeChan (P:=P) (w:=w) ht hi .i64 0 (by decide) (by simp);have h2:=events_makeChan (P:=P) (w:=w) ht hi .i64 0 (by decide) (by simp) #[];have h1:(Instr.makeChan t (.int .i64 0)).run P w=.ok (.chan (some w.heap.size)) (w.alloc (.chan 0 #[] false 0 0 false)):=h1;have h2:(Instr.makeChan t (.int .i64 0)).events P w #[]=#[]:=h2;show(Instr.makeChan t (.int .i64 0)>>=fun v=>pure (Next.value v)).events P w #[]=_;simp[h1,h2]
theorem iU {z:Value} (ho:o.op=.alloc t) (hd:o.dst=some d) (hg:o.guard=none) (hi:P.info? t=some i) (hz:i.zero=some z):
 Dr P o d (fun r=>.pointer (some ⟨r,0,none⟩)) (.cells z.cells t):=by
 obtain⟨dst,op,ty,pos,af,gd⟩:=o;simp only at ho hd hg;subst ho;subst hd;subst hg;have Pj:∀w,(zeroValue t).run P w=.ok z w:=fun w=>by simp[zeroValue,typeInfo,hi,hz]
 refine⟨rfl,rfl,fun a w=>?_,fun a w=>?_⟩
 .simp[execOp,Instr.alloc,Pj,newVar,newRow]
 .simp[execOp,Instr.alloc,Pj,newVar,newRow]
theorem eU (w:World) (a:Addr) (v:Value) (h:r≠a.block):(w.setCell a v).heap[r]?=w.heap[r]?:=by
 simp[World.setCell,Array.getElem?_modify,Ne.symm h]
theorem iV {v:Value} (h:w.heap[r]?=some (.cells #[u] e fz)):(w.setCell ⟨r,0,none⟩ v).heap[r]?=some (.cells #[v] e fz):=by
 simp[World.setCell,Array.getElem?_modify,h]
theorem cZ (h:w.heap[r]?=some (.cells #[u] e fz)):w.cell? ⟨r,0,none⟩=some u:=by simp[World.cell?,h]
theorem dZ (h:w.heap[r]?=some (.cells #[u] e (0,0))):w.frozen? ⟨r,0,none⟩=false:=by simp[World.frozen?,h]
theorem gM {kn:Nat->Prop} (a:Addr) (v:Value) (h:¬kn a.block):Env kn w (w.setCell a v):=
 ⟨by simp[World.setCell],fun r hr=>eU w a v fun e=>h (e▸hr),rfl,rfl⟩
end Go.aq
namespace Go.aq
open Go.Conc
open Go.ConcN (upd upd_same upd_ne sumTo)
variable {P:Program} {kn own:Nat->Prop} {t:Trace} {w:World}
structure lK (P:Program) (gs:Array Goroutine) (g:Goroutine) (kn own:Nat->Prop) (w:World) (t:Trace):Prop where
 Xc:gs[0]?=some g
 run:g.status=.running
 quit:∃q,cI P gs q
 co:Co (fun g=>g=0) (fun _=>kn) (fun _=>own) w.heap.size t
theorem LA {At:mL} (vZ:∀kn own g w d,At kn own g (World.at w d)->At kn own g w) {g:Goroutine} (h:iR P At kn own g w):
 ∀gs w1 sl t,Env kn w w1->lK P gs g kn own w1 t->∃N gV dX g' w' eE gI t',runNT P N (crowd gs w1 sl) t=(.next (crowd eE w' gI),t')/\At gV dX g' w'/\lK P eE g' gV dX w' t':=by
 induction h with
 | @mk kn own g w ok go ih=>
   have key:∀n gs w1 sl t q,sumTo gs.size q=n->Env kn w w1->gs[0]?=some g->g.status=.running->cI P gs q->Co (fun g=>g=0) (fun _=>kn) (fun _=>own) w1.heap.size t->
    ∃N gV dX g' w' eE gI t',runNT P N (crowd gs w1 sl) t=(.next (crowd eE w' gI),t')/\At gV dX g' w'/\lK P eE g' gV dX w' t':=by
    intro n;induction n using Nat.strongRecOn with
    |ind n ihn=>
     intro gs w1 sl t q hn he h0 hr hq kV;by_cases hA:At kn own g w1
     .exact⟨0,kn,own,g,w1,gs,sl,t,rfl,hA,h0,hr,⟨q,hq⟩,kV⟩
     have aw:∀x∈gs,Conc.awake x:=by
      intro x hx;obtain⟨j,hj,rfl⟩:=Array.mem_iff_getElem.1 hx;have xE:=Array.getElem?_eq_getElem hj;rcases Nat.eq_zero_or_pos j with rfl|ig
      .rw[h0]at xE;rw[<-Option.some.inj xE];exact awake_of (.inl hr)
      .exact awake_of ((hq j _ ig xE).status.imp id .inr)
     obtain⟨i,x,d,gI,hi,hx,bM⟩:=crowd_pick (P:=P) (w:=w1) (sl:=sl) aw ⟨0,_,h0,hr⟩;rcases Nat.eq_zero_or_pos i with rfl|ig
     .obtain rfl:x=g:=by rw[h0]at hi;exact(Option.some.inj hi).symm
      have bQ:0<gs.size:=(Array.getElem?_eq_some_iff.1 h0).1;have cF:¬At kn own x (w1.at d):=fun h=>hA (vZ _ _ _ _ _ h);rcases ok (w1.at d) (he.trans (iy _ _ _))with h|⟨g2,w3,es,h1,h2,h3⟩
      .exact absurd h cF
      have aX:=runT_crowd_go (P:=P) (sl:=gI) (i:=0) h0 (show stepG P (0==0) x (w1.at d)=_ from h1);rw[hq.woken h0 hr]at aX
      obtain⟨N,gV,dX,g',w',eE,Lx,t',k1,k2,k3⟩:=ih (w1.at d) g2 w3 es (he.trans (iy _ _ _)) cF h1 (gs.setIfInBounds 0 g2) w3 gI (t++MemOp.ofEvents 0 x.frame.fn x.frame.place es) (Env.refl _ _)
       ⟨aO _ bQ,h2,⟨q,fun j y hj hy=>by rw[aF _ (by omega)]at hy;exact hq j y hj hy⟩,(kV.step (w:=w1.at d) (g:=0) rfl rfl h3 _ _).lone (upd_same ..) (upd_same ..)⟩
      exact⟨N+1,gV,dX,g',w',eE,Lx,t',by simp only[runNT,bM.trans aX];exact k1,k2,k3⟩
     .have xG:=hq i x ig hi;have xH:(i==0)=false:=by simp;omega
      have ar:i<gs.size:=(Array.getElem?_eq_some_iff.1 hi).1;cases hk:q i with
      |zero=>rw[hk]at xG;rw[show x.status=.finished from xG]at hx;cases hx
      |succ k=>
       rw[hk]at xG;rcases xG with hf|⟨_,g',hs,t8⟩
       .rw[hf]at hx;cases hx
       have aX:=runT_crowd_go (P:=P) (sl:=gI) hi (by rw[xH];exact hs (w1.at d));rw[hq.woken h0 hr]at aX;have e0:t++MemOp.ofEvents i x.frame.fn x.frame.place #[]=t:=by simp[MemOp.ofEvents]
       obtain⟨N,gV,dX,g2,w',eE,Lx,t',k1,k2,k3⟩:=ihn (sumTo gs.size (upd q i k)) (by
        rw[<-hn];refine jS ar ?_ fun j hj=>upd_ne _ _ hj
        rw[upd_same,hk];omega) (gs.setIfInBounds i g') (w1.at d) gI t (upd q i k) (by simp) (he.trans (iy _ _ _)) (by rw[aF _ (by omega)];exact h0) hr (fun j y hj hy=>by
         by_cases e:j=i
         .subst e;rw[aO _ ar]at hy;rw[upd_same,<-Option.some.inj hy];exact t8
         .rw[aF _ e]at hy;rw[upd_ne _ _ e];exact hq j y hj hy) kV
       refine⟨N+1,gV,dX,g2,w',eE,Lx,t',?_,k2,k3⟩;have:=bM.trans aX;simp only[runNT,this];rw[e0];exact k1
   intro gs w1 sl t he ha;obtain⟨q,hq⟩:=ha.quit;exact key _ gs w1 sl t q rfl he ha.Xc ha.run hq ha.co
theorem Co.grow {gV dX:Nat->Prop} {B:Nat} (h:Co (fun g=>g=0) (fun _=>kn) (fun _=>own) B t) (hk:∀r,gV r->r<B) (ho:∀r,dX r->gV r):Co (fun g=>g=0) (fun _=>gV) (fun _=>dX) B t:=by
 have all:∀i a r,touchAt t i=some a->km a.loc r->Knows t 0 i:=fun i a r hi hr=>by
  have hm:a.loc.isMemory=true:=by rcases hr with⟨x,e,_⟩|e<;>rw[e]<;>rfl
  rcases h.ho i a hi hm with h1|⟨g,h1,h2,_⟩
  .exact h1
  .exact absurd h2 h1
 exact⟨h.clean,h.calm,fun _ _=>ho,fun _ _=>hk,fun g k hg xA bC=>absurd (hg.trans xA.symm) bC,fun g hg i a r hi hr _ _=>hg▸all i a r hi hr,fun g hg i a r hi hr _=>hg▸all i a r hi hr,h.ho,h.low⟩
theorem Inv.LB {G:iw P} {b:Nat} {S:St} {gs:Array Goroutine} (h:Inv G b S gs w t) (ho:kq G S w):lK P gs S.mn.g S.mn.kn S.mn.own w t:=by
 obtain⟨h1,h2,h3,h4,_⟩:=h.TT ho;exact⟨h1,h2,⟨S.q,h3⟩,h4⟩
end Go.aq
namespace Go.aq
variable {f lf:Frame} {p:Pi} {top:List Frame} {w:World}
def Leaves (X:Nat->Prop) (HA:ky) (HP:dC):Prop:=
 (∀kn own f w,HA kn own f w->HA (fun r=>kn r\/X r) own f w)/\
 ∀kn own f w v w3 ei bq,HP (fun r=>kn r\/X r) own f w v w3 ei bq->∃Xd,HP kn own f w v w3 Xd bq/\ei=(fun r=>Xd r\/X r)/\Env X w w3/\∀r,bq r->own r\/¬X r
theorem CT.keep {P:Program} {main:Bool} {base:List Frame} {Fin:nJ} {HA:ky} {HP:dC} (X:Nat->Prop) (hl:Leaves X HA HP) {kn own:Nat->Prop}
 (h:CT P main base Fin HA HP kn own f top w) (hX:∀r,X r->r<w.heap.size) (hd:∀r,own r->¬X r):
 CT P main base (fun _ own v w'=>(∃KC,Fin KC own v w')/\Env X w w') HA HP (fun r=>kn r\/X r) own f top w:=by
 have key:=CT.ind (I:=fun kn own f top w1=>(∀r,own r->¬X r)->Env X w w1->CT P main base (fun _ own v w'=>(∃KC,Fin KC own v w')/\Env X w w') HA HP (fun r=>kn r\/X r) own f top w1) ?_ h
 .exact key hd (Env.refl _ _)
 intro kn own f top w1 hb ES AP
 have keep:∀{w2 w3:World} {es:Array Event},Env (fun r=>kn r\/X r) w1 w2->Fair kn own w2 w3 es->Env X w w3/\∀r,aE own w2 w3 r->¬X r:=fun{w2 w3 es} he hf=>by
  have HU:Env X w w2:=AP.trans (he.mono fun r h=>.inr h);have ar:∀r,X r->r<w2.heap.size:=fun r hr=>Nat.lt_of_lt_of_le (hX r hr) HU.1;refine⟨HU.trans ⟨hf.size,fun r hr=>hf.others r (ar r hr) fun ho=>ES r ho hr,hf.os,hf.out⟩,fun r hr hx=>?_⟩;rcases hr with hr|hr
  .exact ES r hr hx
  .have:=ar r hx;have:=hr.1;omega
 refine CT.mk fun w2 he=>?_;rcases hb w2 (he.mono fun r h=>.inl h)with⟨w3,es,f2,nK,h1,h2,h3⟩|⟨w3,es,v,b',vM,h0,h1,h2,h3⟩|⟨w3,es,v,h0,h1,h2,h3⟩|⟨h1,c,rest,h2,h3⟩
 .refine .inl ⟨w3,es,f2,nK,h1,h2.mono (fun r h=>.inl h) (fun r h=>h),?_⟩;rw[jA];obtain⟨k1,k2⟩:=keep he h2;exact h3.1 k2 k1
 .exact .inr (.inl ⟨w3,es,v,b',vM,h0,h1,h2.mono (fun r h=>.inl h) (fun r h=>h),⟨_,h3⟩,(keep he h2).1⟩)
 .exact .inr (.inr (.inl ⟨w3,es,v,h0,h1,h2.mono (fun r h=>.inl h) (fun r h=>h),⟨_,h3⟩,(keep he h2).1⟩))
 .refine .inr (.inr (.inr ⟨hl.1 _ _ _ _ h1,c,rest,h2,fun v w3 ei bq hp=>?_⟩));obtain⟨Xd,q1,rfl,q3,q4⟩:=hl.2 _ _ _ _ _ _ _ _ hp;refine(h3 v w3 Xd bq q1).1 (fun r hr=>?_) ((AP.trans (he.mono fun r h=>.inr h)).trans q3);rcases q4 r hr with x|x
  .exact ES r x
  .exact x
structure N5 (P:Program) (F:Array Func) (S:Nat->Bool) (e:FuncId):Prop where
 marked:S (P.funcs.size+P.globals.size)=false
 lone:∀(lf:Frame) (cs:List Frame) (v:World),kO S lf->lf.kind=.normal->∃n,1<=n/\runN P n (lone lf cs v)=.next (lone (lf.finish (.bool true)) cs v)
 comp:∀(main:Bool) (f:Frame) (cs:List Frame) (w:World),kO S f->f.kind=.normal->stepG (ac P F) main (ij f cs) w=.go (ij (Frame.enter (ac P F) e #[] .normal) (f::cs)) w #[]
def Fa (Q:Program) (e:FuncId):ky:=fun _ _ f _=>f=Frame.enter Q e #[] .normal
def ur:dC:=fun kn own _ w v w3 ei bq=>v=.bool true/\Env kn w w3/\ei=kn/\bq=own
section
variable {P:Program} {F:Array Func} {S:Nat->Bool} {N:Nat} {e:FuncId}
theorem kO.lone (h:kx P S Ky p lf f) (hh:kO S f):kO S lf:=by
 obtain⟨hm,o,ops,i,is,k,h1,h2,h3,h4⟩:=hh;have lZ:=h.mode;rw[hm]at lZ;have aX:lf.mode=.run:=by generalize lf.mode=x at lZ;cases lZ;rfl
 have EU:=h.todo;rw[h1]at EU;generalize h5:lf.todo=t at EU;cases EU with
 |cons hi EU=>
  cases hi with
  |inRegion _ _=>
   refine⟨aX,o,ops,i,is,_,h5,h2,h3,?_⟩;rw[<-h4];congr 1;exact funext fun j=>pG ops h.tmps j
section
variable (Q:Program) (S:Nat->Bool) (N:Nat) (main:Bool) (base:List Frame) (Fin:nJ) (HA:ky) (HP:dC)
def Nd.LC (x:Nd) (w2 w3:World):Prop:=Env (jw x.p) w2 w3/\¬CT Q main base Fin HA HP (jw x.p) (bP N x.p) (x.f.finish (.bool true)) x.top w3
open Classical in
noncomputable def Nd.Ds (x:Nd):World:=if h:∃w3,x.LC Q N main base Fin HA HP (x.pick Q N main base Fin HA HP) w3 then h.choose else x.w
theorem Nd.Bt (x:Nd) (h:∃w3,x.LC Q N main base Fin HA HP (x.pick Q N main base Fin HA HP) w3):x.LC Q N main base Fin HA HP (x.pick Q N main base Fin HA HP) (x.Ds Q N main base Fin HA HP):=by
 unfold Nd.Ds;rw[dif_pos h];exact h.choose_spec
open Classical in
noncomputable def Nd.TX (x:Nd):Nd:=
 if kO S x.f then⟨x.p,x.L,x.f.finish (.bool true),x.top,x.Ds Q N main base Fin HA HP⟩
 else match x.step Q main base (x.pick Q N main base Fin HA HP)with
 |.go g w3 _=>⟨ext x.p x.L (x.pick Q N main base Fin HA HP).heap.size (w3.heap.size-(x.pick Q N main base Fin HA HP).heap.size),x.L+(w3.heap.size-(x.pick Q N main base Fin HA HP).heap.size),
    g.frame,g.callers.take (g.callers.length-base.length),w3⟩
 |_=>x
noncomputable def Nd.N6 (x:Nd):Nat->Nd
 |0=>x
 |k+1=>(Nd.N6 x k).TX Q S N main base Fin HA HP
open Classical in
noncomputable def Nd.Ia (x:Nd):Nat:=
 if kO S x.f then 0 else(gw (x.step Q main base (x.pick Q N main base Fin HA HP))).drawn-(x.pick Q N main base Fin HA HP).drawn
noncomputable def Nd.Ib (x:Nd) (i:Nat):Question->Nat:=(x.pick Q N main base Fin HA HP).tape ((x.pick Q N main base Fin HA HP).drawn+i)
end
theorem yD (hc:Closed P F S Ky) (hg:iv P S p) {rD:List Frame} {lw:World} (hw:WR P S (KS P S) N p lw w)
 (hf:FL P S Ky p (lf::rD) (f::top)) {R:Value->World->Prop} (hl:N5 P F S e) (EV:WW P lf rD lw R fun _ _=>False) (main:Bool) (base:List Frame) (hb:Pp P S main base):
 CT (ac P F) main base (rE P S N p R) (Fa (ac P F) e) ur (jw p) (bP N p) f top w:=by
 refine Classical.byContradiction fun YH=>?_;let Fin:=rE P S N p R
 let HA:=Fa (ac P F) e
 let x0:Nd:=⟨p,lw.heap.size,f,top,w⟩
 have xz:¬x0.ct (ac P F) N main base Fin HA ur:=YH;let X:=fun k=>Nd.N6 (ac P F) S N main base Fin HA ur x0 k
 let pk:=fun k=>(X k).pick (ac P F) N main base Fin HA ur
 let m:=fun k=>(X k).Ia (ac P F) S N main base Fin HA ur
 let D:=fun k=>fU m lw.drawn k
 let start:=fun T:Nat->Question->Nat=>Go.lone lf (rD++[Base P]) {lw with tape:=T}
 have inv:∀k (T:Nat->Question->Nat),(∀j,j<k->∀i,i<m j->T (D j+i)=(X j).Ib (ac P F) N main base Fin HA ur i)->∃ν g gs v,k<=ν/\runN P ν (start T)=.next (Go.lone g (gs++[Base P]) v)/\WR P S (KS P S) N (X k).p v (X k).w/\
  FL P S Ky (X k).p (g::gs) ((X k).f::(X k).top)/\iv P S (X k).p/\v.tape=T/\v.drawn=D k/\v.heap.size=(X k).L/\(¬(X k).ct (ac P F) N main base Fin HA ur)/\Le p (X k).p:=by
  intro k;induction k with
  |zero=>intro T _;exact⟨0,lf,rD,{lw with tape:=T},Nat.le_refl _,rfl,hw.tape T lw.drawn,hf,hg,rfl,rfl,rfl,xz,Le.refl p⟩
  |succ k ih=>
   intro T hT;obtain⟨ν,g,gs,v,e0,e1,e2,e3,e4,e5,e6,e7,e8,e9⟩:=ih T fun j hj i hi=>hT j (by omega) i hi;obtain⟨vS,rC⟩:=(X k).uh (ac P F) N main base Fin HA ur e8;have xD:WR P S (KS P S) N (X k).p v (pk k):=e2.env vS;obtain⟨n,fr,w1,c1,c2⟩:=EV T
   have mv:Ends P fr w1:=by
    rcases c2 with⟨rv,h,_⟩|⟨e,ch,h,_⟩
    .exact .inl ⟨rv,h⟩
    .exact .inr ⟨_,h⟩
   obtain⟨hle,pJ⟩:=before c1 mv e1;by_cases kz:kO S (X k).f
   ·
    have tD:m k=0:=by show Nd.Ia _ _ _ _ _ _ _ _ (X k)=_;unfold Nd.Ia;rw[if_pos kz]
    have EW:∃w3,(X k).LC (ac P F) N main base Fin HA ur (pk k) w3:=by
     refine Classical.byContradiction fun gT=>rC (.inl ⟨pk k,#[],Frame.enter (ac P F) e #[] .normal,(X k).f::(X k).top,?_,Fair.refl (fun e h=>by simp at h),?_⟩)
     .exact hl.comp main (X k).f ((X k).top++base) (pk k) kz e3.head.kh
     .rw[aL,aL];refine CT.mk fun w2 he=>.inr (.inr (.inr ⟨rfl,(X k).f,(X k).top,rfl,fun v' w3 ei bq hp=>?_⟩));obtain⟨rfl,yE,rfl,rfl⟩:=hp;exact Classical.byContradiction fun hx=>gT ⟨w3,he.trans yE,hx⟩
    obtain⟨TY,Pw⟩:=(X k).Bt (ac P F) N main base Fin HA ur EW;obtain⟨nn,p0,p1⟩:=hl.lone g (gs++[Base P]) v (kO.lone e3.head kz) e3.head.kind
    have GN:X (k+1)=⟨(X k).p,(X k).L,(X k).f.finish (.bool true),(X k).top,(X k).Ds (ac P F) N main base Fin HA ur⟩:=by
     show(X k).TX (ac P F) S N main base Fin HA ur=_;unfold Nd.TX;rw[if_pos kz]
    rw[GN];refine⟨ν+nn,g.finish (.bool true),gs,v,by omega,by rw[runN_add,e1];exact p1,xD.env TY,e3.top (e3.head.finish (.bool true) fun _=>(kO.Pm (kO.lone e3.head kz)).fits _) (dB _ _),e4,e5,?_,e7,Pw,e9⟩;rw[e6];show D k=fU m lw.drawn k+m k;rw[tD];rfl
   ·
    have tD:m k=(gw ((X k).step (ac P F) main base (pk k))).drawn-(pk k).drawn:=by show Nd.Ia _ _ _ _ _ _ _ _ (X k)=_;unfold Nd.Ia;rw[if_neg kz]
    have AX:kj (m k) v (pk k):=fun j hj q=>by
     have:=hT k (by omega) j hj;rw[e5,e6,this];rfl
    have hd:(gw (stepG (ac P F) main {frame:=(X k).f,callers:=(X k).top++base,status:=.running,dying:=none} (pk k))).drawn<=(pk k).drawn+m k:=by
     rw[tD];show(gw ((X k).step (ac P F) main base (pk k))).drawn<=(pk k).drawn+((gw ((X k).step (ac P F) main base (pk k))).drawn-(pk k).drawn)
     omega
    have Px:=dg.step (b:=Base P) (bs:=[]) (aN:=base) hc xD e4 e3 (fun _ _ _ _ _ _ _ h=>h) kz true main hb AX hd;rcases Px with⟨o,w3,es,hs⟩|⟨q,ch,Sv,w3,es,Dj,hs⟩|⟨c,nn,v1,w3,es,cS,hm,TI,jx⟩
    .exact(vR pJ mv (step_lone_ended (o:=o) (w':=w3) (by rw[hs];rfl))).elim
    .exfalso;have bK:step P (Go.lone g (gs++[Base P]) v)=.next (Go.lone ((Base P).raise ch) [] w3):=step_lone_go (by rw[hs];rfl);obtain⟨_,hσ⟩:=vQ pJ bK (eN P ch w3);rw[hσ]at bK;rcases c2 with⟨rv,h,_⟩|⟨e,Dl,h,hF,hnv⟩
     .rw[step_leave_returned h]at bK;simp only[Stepped.next.injEq]at bK;have q1:=(eH bK).1;rw[dx]at q1;have:=congrArg (fun f:Frame=>f.mode) q1;simp[Base,Frame.raise]at this
     .exact hF
    .obtain⟨rG,rH,qw⟩:=cq.fair xD hm TI;rcases jx with⟨f2,Ls,t2,Lt,NN,hs,tf⟩|⟨Py,AY,hv,hs,tf⟩
     .have bK:step P (Go.lone g (gs++[Base P]) v)=.next (Go.lone f2 (t2++[Base P]) v1):=step_lone_go (by rw[hs];rfl);have oL:=rA P ν _ _ e1;rw[bK]at oL;have mt:(X k).step (ac P F) main base (pk k)=.go (ij Ls (Lt++base)) w3 cS:=tf
      have GN:X (k+1)=⟨ext (X k).p (X k).L (pk k).heap.size c,(X k).L+c,Ls,Lt,w3⟩:=by
       show(X k).TX (ac P F) S N main base Fin HA ur=_;unfold Nd.TX;rw[if_neg kz];have Ay:(X k).step (ac P F) main base ((X k).pick (ac P F) N main base Fin HA ur)=.go (ij Ls (Lt++base)) w3 cS:=tf;rw[Ay]
       have bQ:w3.heap.size-((X k).pick (ac P F) N main base Fin HA ur).heap.size=c:=by
        have h6:w3.heap.size=(pk k).heap.size+c:=hm.kG;show w3.heap.size-(pk k).heap.size=c;rw[h6,Nat.add_sub_cancel_left]
       simp only[bQ];congr 1;rw[List.length_append,Nat.add_sub_cancel];exact List.take_left
      rw[GN];have hrel:=hm.rel;rw[e7]at hrel NN rH qw;have tF:=eD (X k).p (X k).L (pk k).heap.size c;refine⟨ν+1,f2,t2,v1,by omega,oL,hrel,NN,e4.mono tF,hm.tape.trans e5,?_,by rw[hm.size,e7],?_,e9.trans tF⟩
      .rw[hm.drawn,e6]
       have:m k=nn:=by
        rw[tD,mt];have h5:w3.drawn=(pk k).drawn+nn:=hm.kH;show w3.drawn-(pk k).drawn=nn;rw[h5,Nat.add_sub_cancel_left]
       show D k+nn=fU m lw.drawn k+m k;rw[this]
      .intro AZ;refine rC (.inl ⟨w3,cS,Ls,Lt,mt,rG,?_⟩);unfold Nd.ct at AZ;rw[rH,qw]at AZ;exact AZ
     .exfalso;have bK:step P (Go.lone g (gs++[Base P]) v)=.next (Go.lone ((Base P).finish Py) [] v1):=step_lone_go (by rw[hs];rfl);obtain⟨_,hσ⟩:=vQ pJ bK (fT P Py v1);rw[hσ]at bK;rcases c2 with⟨rv,h,hR⟩|⟨e,Dl,h,hF,_⟩
      .rw[step_leave_returned h]at bK;simp only[Stepped.next.injEq]at bK;obtain⟨q1,_,q3⟩:=eH bK;rw[dx,dx]at q1
       have A9:rv=Py:=by
        have:=congrArg (fun f:Frame=>f.tmps) q1;simpa using this
       subst A9;subst q3;have rI:Fin (aE (jw (X k).p) (pk k) w3) (aE (bP N (X k).p) (pk k) w3) AY w3:=⟨_,rv,w1,hR,hv,hm.rel,e9.trans (eD _ _ _ _),rH.symm,qw.symm⟩
       rcases tf with⟨b',vM,kS,tf⟩|⟨kS,tf⟩
       .exact rC (.inr (.inl ⟨w3,cS,AY,b',vM,kS,tf,rG,rI⟩))
       .exact rC (.inr (.inr (.inl ⟨w3,cS,AY,kS,tf,rG,rI⟩)))
      .exact hF
 obtain⟨T,hT⟩:=splice m (fun k j=>(X k).Ib (ac P F) N main base Fin HA ur j) lw.drawn;obtain⟨n,fr,w1,c1,c2⟩:=EV T
 have mv:Ends P fr w1:=by
  rcases c2 with⟨rv,h,_⟩|⟨e,ch,h,_⟩
  .exact .inl ⟨rv,h⟩
  .exact .inr ⟨_,h⟩
 obtain⟨ν,g,gs,v,e0,e1,_⟩:=inv (n+1) T fun j _ i hi=>hT j i hi;obtain⟨hle,_⟩:=before c1 mv e1;omega
end
end Go.aq
namespace Go.aq
open Go.Conc
open Go.ConcN (upd upd_same upd_ne sumTo sumTo_upd sumTo_congr le_sumTo sumTo_le)
variable {b:Frame} {bs:List Frame} {m m':Machine} {t:Trace}
def nP (P:Program) (b:Frame) (bs:List Frame) (Fin:nJ) (m:Machine) (t:Trace):Prop:=
 ∃N v w3 ei bq eE gI t' q',runNT P N m t=(.next (crowd eE w3 gI),t')/\Fin ei bq v w3/\eE[0]?=some (ij (b.finish v) bs)/\cI P eE q'/\Co (fun g=>g=0) (fun _=>ei) (fun _=>bq) w3.heap.size t'
theorem nP.step {P:Program} {Fin:nJ} {ops:Array MemOp} (h:stepT P m=(.next m',ops)) (k:nP P b bs Fin m' (t++ops)):nP P b bs Fin m t:=by
 obtain⟨N,v,w3,ei,bq,eE,gI,t',q',h1,h2⟩:=k;exact⟨N+1,v,w3,ei,bq,eE,gI,t',q',by simp only[runNT,h];exact h1,h2⟩
theorem nP.steps {P:Program} {Fin:nJ} {t':Trace} {N:Nat} (h:runNT P N m t=(.next m',t')) (k:nP P b bs Fin m' t'):nP P b bs Fin m t:=by
 obtain⟨M,v,w3,ei,bq,eE,gI,t',q',h1,h2⟩:=k;exact⟨N+M,v,w3,ei,bq,eE,gI,t',q',by rw[runNT_add,h];exact h1,h2⟩
section
variable {P:Program} {Fin:nJ} {HA:ky} {HP:dC} {b0:Frame} {Bu:List Frame}
theorem Bv (Bl:vX P HA HP) (vZ:∀kn own f w d,HA kn own f (World.at w d)->HA kn own f w) (TU:∀kn own f w d v w3 ei bq,HP kn own f w v w3 ei bq->HP kn own f (World.at w d) v w3 ei bq)
 {kn own:Nat->Prop} {f:Frame} {top:List Frame} {w:World} (h:CT P true (b0::Bu) Fin HA HP kn own f top w):
 ∀gs w1 sl t q,Env kn w w1->gs[0]?=some (ij f (top++b0::Bu))->cI P gs q->Co (fun g=>g=0) (fun _=>kn) (fun _=>own) w1.heap.size t->nP P b0 Bu Fin (crowd gs w1 sl) t:=by
 refine CT.ind (I:=fun kn own f top w=>∀gs w1 sl t q,Env kn w w1->gs[0]?=some (ij f (top++b0::Bu))->cI P gs q->Co (fun g=>g=0) (fun _=>kn) (fun _=>own) w1.heap.size t->nP P b0 Bu Fin (crowd gs w1 sl) t) ?_ h;intro kn own f top w jz
 have key:∀n gs w1 sl t q,sumTo gs.size q=n->Env kn w w1->gs[0]?=some (ij f (top++b0::Bu))->cI P gs q->Co (fun g=>g=0) (fun _=>kn) (fun _=>own) w1.heap.size t->nP P b0 Bu Fin (crowd gs w1 sl) t:=by
  intro n;induction n using Nat.strongRecOn with
  |ind n ih=>
   intro gs w1 sl t q hn he h0 hq kV
   have pay:HA kn own f w1->∀c rest,top=c::rest->(∀v w3 ei bq,HP kn own f w1 v w3 ei bq->(∀gs w1 sl t q,Env ei w3 w1->gs[0]?=some (ij (c.finish v) (rest++b0::Bu))->cI P gs q->Co (fun g=>g=0) (fun _=>ei) (fun _=>bq) w1.heap.size t->nP P b0 Bu Fin (crowd gs w1 sl) t))->nP P b0 Bu Fin (crowd gs w1 sl) t:=by
    intro hA c rest qv hc;subst qv;obtain⟨N,v,w3,ei,bq,eE,gI,t',q',p1,p2,p3,p4,p5⟩:=Bl kn own f c (rest++b0::Bu) w1 gs sl t q h0 hq kV hA;exact(hc v w3 ei bq p2 eE w3 gI t' q' (Env.refl _ _) p3 p4 p5).steps p1
   have aw:∀g∈gs,Conc.awake g:=by
    intro g hg;obtain⟨j,hj,rfl⟩:=Array.mem_iff_getElem.1 hg;have xE:=Array.getElem?_eq_getElem hj;rcases Nat.eq_zero_or_pos j with rfl|ig
    .rw[h0]at xE;rw[<-Option.some.inj xE];exact awake_of (.inl rfl)
    .exact awake_of ((hq j _ ig xE).status.imp id .inr)
   obtain⟨i,g,d,gI,hi,hg,bM⟩:=crowd_pick (P:=P) (w:=w1) (sl:=sl) aw ⟨0,_,h0,rfl⟩;rcases Nat.eq_zero_or_pos i with rfl|ig
   .obtain rfl:g=ij f (top++b0::Bu):=by rw[h0]at hi;exact(Option.some.inj hi).symm
    have bQ:0<gs.size:=(Array.getElem?_eq_some_iff.1 h0).1;rcases jz (w1.at d) (he.trans (iy _ _ _))with⟨w3,es,f2,nK,h1,h2,h3⟩|⟨w3,es,v,b,bs,Lh,h1,h2,h3⟩|⟨w3,es,v,Lh,h1,h2,h3⟩|⟨h1,c,rest,qv,h2⟩
    .have aX:=runT_crowd_go (P:=P) (sl:=gI) (i:=0) h0 (show stepG P (0==0) (ij f (top++b0::Bu)) (w1.at d)=_ from h1);rw[hq.woken h0 rfl]at aX;refine nP.step (bM.trans aX) (h3.1 _ w3 gI _ q (Env.refl _ _) (aO _ bQ) (fun j x hj hx=>?_) ?_)
     .rw[aF _ (by omega)]at hx;exact hq j x hj hx
     .exact(kV.step (w:=w1.at d) (g:=0) rfl rfl h2 _ _).lone (upd_same ..) (upd_same ..)
    .obtain⟨rfl,rfl⟩:b0=b/\Bu=bs:=by simpa using Lh
     have aX:=runT_crowd_go (P:=P) (sl:=gI) (i:=0) h0 (show stepG P (0==0) (ij f (top++b0::Bu)) (w1.at d)=_ from h1);rw[hq.woken h0 rfl]at aX;refine nP.step (bM.trans aX) ⟨0,v,w3,_,_,_,gI,_,q,rfl,h3,aO _ bQ,fun j x hj hx=>?_,(kV.step (w:=w1.at d) (g:=0) rfl rfl h2 _ _).lone (upd_same ..) (upd_same ..)⟩;rw[aF _ (by omega)]at hx;exact hq j x hj hx
    .cases Lh
    .exact pay (vZ _ _ _ _ _ h1) c rest qv fun v w3 ei bq hp=>(h2 v w3 ei bq (TU _ _ _ _ _ _ _ _ _ hp)).1
   .have xG:=hq i g ig hi;have xH:(i==0)=false:=by simp;omega
    have ar:i<gs.size:=(Array.getElem?_eq_some_iff.1 hi).1;cases hk:q i with
    |zero=>rw[hk]at xG;rw[show g.status=.finished from xG]at hg;cases hg
    |succ k=>
     rw[hk]at xG;rcases xG with hf|⟨_,g',hs,t8⟩
     .rw[hf]at hg;cases hg
     have aX:=runT_crowd_go (P:=P) (sl:=gI) hi (by rw[xH];exact hs (w1.at d));rw[hq.woken h0 rfl]at aX;have e0:t++MemOp.ofEvents i g.frame.fn g.frame.place #[]=t:=by simp[MemOp.ofEvents]
     refine nP.step (bM.trans aX) ?_;rw[e0];refine ih (sumTo gs.size (upd q i k)) ?_ _ (w1.at d) gI t (upd q i k) (by simp) (he.trans (iy _ _ _)) ?_ (fun j x hj hx=>?_) kV
     .rw[<-hn];refine jS ar ?_ fun j hj=>upd_ne _ _ hj;rw[upd_same,hk];omega
     .rw[aF _ (by omega)];exact h0
     .by_cases e:j=i
      .subst e;rw[aO _ ar]at hx;rw[upd_same,<-Option.some.inj hx];exact t8
      .rw[aF _ e]at hx;rw[upd_ne _ _ e];exact hq j x hj hx
 intro gs w1 sl t q he h0 hq kV;exact key _ gs w1 sl t q rfl he h0 hq kV
end
end Go.aq
namespace Go.aq
theorem CT.TZ {P:Program} {main:Bool} {base:List Frame} {Fin:nJ} {e:FuncId} (X:Nat->Prop) {kn own:Nat->Prop} {f:Frame} {top:List Frame} {w:World}
 (h:CT P main base Fin (Fa P e) ur kn own f top w) (hX:∀r,X r->r<w.heap.size) (hd:∀r,own r->¬X r):
 CT P main base (fun _ own v w'=>(∃KC,Fin KC own v w')/\Env X w w') (fun kn own f w1=>Fa P e kn own f w1/\(∀r,X r->kn r)/\Env X w w1) ur (fun r=>kn r\/X r) own f top w:=by
 have key:=CT.ind (I:=fun kn own f top w1=>(∀r,own r->¬X r)->Env X w w1->CT P main base (fun _ own v w'=>(∃KC,Fin KC own v w')/\Env X w w') (fun kn own f w1=>Fa P e kn own f w1/\(∀r,X r->kn r)/\Env X w w1) ur (fun r=>kn r\/X r) own f top w1) ?_ h
 .exact key hd (Env.refl _ _)
 intro kn own f top w1 hb ES AP
 have keep:∀{w2 w3:World} {es:Array Event},Env (fun r=>kn r\/X r) w1 w2->Fair kn own w2 w3 es->Env X w w3/\∀r,aE own w2 w3 r->¬X r:=fun{w2 w3 es} he hf=>by
  have HU:Env X w w2:=AP.trans (he.mono fun r h=>.inr h);have ar:∀r,X r->r<w2.heap.size:=fun r hr=>Nat.lt_of_lt_of_le (hX r hr) HU.1;refine⟨HU.trans ⟨hf.size,fun r hr=>hf.others r (ar r hr) fun ho=>ES r ho hr,hf.os,hf.out⟩,fun r hr hx=>?_⟩;rcases hr with hr|hr
  .exact ES r hr hx
  .have:=ar r hx;have:=hr.1;omega
 refine CT.mk fun w2 he=>?_;rcases hb w2 (he.mono fun r h=>.inl h)with⟨w3,es,f2,nK,h1,h2,h3⟩|⟨w3,es,v,b',vM,h0,h1,h2,h3⟩|⟨w3,es,v,h0,h1,h2,h3⟩|⟨h1,c,rest,h2,h3⟩
 .refine .inl ⟨w3,es,f2,nK,h1,h2.mono (fun r h=>.inl h) (fun r h=>h),?_⟩;rw[jA];obtain⟨k1,k2⟩:=keep he h2;exact h3.1 k2 k1
 .exact .inr (.inl ⟨w3,es,v,b',vM,h0,h1,h2.mono (fun r h=>.inl h) (fun r h=>h),⟨_,h3⟩,(keep he h2).1⟩)
 .exact .inr (.inr (.inl ⟨w3,es,v,h0,h1,h2.mono (fun r h=>.inl h) (fun r h=>h),⟨_,h3⟩,(keep he h2).1⟩))
 .have HU:Env X w w2:=AP.trans (he.mono fun r h=>.inr h);refine .inr (.inr (.inr ⟨⟨h1,fun r hr=>.inr hr,HU⟩,c,rest,h2,fun v w3 ei bq hp=>?_⟩));obtain⟨rfl,q2,rfl,rfl⟩:=hp;exact(h3 (.bool true) w3 kn bq ⟨rfl,q2.mono fun r h=>.inl h,rfl,rfl⟩).1 ES (HU.trans (q2.mono fun r h=>.inr h))
def rowsOf (w:World):Pi:=⟨fun r r'=>r=r'/\∃c e fz,w.heap[r]?=some (.cells c e fz),fun _ _=>False,false⟩
open Classical in
theorem LD {S:Nat->Bool} (hJ:S JK=true) (p:Pi) (hl:p.l=false):∀(n:Nat) (v':Value),SizeOf.sizeOf v'<n->∃v,VR S p v v'/\(VR S p v' v'->v=v'):=by
 intro n;induction n with
 |zero=>intro v' h;omega
 |succ n ih=>
  intro v' hn;by_cases hs:VR S p v' v'
  .exact⟨v',hs,fun _=>rfl⟩
  have bG:∀xs:Array Value,SizeOf.sizeOf xs<n->∃ys:Array Value,AR S p ys xs:=by
   intro xs hx
   have hm:∀x∈xs,∃v,VR S p v x:=fun x Ua=>by
    have:=Array.sizeOf_lt_of_mem Ua;obtain⟨v,h,_⟩:=ih x (by omega);exact⟨v,h⟩
   let g:Value->Value:=fun x=>if h:∃v,VR S p v x then h.choose else x
   refine⟨xs.map g,by simp,fun i a b ha hb=>?_⟩;rw[Array.getElem?_map,hb]at ha;simp only[Option.map_some,Option.some.injEq]at ha;subst ha;have h:=hm b (Array.mem_of_getElem? hb);show VR S p (if h:∃v,VR S p v b then h.choose else b) b;rw[dif_pos h];exact h.choose_spec
  cases hj:NE v' with
  |true=>exact⟨.tuple #[],.oO hl hJ hj,fun h=>absurd h hs⟩
  |false=>
   cases v' with
   |bool b=>exact absurd (.bool b) hs
   |int k n=>exact absurd (.int k n) hs
   |string s=>exact absurd (.string s) hs
   |chan c=>exact absurd (.chan c) hs
   |nilFunc=>exact absurd .nilFunc hs
   |nilIface=>exact absurd .nilIface hs
   |pointer a=>cases a with
    |none=>exact absurd .tu hs
    |some a=>cases hj
   |slice a l c=>cases a with
    |none=>exact absurd (.cU l c) hs
    |some a=>cases hj
   |map a=>cases a with
    |none=>exact absurd .tv hs
    |some a=>cases hj
   |func f xs ys=>cases f with
    |method n=>exact⟨MF,.AI hl hJ n xs ys,fun h=>absurd h hs⟩
    |_=>cases hj
   |agg xs=>
    obtain⟨ys,hy⟩:=bG xs (by simp only[Value.agg.sizeOf_spec]at hn;omega);exact⟨_,hy.agg,fun h=>absurd h hs⟩
   |tuple xs=>
    obtain⟨ys,hy⟩:=bG xs (by simp only[Value.tuple.sizeOf_spec]at hn;omega);exact⟨_,hy.tuple,fun h=>absurd h hs⟩
   |_=>cases hj
open Classical in
noncomputable def dz (S:Nat->Bool) (p:Pi) (v':Value):Value:=if h:∃v,VR S p v v'/\(VR S p v' v'->v=v')then h.choose else v'
theorem Dt {S:Nat->Bool} (hJ:S JK=true) (p:Pi) (hl:p.l=false) (v':Value):VR S p (dz S p v') v'/\(VR S p v' v'->dz S p v'=v'):=by
 have h:=LD hJ p hl (SizeOf.sizeOf v'+1) v' (by omega);unfold dz;rw[dif_pos h];exact h.choose_spec
noncomputable def YW (S:Nat->Bool) (p:Pi):Obj->Obj
 |.cells c e _=>.cells (c.map (dz S p)) e (0,c.size)
 |o=>o
noncomputable def iW (S:Nat->Bool) (w:World):World:={w with heap:=w.heap.map (YW S (rowsOf w))}
section
variable {P:Program} {S:Nat->Bool} {w:World}
theorem yF:(iW S w).heap.size=w.heap.size:=by show(w.heap.map _).size=_;simp
theorem v9 {r:Nat} {c:Array Value} {e:TypeId} {fz:Nat×Nat} (h:w.heap[r]?=some (.cells c e fz)):(iW S w).heap[r]?=some (.cells (c.map (dz S (rowsOf w))) e (0,c.size)):=by
 show(w.heap.map _)[r]?=_;rw[Array.getElem?_map,h];rfl
theorem PR (hJ:S JK=true) (hg:P.globals.size<=w.heap.size):WR P S (KS P S) w.heap.size (rowsOf w) (iW S w) w:=by
 refine⟨fun r r' s s' x y=>by rw[<-x.1,<-y.1],fun r r' x=>?_,by rw[yF];exact Nat.le_refl _,fun r r' x=>by rw[x.1],by rw[yF];exact hg,hg,rfl,fun _ _ h=>h⟩;obtain⟨rfl,c,e,fz,h⟩:=x;refine⟨_,_,v9 h,h,.inl ⟨(Array.getElem?_eq_some_iff.1 h).1,c.map (dz S (rowsOf w)),c,e,fz,by simp,rfl,by simp,fun i a b ha hb=>?_⟩⟩;rw[Array.getElem?_map,hb]at ha;simp only[Option.map_some,Option.some.injEq]at ha;subst ha;exact(Dt hJ _ rfl b).1
theorem kW (hJ:S JK=true) {a:Addr} {v:Value} (h:w.cell? a=some v) (hv:VR S (rowsOf w) v v):(iW S w).cell? a=some v:=by
 unfold World.cell? at h⊢;split at h
 .rename_i c e fz hx;rw[v9 hx];simp only;split at h
  .cases h
  .rename_i lY;rw[if_neg lY,Array.getElem?_map,h];simp only[Option.map_some,Option.some.injEq];exact(Dt hJ _ rfl v).2 hv
 .cases h
end
end Go.aq
