/- A part. Conditions: none. -/
import Derived.Test.YtboiakcocelkmaaGreatDoorT06
import Derived.ChangeMade
set_option linter.all false
namespace Go.aA
open Go.Made
variable {P:Program} {i:TypeInfo} {info:TypeId->Option TypeInfo} {v:Value}
def flat (v:Value):Prop:=∀x∈v.cells,plain 5 x=true
theorem Bo:∀(n:Nat) (v:Value),plain n v=true->plain (n+1) v=true:=by
 intro n;induction n with
 |zero=>
  intro v h;cases v;case pointer a=>cases a<;>first|rfl|(simp[aA.plain]at h;done)
  case slice a l c=>cases a<;>first|rfl|(simp[aA.plain]at h;done)
  case map a=>cases a<;>first|rfl|(simp[aA.plain]at h;done)
  case chan a=>cases a<;>first|rfl|(simp[aA.plain]at h;done)
  all_goals first|rfl|(simp[aA.plain]at h;done)
 |succ n ih=>
  intro v h;cases v;case pointer a=>cases a<;>first|rfl|(simp[aA.plain]at h;done)
  case slice a l c=>cases a<;>first|rfl|(simp[aA.plain]at h;done)
  case map a=>cases a<;>first|rfl|(simp[aA.plain]at h;done)
  case chan a=>cases a<;>first|rfl|(simp[aA.plain]at h;done)
  case iface t v=>exact ih v h
  case agg xs=>
   have h:xs.all (aA.plain n)=true:=h;show xs.all (aA.plain (n+1))=true;exact Array.all_eq_true.2 fun i hi=>ih _ (Array.all_eq_true.1 h i hi)
  case tuple xs=>
   have h:xs.all (aA.plain n)=true:=h;show xs.all (aA.plain (n+1))=true;exact Array.all_eq_true.2 fun i hi=>ih _ (Array.all_eq_true.1 h i hi)
  all_goals first|rfl|(simp[aA.plain]at h;done)
theorem rN {n m:Nat} (Kk:n<=m) (h:plain n v=true):plain m v=true:=by
 induction Kk with
 |refl=>exact h
 |step _ ih=>exact Bo _ _ ih
theorem flat.plain (h:flat v):plain 50 v=true:=by
 unfold flat at h;cases v with
 |agg xs=>
  show xs.all (aA.plain 49)=true;exact Array.all_eq_true.2 fun i hi=>rN (by omega) (h _ (Array.getElem_mem hi))
 |_=>exact rN (by omega) (h _ (by simp[Value.cells]))
theorem EU {α β:Type} (f:α->β->Option (ForInStep β)) (I:β->Prop) (hf:∀a b r,I b->f a b=some r->I (match r with|.yield b=>b|.done b=>b)):∀(l:List α) (b r:β),I b->forIn l b f=some r->I r:=by
 intro l;induction l with
 |nil=>intro b r hb h;simp only[List.forIn_nil,pure,Option.some.injEq]at h;exact h▸hb
 |cons a l ih=>
  intro b r hb h;simp only[List.forIn_cons,bind,Option.bind_eq_some_iff]at h;obtain⟨s,hs,h⟩:=h;have:=hf a b s hb hs;cases s with
  |done b'=>simp only[pure,Option.some.injEq]at h;exact h▸this
  |yield b'=>exact ih b' r this h
def G8 (info:TypeId->Option TypeInfo):Prop:=∀t i v,info t=some i->i.zero=some v->flat v
theorem nB (hi:G8 info) {fs:Array Field} (h:reckonStruct info fs=some i) (hv:i.zero=some v):flat v:=by
 unfold reckonStruct at h;simp only[bind,Option.bind_eq_some_iff,pure]at h;obtain⟨a,ha,h⟩:=h;rw[<-Array.forIn_toList]at ha;have key:=EU _ (fun s:Array Field×Nat×Nat×Nat×Nat×Bool×Bool×Option (Array Value)×String=>∀z,s.2.2.2.2.2.2.2.1=some z->∀x∈z,aA.plain 5 x=true) ?_ _ _ _ ?_ ha
 .split at h
  all_goals
   simp only[Option.some.injEq]at h;subst h;simp only[Option.map_eq_some_iff]at hv;obtain⟨z,hz,rfl⟩:=hv;exact key z hz
 .intro f b r hb hr;simp only[Option.bind_eq_some_iff]at hr;obtain⟨j,hj,hr⟩:=hr
  have fin:∀z,(b.2.2.2.2.2.2.2.1.bind fun z0=>j.zero.bind fun z1=>some (z0++z1.cells))=some z->∀x∈z,aA.plain 5 x=true:=by
   intro z hz;simp only[Option.bind_eq_some_iff,Option.some.injEq]at hz;obtain⟨z0,h0,z1,h1,rfl⟩:=hz;intro x hx;rcases Array.mem_append.1 hx with hx|hx
   .exact hb z0 h0 x hx
   .exact hi _ _ _ hj h1 x hx
  repeat' split at hr
  all_goals(try(simp only[Option.bind_none,reduceCtorEq]at hr;done))
  all_goals(try simp only[Option.bind_eq_some_iff]at hr)
  all_goals(obtain⟨_,_,hr⟩:=hr;simp only[Option.some.injEq]at hr;subst hr;intro z hz;first|(cases hz;done)|exact fin z hz)
 .intro z hz;simp only[Option.some.injEq]at hz;subst hz;simp
theorem yr (hi:G8 info) {d:TypeDesc} (h:reckon info d=some i) (hv:i.zero=some v):flat v:=by
 have one:∀u:Value,aA.plain 0 u=true->flat u:=fun u hu x hx=>by
  cases u<;>first|(simp only[Value.cells,List.mem_toArray,List.mem_singleton]at hx;subst hx;exact rN (Nat.zero_le _) hu)|(cases hu;done)
 cases d with
 |struct fs=>exact nB hi h hv
 |array n e=>
  simp only[reckon,bind,Option.bind_eq_some_iff,pure,Option.some.injEq]at h;obtain⟨j,hj,s,_,rfl⟩:=h;simp only at hv;split at hv
  .cases hv
  .split at hv
   .simp only[Option.some.injEq]at hv;subst hv;intro x hx;simp[Value.cells]at hx
   .simp only[Option.map_eq_some_iff]at hv;obtain⟨z,hz,rfl⟩:=hv;intro x hx;simp only[Value.cells,Array.mem_flatten,Array.mem_replicate]at hx;obtain⟨y,⟨_,rfl⟩,hx⟩:=hx;exact hi _ _ _ hj hz x hx
 |pointer e=>
  simp only[reckon,bind,Option.bind_eq_some_iff,pure]at h;obtain⟨j,hj,h⟩:=h;repeat' split at h
  all_goals(try(cases h;done))
  all_goals(simp only[Option.bind_eq_some_iff,Option.some.injEq]at h;obtain⟨_,_,rfl⟩:=h;simp only[word,Option.some.injEq]at hv;subst hv;exact one _ rfl)
 |_=>
  first
  |(simp only[reckon,reduceCtorEq]at h;done)
  |(simp only[reckon,bind,Option.bind_eq_some_iff,pure,Option.some.injEq]at h;obtain⟨_,_,_,_,rfl⟩:=h;simp only[word,Option.some.injEq]at hv;subst hv;exact one _ rfl)
  |(simp only[reckon,bind,Option.bind_eq_some_iff,pure,Option.some.injEq]at h;obtain⟨_,_,_,_,_,_,_,_,rfl⟩:=h;simp only[word,Option.some.injEq]at hv;subst hv;exact one _ rfl)
  |(simp only[reckon,bind,Option.bind_eq_some_iff,pure,Option.some.injEq]at h;obtain⟨_,_,rfl⟩:=h;simp only[word,Option.some.injEq]at hv;subst hv;exact one _ rfl)
def ux (T:Tables):Bool:=T.types.all fun i=>match i.zero with|some v=>v.cells.all (aA.plain 5)|none=>true
theorem yt {T:Tables} (h:ux T=true):∀f,G8 (infoAt T f):=by
 have low:∀(t:Nat) (i:TypeInfo) (v:Value),T.types[t]?=some i->i.zero=some v->flat v:=by
  intro t i v ht hv;obtain⟨az,he⟩:=Array.getElem?_eq_some_iff.1 ht;have:=Array.all_eq_true.1 h t az;rw[he]at this;simp only[hv]at this;intro x hx;obtain⟨k,hk,rfl⟩:=Array.mem_iff_getElem.1 hx;exact Array.all_eq_true.1 this k hk
 intro f;induction f with
 |zero=>intro t i v ht;cases ht
 |succ f ih=>
  intro t i v ht hv;unfold infoAt at ht;split at ht
  .exact low t i v ht hv
  .simp only[Option.bind_eq_some_iff]at ht;obtain⟨d,_,ht⟩:=ht;exact yr ih ht hv
theorem G9 (h:ux P.toTables=true):bd P:=by
 intro t i v ht hv;have ht:Tables.info? P.toTables t=some i:=ht
 have:infoAt P.toTables depth t=some i:=by
  unfold Tables.info? at ht;split at ht
  .unfold depth infoAt;rw[if_pos (by assumption)];exact ht
  .exact ht
 exact(yt h depth t i v this hv).plain
def Bp (T:Tables):Bool:=T.types.all fun i=>match i.desc with|.named n _=>!(n== "sync.copyChecker")|_=>true
theorem Bq (h:Bp P.toTables=true):aJ P:=by
 intro t i u ht hd;have ht:Tables.info? P.toTables t=some i:=ht;by_cases az:t<P.types.size
 .unfold Tables.info? at ht;rw[if_pos az]at ht;obtain⟨az,he⟩:=Array.getElem?_eq_some_iff.1 ht;have:=Array.all_eq_true.1 h t az;rw[he,hd]at this;simp at this
 .have:=Tables.info?_beyond az ht;rw[hd]at this;cases this
end Go.aA
namespace Go.aA
open Go.Conc
variable {P:Program} {d r t:Nat} {e:TypeId} {fz:Nat×Nat} {i:TypeInfo} {o:Oper} {ops:Array Oper} {u:Value} {w:World}
def Gw (m:Region.Mode) (ops:Array Oper) (listed:Array Bool):List Nat:=
 (List.range ops.size).filter fun i=>!listed.getD i true&&((ops[i]?).map (·.after.all fun e=>!Region.binds m e||listed.getD e.on false)).getD false
inductive NN (m:Region.Mode) (ops:Array Oper):Nat->Array Bool->List Nat->Prop
 |stop {n:Nat} {listed:Array Bool} (h:n=0\/Gw m ops listed=[]):NN m ops n listed []
 |next {n i:Nat} {listed:Array Bool} {l:List Nat} (h:i∈Gw m ops listed) (t:NN m ops n (listed.setIfInBounds i true) l):NN m ops (n+1) listed (i::l)
theorem Pp (m:Region.Mode) (ops:Array Oper):∀(n t:Nat) (listed:Array Bool) (acc:List Nat),∃l,Region.linearise.go m ops n t listed acc=acc.reverse++l/\NN m ops n listed l:=by
 intro n;induction n with
 |zero=>intro t listed acc;exact⟨[],by simp[Region.linearise.go],.stop (.inl rfl)⟩
 |succ n ih=>
  intro t listed acc;unfold Region.linearise.go;have e:((List.range ops.size).filter fun i=>!listed.getD i true&&((ops[i]?).map (·.after.all fun e=>!Region.binds m e||listed.getD e.on false)).getD false)=Gw m ops listed:=rfl;simp only[e];cases hi:(Gw m ops listed)[t%(Gw m ops listed).length]? with
  |none=>
   refine⟨[],by simp,.stop (.inr ?_)⟩;cases hr:Gw m ops listed with
   |nil=>rfl
   |cons a l=>
    rw[hr]at hi;have:t%(a::l).length<(a::l).length:=Nat.mod_lt _ (by simp);rw[List.getElem?_eq_getElem this]at hi;cases hi
  |some i=>
   obtain⟨l,h1,h2⟩:=ih (t/(Gw m ops listed).length) (listed.setIfInBounds i true) (i::acc);exact⟨i::l,by simp only[];rw[h1];simp,.next (List.mem_of_getElem? hi) h2⟩
theorem Br (m:Region.Mode) (ops:Array Oper) (t:Nat):NN m ops ops.size (Array.replicate ops.size false) (Region.linearise m ops t):=by
 obtain⟨l,h1,h2⟩:=Pp m ops ops.size t (Array.replicate ops.size false) [];unfold Region.linearise;rw[h1];exact h2
def jU (m:Region.Mode) (ops:Array Oper):Nat->Array Bool->List (List Nat)
 |0,_=>[[]]
 |n+1,listed=>if(Gw m ops listed).isEmpty then [[]]else(Gw m ops listed).flatMap fun i=>(jU m ops n (listed.setIfInBounds i true)).map (i::·)
theorem pO {m:Region.Mode} {n:Nat} {listed:Array Bool} {l:List Nat} (h:NN m ops n listed l):l∈jU m ops n listed:=by
 induction h with
 | @stop n listed h=>
   cases n with
   |zero=>simp[jU]
   |succ n=>
    rcases h with h|h
    .omega
    .simp[jU,h]
 | @next n i listed l h _ ih=>
   simp only[jU];split
   .rename_i he;rw[List.isEmpty_iff]at he;rw[he]at h;cases h
   .simp only[List.mem_flatMap,List.mem_map];exact⟨_,h,_,ih,rfl⟩
structure Dq (P:Program) (o:Oper) (d:Nat) (v:Nat->Value) (x:Obj):Prop where
 dst:o.dst=some d
 guard:o.guard=none
 run:∀(a:Act) (w:World),(execOp a.eval o).run P w=.ok (.value (v w.heap.size)) (w.alloc x)
 ev:∀(a:Act) (w:World),(execOp a.eval o).events P w #[]=#[]
structure Made (ops:Array Oper) (d:Nat->Nat) (v:Nat->Nat->Value) (x:Nat->Obj) (is:List Nat) (kn own:Nat->Prop) (tm:Array Value) (w:World) (pos:Nat->Nat) (gK ee:Nat->Prop) (bF:Array Value) (w':World):Prop where
 size:bF.size=tm.size
 slot:∀i∈is,d i<tm.size->bF.getD (d i) undef=v i (pos i)
 others:∀j,(∀i∈is,d i≠j)->bF.getD j undef=tm.getD j undef
 new:∀i∈is,w.heap.size<=pos i/\pos i<w'.heap.size
 inj:∀i∈is,∀j∈is,pos i=pos j->i=j
 heap:∀i∈is,w'.heap[pos i]?=some (x i)
 env:Env kn w w'
 WC:∀r,gK r↔kn r\/∃i∈is,r=pos i
 Lq:∀r,ee r↔own r\/∃i∈is,r=pos i
theorem aj (a:Array Value) (i:Nat) (v u:Value) (h:i<a.size):(a.setIfInBounds i v).getD i u=v:=by
 rw[Array.getD_eq_getD_getElem?,aQ _ h];rfl
theorem getD_set_ne (a:Array Value) {i j:Nat} (v u:Value) (h:j≠i):(a.setIfInBounds i v).getD j u=a.getD j u:=by
 rw[Array.getD_eq_getD_getElem?,Array.getD_eq_getD_getElem?,aH _ h]
theorem Tree.makes {main:Bool} {K:mF} (T:Tree P main K) {b:Frame} {k:List Item} {cs:List Frame} {rest:List Nat} (hk:b.kind≠ .early) {d:Nat->Nat} {v:Nat->Nat->Value} {x:Nat->Obj}:
 ∀(is:List Nat),is.Nodup->(∀i∈is,∃o,ops[i]?=some o/\Dq P o (d i) (v i) (x i))->(∀i∈is,∀j∈is,d i=d j->i=j)->∀(kn own:Nat->Prop) (tm:Array Value) (ds:List Deferred) (w:World),(∀r,kn r->r<w.heap.size)->
  (∀pos gK ee bF w',Made ops d v x is kn own tm w pos gK ee bF w'->K gK ee (G (b.at ⟨bF,ds⟩ (.inRegion ops rest::k)) cs) w')->
  K kn own (G (b.at ⟨tm,ds⟩ (.inRegion ops (is++rest)::k)) cs) w:=by
 intro is;induction is with
 |nil=>
  intro _ _ _ kn own tm ds w _ h;exact h (fun _=>0) kn own tm w ⟨rfl,fun i hi=>by simp at hi,fun _ _=>rfl,fun i hi=>by simp at hi,fun i hi=>by simp at hi,fun i hi=>by simp at hi,Env.refl _ _,fun r=>by simp,fun r=>by simp⟩
 |cons i is ih=>
  intro EF bS WD kn own tm ds w az h;obtain⟨o,ho,hm⟩:=bS i (by simp);rw[List.nodup_cons]at EF;refine T.op (i:=i) (rest:=is++rest) ho (by unfold Region.wanted;rw[hm.guard]) hk fun w2 he=>⟨_,_,hm.run _ w2,by rw[hm.ev];exact Fair.alloc _,?_⟩
  rw[iP,iP];have hs:(w2.alloc (x i)).heap.size=w2.heap.size+1:=by show(w2.heap.push (x i)).size=_;simp
  have Tl:(w2.alloc (x i)).heap[w2.heap.size]?=some (x i):=by show(w2.heap.push (x i))[w2.heap.size]?=_;simp
  have hold:∀r,r<w2.heap.size->(w2.alloc (x i)).heap[r]?=w2.heap[r]?:=fun r hr=>by
   show(w2.heap.push (x i))[r]?=_;simp[Array.getElem?_push,Nat.ne_of_lt hr]
  have Lr:Act.put ⟨tm,ds⟩ o.dst (v i w2.heap.size)=⟨tm.setIfInBounds (d i) (v i w2.heap.size),ds⟩:=by rw[hm.dst];rfl
  rw[Lr];refine ih EF.2 (fun j hj=>bS j (by simp[hj])) (fun a ha c hc=>WD a (by simp[ha]) c (by simp[hc])) _ _ _ ds _ (fun r hr=>?_) fun pos gK ee bF w' hM=>?_
  .rw[hs];rcases hr with hr|hr
   .have:=Nat.lt_of_lt_of_le (az r hr) he.1;omega
   .omega
  .have hpi:∀j∈is,w2.heap.size+1<=pos j:=fun j hj=>by have:=(hM.new j hj).1;omega
   have bJ:∀j∈is,j≠i:=fun j hj e=>EF.1 (e▸hj);refine h (fun j=>if j=i then w2.heap.size else pos j) gK ee bF w' ⟨?_,?_,?_,?_,?_,?_,?_,?_,?_⟩
   .rw[hM.size];simp
   .intro j hj hd;rcases List.mem_cons.1 hj with rfl|hj
    .rw[if_pos rfl,hM.others (d j) (fun c hc e=>bJ c hc (WD c (by simp[hc]) j (by simp) e)),aj _ _ _ _ hd]
    .rw[if_neg (bJ j hj)];exact hM.slot j hj (by simpa using hd)
   .intro j hj;rw[hM.others j (fun c hc=>hj c (by simp[hc])),getD_set_ne _ _ _ (Ne.symm (hj i (by simp)))]
   .intro j hj;have zb9:=hM.env.1;rcases List.mem_cons.1 hj with rfl|hj
    .rw[if_pos rfl];have:=he.1;omega
    .rw[if_neg (bJ j hj)];have:=hM.new j hj;have:=he.1;omega
   .intro a ha c hc e;rcases List.mem_cons.1 ha with ea|ha<;>rcases List.mem_cons.1 hc with ec|hc
    .rw[ea,ec]
    .rw[ea,if_pos rfl,if_neg (bJ c hc)]at e;have:=hpi c hc;omega
    .rw[ec,if_pos rfl,if_neg (bJ a ha)]at e;have:=hpi a ha;omega
    .rw[if_neg (bJ a ha),if_neg (bJ c hc)]at e;exact hM.inj a ha c hc e
   .intro j hj;rcases List.mem_cons.1 hj with rfl|hj
    .rw[if_pos rfl,hM.env.2 _ (.inr rfl),Tl]
    .rw[if_neg (bJ j hj)];exact hM.heap j hj
   .refine⟨Nat.le_trans he.1 (by have:=hM.env.1;omega),fun r hr=>?_,hM.env.os.trans he.os,hM.env.out.trans he.out⟩;rw[hM.env.2 r (.inl hr),hold r (Nat.lt_of_lt_of_le (az r hr) he.1),he.2 r hr]
   .intro r;rw[hM.WC r];constructor
    .rintro((h|h)|⟨j,hj,h⟩)
     .exact .inl h
     .exact .inr ⟨i,by simp,by rw[if_pos rfl];exact h⟩
     .exact .inr ⟨j,by simp[hj],by rw[if_neg (bJ j hj)];exact h⟩
    .rintro(h|⟨j,hj,h⟩)
     .exact .inl (.inl h)
     .rcases List.mem_cons.1 hj with rfl|hj
      .rw[if_pos rfl]at h;exact .inl (.inr h)
      .rw[if_neg (bJ j hj)]at h;exact .inr ⟨j,hj,h⟩
   .intro r;rw[hM.Lq r];constructor
    .rintro((h|h)|⟨j,hj,h⟩)
     .exact .inl h
     .exact .inr ⟨i,by simp,by rw[if_pos rfl];exact h⟩
     .exact .inr ⟨j,by simp[hj],by rw[if_neg (bJ j hj)];exact h⟩
    .rintro(h|⟨j,hj,h⟩)
     .exact .inl (.inl h)
     .rcases List.mem_cons.1 hj with rfl|hj
      .rw[if_pos rfl]at h;exact .inl (.inr h)
      .rw[if_neg (bJ j hj)]at h;exact .inr ⟨j,hj,h⟩
theorem rO {e:Nat} {dir:ChanDir} (ho:o.op=.makeChan t (.const (.int .i64 0))) (hd:o.dst=some d) (hg:o.guard=none) (ht:P.underlying t=some (.chan dir e)) (hi:P.info? e=some i):
 Dq P o d (fun r=>.chan (some r)) (.chan 0 #[] false 0 0 false):=by
 obtain⟨dst,op,ty,pos,af,gd⟩:=o;simp only at ho hd hg;subst ho;subst hd;subst hg;refine⟨rfl,rfl,fun a w=>?_,fun a w=>?_⟩
 .have:=run_makeChan (P:=P) (w:=w) ht hi .i64 0 (by decide) (by simp);show(Instr.makeChan t (.int .i64 0)>>=fun v=>pure (Next.value v)).run P w=_;have this:(Instr.makeChan t (.int .i64 0)).run P w=.ok (.chan (some w.heap.size)) (w.alloc (.chan 0 #[] false 0 0 false)):=this;simp[this]
 .have h1:=run_makeChan (P:=P) (w:=w) ht hi .i64 0 (by decide) (by simp);have h2:=events_makeChan (P:=P) (w:=w) ht hi .i64 0 (by decide) (by simp) #[];have h1:(Instr.makeChan t (.int .i64 0)).run P w=.ok (.chan (some w.heap.size)) (w.alloc (.chan 0 #[] false 0 0 false)):=h1;have h2:(Instr.makeChan t (.int .i64 0)).events P w #[]=#[]:=h2;show(Instr.makeChan t (.int .i64 0)>>=fun v=>pure (Next.value v)).events P w #[]=_;simp[h1,h2]
theorem iQ {z:Value} (ho:o.op=.alloc t) (hd:o.dst=some d) (hg:o.guard=none) (hi:P.info? t=some i) (hz:i.zero=some z):
 Dq P o d (fun r=>.pointer (some ⟨r,0,none⟩)) (.cells z.cells t):=by
 obtain⟨dst,op,ty,pos,af,gd⟩:=o;simp only at ho hd hg;subst ho;subst hd;subst hg;have OP:∀w,(zeroValue t).run P w=.ok z w:=fun w=>by simp[zeroValue,typeInfo,hi,hz]
 refine⟨rfl,rfl,fun a w=>?_,fun a w=>?_⟩
 .simp[execOp,Instr.alloc,OP,newVar,newRow]
 .simp[execOp,Instr.alloc,OP,newVar,newRow]
theorem eV (w:World) (a:Addr) (v:Value) (h:r≠a.block):(w.setCell a v).heap[r]?=w.heap[r]?:=by
 simp[World.setCell,Array.getElem?_modify,Ne.symm h]
theorem iR {v:Value} (h:w.heap[r]?=some (.cells #[u] e fz)):(w.setCell ⟨r,0,none⟩ v).heap[r]?=some (.cells #[v] e fz):=by
 simp[World.setCell,Array.getElem?_modify,h]
theorem dc (h:w.heap[r]?=some (.cells #[u] e fz)):w.cell? ⟨r,0,none⟩=some u:=by simp[World.cell?,h]
theorem eh (h:w.heap[r]?=some (.cells #[u] e (0,0))):w.frozen? ⟨r,0,none⟩=false:=by simp[World.frozen?,h]
theorem gv {kn:Nat->Prop} (a:Addr) (v:Value) (h:¬kn a.block):Env kn w (w.setCell a v):=
 ⟨by simp[World.setCell],fun r hr=>eV w a v fun e=>h (e▸hr),rfl,rfl⟩
end Go.aA
namespace Go.aA
open Go.Conc
open Go.ConcN (upd upd_same upd_ne sumTo)
variable {P:Program} {kn own:Nat->Prop} {t:Trace} {w:World}
structure lG (P:Program) (gs:Array Goroutine) (g:Goroutine) (kn own:Nat->Prop) (w:World) (t:Trace):Prop where
 WE:gs[0]?=some g
 run:g.status=.running
 quit:∃q,cL P gs q
 co:Co (fun g=>g=0) (fun _=>kn) (fun _=>own) w.heap.size t
theorem Ls {At:mF} (G5:∀kn own g w d,At kn own g (World.at w d)->At kn own g w) {g:Goroutine} (h:iN P At kn own g w):
 ∀gs w1 sl t,Env kn w w1->lG P gs g kn own w1 t->∃N gK ee g' w' eH gp t',runNT P N (crowd gs w1 sl) t=(.next (crowd eH w' gp),t')/\At gK ee g' w'/\lG P eH g' gK ee w' t':=by
 induction h with
 | @mk kn own g w ok go ih=>
   have key:∀n gs w1 sl t q,sumTo gs.size q=n->Env kn w w1->gs[0]?=some g->g.status=.running->cL P gs q->Co (fun g=>g=0) (fun _=>kn) (fun _=>own) w1.heap.size t->
    ∃N gK ee g' w' eH gp t',runNT P N (crowd gs w1 sl) t=(.next (crowd eH w' gp),t')/\At gK ee g' w'/\lG P eH g' gK ee w' t':=by
    intro n;induction n using Nat.strongRecOn with
    |ind n ihn=>
     intro gs w1 sl t q hn he h0 hr hq kS;by_cases hA:At kn own g w1
     .exact⟨0,kn,own,g,w1,gs,sl,t,rfl,hA,h0,hr,⟨q,hq⟩,kS⟩
     have aw:∀x∈gs,Conc.awake x:=by
      intro x hx;obtain⟨j,hj,rfl⟩:=Array.mem_iff_getElem.1 hx;have xB:=Array.getElem?_eq_getElem hj;rcases Nat.eq_zero_or_pos j with rfl|gL
      .rw[h0]at xB;rw[<-Option.some.inj xB];exact awake_of (.inl hr)
      .exact awake_of ((hq j _ gL xB).status.imp id .inr)
     obtain⟨i,x,d,gp,hi,hx,bP⟩:=crowd_pick (P:=P) (w:=w1) (sl:=sl) aw ⟨0,_,h0,hr⟩;rcases Nat.eq_zero_or_pos i with rfl|gL
     .obtain rfl:x=g:=by rw[h0]at hi;exact(Option.some.inj hi).symm
      have bX:0<gs.size:=(Array.getElem?_eq_some_iff.1 h0).1;have bY:¬At kn own x (w1.at d):=fun h=>hA (G5 _ _ _ _ _ h);rcases ok (w1.at d) (he.trans (ik _ _ _))with h|⟨g2,w3,es,h1,h2,h3⟩
      .exact absurd h bY
      have aZ:=runT_crowd_go (P:=P) (sl:=gp) (i:=0) h0 (show stepG P (0==0) x (w1.at d)=_ from h1);rw[hq.woken h0 hr]at aZ
      obtain⟨N,gK,ee,g',w',eH,Lp,t',k1,k2,k3⟩:=ih (w1.at d) g2 w3 es (he.trans (ik _ _ _)) bY h1 (gs.setIfInBounds 0 g2) w3 gp (t++MemOp.ofEvents 0 x.frame.fn x.frame.place es) (Env.refl _ _)
       ⟨aQ _ bX,h2,⟨q,fun j y hj hy=>by rw[aH _ (by omega)]at hy;exact hq j y hj hy⟩,(kS.step (w:=w1.at d) (g:=0) rfl rfl h3 _ _).lone (upd_same ..) (upd_same ..)⟩
      exact⟨N+1,gK,ee,g',w',eH,Lp,t',by simp only[runNT,bP.trans aZ];exact k1,k2,k3⟩
     .have xD:=hq i x gL hi;have uu:(i==0)=false:=by simp;omega
      have az:i<gs.size:=(Array.getElem?_eq_some_iff.1 hi).1;cases hk:q i with
      |zero=>rw[hk]at xD;rw[show x.status=.finished from xD]at hx;cases hx
      |succ k=>
       rw[hk]at xD;rcases xD with hf|⟨_,g',hs,uf⟩
       .rw[hf]at hx;cases hx
       have aZ:=runT_crowd_go (P:=P) (sl:=gp) hi (by rw[uu];exact hs (w1.at d));rw[hq.woken h0 hr]at aZ;have e0:t++MemOp.ofEvents i x.frame.fn x.frame.place #[]=t:=by simp[MemOp.ofEvents]
       obtain⟨N,gK,ee,g2,w',eH,Lp,t',k1,k2,k3⟩:=ihn (sumTo gs.size (upd q i k)) (by
        rw[<-hn];refine jT az ?_ fun j hj=>upd_ne _ _ hj
        rw[upd_same,hk];omega) (gs.setIfInBounds i g') (w1.at d) gp t (upd q i k) (by simp) (he.trans (ik _ _ _)) (by rw[aH _ (by omega)];exact h0) hr (fun j y hj hy=>by
         by_cases e:j=i
         .subst e;rw[aQ _ az]at hy;rw[upd_same,<-Option.some.inj hy];exact uf
         .rw[aH _ e]at hy;rw[upd_ne _ _ e];exact hq j y hj hy) kS
       refine⟨N+1,gK,ee,g2,w',eH,Lp,t',?_,k2,k3⟩;have:=bP.trans aZ;simp only[runNT,this];rw[e0];exact k1
   intro gs w1 sl t he ha;obtain⟨q,hq⟩:=ha.quit;exact key _ gs w1 sl t q rfl he ha.WE ha.run hq ha.co
theorem Co.grow {gK ee:Nat->Prop} {B:Nat} (h:Co (fun g=>g=0) (fun _=>kn) (fun _=>own) B t) (hk:∀r,gK r->r<B) (ho:∀r,ee r->gK r):Co (fun g=>g=0) (fun _=>gK) (fun _=>ee) B t:=by
 have all:∀i a r,touchAt t i=some a->kj a.loc r->Knows t 0 i:=fun i a r hi hr=>by
  have hm:a.loc.isMemory=true:=by rcases hr with⟨x,e,_⟩|e<;>rw[e]<;>rfl
  rcases h.ho i a hi hm with h1|⟨g,h1,h2,_⟩
  .exact h1
  .exact absurd h2 h1
 exact⟨h.clean,h.calm,fun _ _=>ho,fun _ _=>hk,fun g k hg xz bJ=>absurd (hg.trans xz.symm) bJ,fun g hg i a r hi hr _ _=>hg▸all i a r hi hr,fun g hg i a r hi hr _=>hg▸all i a r hi hr,h.ho,h.low⟩
theorem Inv.Lu {G:ij P} {b:Nat} {S:St} {gs:Array Goroutine} (h:Inv G b S gs w t) (ho:km G S w):lG P gs S.mn.g S.mn.kn S.mn.own w t:=by
 obtain⟨h1,h2,h3,h4,_⟩:=h.Ti ho;exact⟨h1,h2,⟨S.q,h3⟩,h4⟩
end Go.aA
namespace Go.aA
variable {f lf:Frame} {p:Pi} {top:List Frame} {w:World}
def Leaves (X:Nat->Prop) (HA:kz) (HP:dE):Prop:=
 (∀kn own f w,HA kn own f w->HA (fun r=>kn r\/X r) own f w)/\
 ∀kn own f w v w3 et br,HP (fun r=>kn r\/X r) own f w v w3 et br->∃WG,HP kn own f w v w3 WG br/\et=(fun r=>WG r\/X r)/\Env X w w3/\∀r,br r->own r\/¬X r
theorem CT.keep {P:Program} {main:Bool} {base:List Frame} {Fin:nt} {HA:kz} {HP:dE} (X:Nat->Prop) (hl:Leaves X HA HP) {kn own:Nat->Prop}
 (h:CT P main base Fin HA HP kn own f top w) (hX:∀r,X r->r<w.heap.size) (hd:∀r,own r->¬X r):
 CT P main base (fun _ own v w'=>(∃Kq,Fin Kq own v w')/\Env X w w') HA HP (fun r=>kn r\/X r) own f top w:=by
 have key:=CT.ind (I:=fun kn own f top w1=>(∀r,own r->¬X r)->Env X w w1->CT P main base (fun _ own v w'=>(∃Kq,Fin Kq own v w')/\Env X w w') HA HP (fun r=>kn r\/X r) own f top w1) ?_ h
 .exact key hd (Env.refl _ _)
 intro kn own f top w1 hb EG ET
 have keep:∀{w2 w3:World} {es:Array Event},Env (fun r=>kn r\/X r) w1 w2->Fair kn own w2 w3 es->Env X w w3/\∀r,aG own w2 w3 r->¬X r:=fun{w2 w3 es} he hf=>by
  have xX:Env X w w2:=ET.trans (he.mono fun r h=>.inr h);have az:∀r,X r->r<w2.heap.size:=fun r hr=>Nat.lt_of_lt_of_le (hX r hr) xX.1;refine⟨xX.trans ⟨hf.size,fun r hr=>hf.others r (az r hr) fun ho=>EG r ho hr,hf.os,hf.out⟩,fun r hr hx=>?_⟩;rcases hr with hr|hr
  .exact EG r hr hx
  .have:=az r hx;have:=hr.1;omega
 refine CT.mk fun w2 he=>?_;rcases hb w2 (he.mono fun r h=>.inl h)with⟨w3,es,f2,nu,h1,h2,h3⟩|⟨w3,es,v,b',vH,h0,h1,h2,h3⟩|⟨w3,es,v,h0,h1,h2,h3⟩|⟨h1,c,rest,h2,h3⟩
 .refine .inl ⟨w3,es,f2,nu,h1,h2.mono (fun r h=>.inl h) (fun r h=>h),?_⟩;rw[jC];obtain⟨k1,k2⟩:=keep he h2;exact h3.1 k2 k1
 .exact .inr (.inl ⟨w3,es,v,b',vH,h0,h1,h2.mono (fun r h=>.inl h) (fun r h=>h),⟨_,h3⟩,(keep he h2).1⟩)
 .exact .inr (.inr (.inl ⟨w3,es,v,h0,h1,h2.mono (fun r h=>.inl h) (fun r h=>h),⟨_,h3⟩,(keep he h2).1⟩))
 .refine .inr (.inr (.inr ⟨hl.1 _ _ _ _ h1,c,rest,h2,fun v w3 et br hp=>?_⟩));obtain⟨WG,q1,rfl,q3,q4⟩:=hl.2 _ _ _ _ _ _ _ _ hp;refine(h3 v w3 WG br q1).1 (fun r hr=>?_) ((ET.trans (he.mono fun r h=>.inr h)).trans q3);rcases q4 r hr with x|x
  .exact EG r x
  .exact x
structure NO (P:Program) (F:Array Func) (S:Nat->Bool) (e:FuncId):Prop where
 marked:S (P.funcs.size+P.globals.size)=false
 lone:∀(lf:Frame) (cs:List Frame) (v:World),oM S lf->lf.kind=.normal->∃n,1<=n/\runN P n (lone lf cs v)=.next (lone (lf.finish (.bool true)) cs v)
 comp:∀(main:Bool) (f:Frame) (cs:List Frame) (w:World),oM S f->f.kind=.normal->stepG (ae P F) main (gX f cs) w=.go (gX (Frame.enter (ae P F) e #[] .normal) (f::cs)) w #[]
def RL (Q:Program) (e:FuncId):kz:=fun _ _ f _=>f=Frame.enter Q e #[] .normal
def uy:dE:=fun kn own _ w v w3 et br=>v=.bool true/\Env kn w w3/\et=kn/\br=own
section
variable {P:Program} {F:Array Func} {S:Nat->Bool} {N:Nat} {e:FuncId}
theorem oM.lone (h:ky P S Ko p lf f) (hh:oM S f):oM S lf:=by
 obtain⟨hm,o,ops,i,is,k,h1,h2,h3,h4⟩:=hh;have jS:=h.mode;rw[hm]at jS;have aZ:lf.mode=.run:=by generalize lf.mode=x at jS;cases jS;rfl
 have EI:=h.todo;rw[h1]at EI;generalize h5:lf.todo=t at EI;cases EI with
 |cons hi EI=>
  cases hi with
  |inRegion _ _=>
   refine⟨aZ,o,ops,i,is,_,h5,h2,h3,?_⟩;rw[<-h4];congr 1;exact funext fun j=>pJ ops h.tmps j
section
variable (Q:Program) (S:Nat->Bool) (N:Nat) (main:Bool) (base:List Frame) (Fin:nt) (HA:kz) (HP:dE)
def Nd.Lv (x:Nd) (w2 w3:World):Prop:=Env (jx x.p) w2 w3/\¬CT Q main base Fin HA HP (jx x.p) (bT N x.p) (x.f.finish (.bool true)) x.top w3
open Classical in
noncomputable def Nd.Dr (x:Nd):World:=if h:∃w3,x.Lv Q N main base Fin HA HP (x.pick Q N main base Fin HA HP) w3 then h.choose else x.w
theorem Nd.Bs (x:Nd) (h:∃w3,x.Lv Q N main base Fin HA HP (x.pick Q N main base Fin HA HP) w3):x.Lv Q N main base Fin HA HP (x.pick Q N main base Fin HA HP) (x.Dr Q N main base Fin HA HP):=by
 unfold Nd.Dr;rw[dif_pos h];exact h.choose_spec
open Classical in
noncomputable def Nd.Tm (x:Nd):Nd:=
 if oM S x.f then⟨x.p,x.L,x.f.finish (.bool true),x.top,x.Dr Q N main base Fin HA HP⟩
 else match x.step Q main base (x.pick Q N main base Fin HA HP)with
 |.go g w3 _=>⟨ext x.p x.L (x.pick Q N main base Fin HA HP).heap.size (w3.heap.size-(x.pick Q N main base Fin HA HP).heap.size),x.L+(w3.heap.size-(x.pick Q N main base Fin HA HP).heap.size),
    g.frame,g.callers.take (g.callers.length-base.length),w3⟩
 |_=>x
noncomputable def Nd.NP (x:Nd):Nat->Nd
 |0=>x
 |k+1=>(Nd.NP x k).Tm Q S N main base Fin HA HP
open Classical in
noncomputable def Nd.He (x:Nd):Nat:=
 if oM S x.f then 0 else(gw (x.step Q main base (x.pick Q N main base Fin HA HP))).drawn-(x.pick Q N main base Fin HA HP).drawn
noncomputable def Nd.Hf (x:Nd) (i:Nat):Question->Nat:=(x.pick Q N main base Fin HA HP).tape ((x.pick Q N main base Fin HA HP).drawn+i)
end
theorem yu (hc:Closed P F S Ko) (hg:ii P S p) {rD:List Frame} {lw:World} (hw:WR P S (KS P S) N p lw w)
 (hf:FL P S Ko p (lf::rD) (f::top)) {R:Value->World->Prop} (hl:NO P F S e) (EJ:Wr P lf rD lw R fun _ _=>False) (main:Bool) (base:List Frame) (hb:OU P S main base):
 CT (ae P F) main base (rE P S N p R) (RL (ae P F) e) uy (jx p) (bT N p) f top w:=by
 refine Classical.byContradiction fun X6=>?_;let Fin:=rE P S N p R
 let HA:=RL (ae P F) e
 let x0:Nd:=⟨p,lw.heap.size,f,top,w⟩
 have xy:¬x0.ct (ae P F) N main base Fin HA uy:=X6;let X:=fun k=>Nd.NP (ae P F) S N main base Fin HA uy x0 k
 let pk:=fun k=>(X k).pick (ae P F) N main base Fin HA uy
 let m:=fun k=>(X k).He (ae P F) S N main base Fin HA uy
 let D:=fun k=>fS m lw.drawn k
 let start:=fun T:Nat->Question->Nat=>Go.lone lf (rD++[Base P]) {lw with tape:=T}
 have inv:∀k (T:Nat->Question->Nat),(∀j,j<k->∀i,i<m j->T (D j+i)=(X j).Hf (ae P F) N main base Fin HA uy i)->∃ν g gs v,k<=ν/\runN P ν (start T)=.next (Go.lone g (gs++[Base P]) v)/\WR P S (KS P S) N (X k).p v (X k).w/\
  FL P S Ko (X k).p (g::gs) ((X k).f::(X k).top)/\ii P S (X k).p/\v.tape=T/\v.drawn=D k/\v.heap.size=(X k).L/\(¬(X k).ct (ae P F) N main base Fin HA uy)/\Le p (X k).p:=by
  intro k;induction k with
  |zero=>intro T _;exact⟨0,lf,rD,{lw with tape:=T},Nat.le_refl _,rfl,hw.tape T lw.drawn,hf,hg,rfl,rfl,rfl,xy,Le.refl p⟩
  |succ k ih=>
   intro T hT;obtain⟨ν,g,gs,v,e0,e1,e2,e3,e4,e5,e6,e7,e8,e9⟩:=ih T fun j hj i hi=>hT j (by omega) i hi;obtain⟨vN,rC⟩:=(X k).uq (ae P F) N main base Fin HA uy e8;have xA:WR P S (KS P S) N (X k).p v (pk k):=e2.env vN;obtain⟨n,fr,w1,c1,c2⟩:=EJ T
   have mi:Ends P fr w1:=by
    rcases c2 with⟨rv,h,_⟩|⟨e,ch,h,_⟩
    .exact .inl ⟨rv,h⟩
    .exact .inr ⟨_,h⟩
   obtain⟨hle,pM⟩:=before c1 mi e1;by_cases kQ:oM S (X k).f
   ·
    have tG:m k=0:=by show Nd.He _ _ _ _ _ _ _ _ (X k)=_;unfold Nd.He;rw[if_pos kQ]
    have EK:∃w3,(X k).Lv (ae P F) N main base Fin HA uy (pk k) w3:=by
     refine Classical.byContradiction fun iF=>rC (.inl ⟨pk k,#[],Frame.enter (ae P F) e #[] .normal,(X k).f::(X k).top,?_,Fair.refl (fun e h=>by simp at h),?_⟩)
     .exact hl.comp main (X k).f ((X k).top++base) (pk k) kQ e3.head.kg
     .rw[aN,aN];refine CT.mk fun w2 he=>.inr (.inr (.inr ⟨rfl,(X k).f,(X k).top,rfl,fun v' w3 et br hp=>?_⟩));obtain⟨rfl,yx,rfl,rfl⟩:=hp;exact Classical.byContradiction fun hx=>iF ⟨w3,he.trans yx,hx⟩
    obtain⟨Tn,O0⟩:=(X k).Bs (ae P F) N main base Fin HA uy EK;obtain⟨nn,p0,p1⟩:=hl.lone g (gs++[Base P]) v (oM.lone e3.head kQ) e3.head.kind
    have Gv:X (k+1)=⟨(X k).p,(X k).L,(X k).f.finish (.bool true),(X k).top,(X k).Dr (ae P F) N main base Fin HA uy⟩:=by
     show(X k).Tm (ae P F) S N main base Fin HA uy=_;unfold Nd.Tm;rw[if_pos kQ]
    rw[Gv];refine⟨ν+nn,g.finish (.bool true),gs,v,by omega,by rw[runN_add,e1];exact p1,xA.env Tn,e3.top (e3.head.finish (.bool true)) (dD _ _),e4,e5,?_,e7,O0,e9⟩;rw[e6];show D k=fS m lw.drawn k+m k;rw[tG];rfl
   ·
    have tG:m k=(gw ((X k).step (ae P F) main base (pk k))).drawn-(pk k).drawn:=by show Nd.He _ _ _ _ _ _ _ _ (X k)=_;unfold Nd.He;rw[if_neg kQ]
    have A6:kh (m k) v (pk k):=fun j hj q=>by
     have:=hT k (by omega) j hj;rw[e5,e6,this];rfl
    have hd:(gw (stepG (ae P F) main {frame:=(X k).f,callers:=(X k).top++base,status:=.running,dying:=none} (pk k))).drawn<=(pk k).drawn+m k:=by
     rw[tG];show(gw ((X k).step (ae P F) main base (pk k))).drawn<=(pk k).drawn+((gw ((X k).step (ae P F) main base (pk k))).drawn-(pk k).drawn)
     omega
    have O4:=di.step (b:=Base P) (bs:=[]) (aP:=base) hc xA e4 e3 (fun _ _ _ _ _ _ _ h=>h) kQ true main hb A6 hd;rcases O4 with⟨o,w3,es,hs⟩|⟨q,ch,RJ,w3,es,Di,hs⟩|⟨c,nn,v1,w3,es,cV,hm,S5,jy⟩
    .exact(vM pM mi (step_lone_ended (o:=o) (w':=w3) (by rw[hs];rfl))).elim
    .exfalso;have bL:step P (Go.lone g (gs++[Base P]) v)=.next (Go.lone ((Base P).raise ch) [] w3):=step_lone_go (by rw[hs];rfl);obtain⟨_,hσ⟩:=vL pM bL (eR P ch w3);rw[hσ]at bL;rcases c2 with⟨rv,h,_⟩|⟨e,Dk,h,hF,hnv⟩
     .rw[step_leave_returned h]at bL;simp only[Stepped.next.injEq]at bL;have q1:=(eL bL).1;rw[dA]at q1;have:=congrArg (fun f:Frame=>f.mode) q1;simp[Base,Frame.raise]at this
     .exact hF
    .obtain⟨rH,qP,qu⟩:=cq.fair xA hm S5;rcases jy with⟨f2,Lj,t2,Lk,AF,hs,tg⟩|⟨O5,A7,hv,hs,tg⟩
     .have bL:step P (Go.lone g (gs++[Base P]) v)=.next (Go.lone f2 (t2++[Base P]) v1):=step_lone_go (by rw[hs];rfl);have oA:=rA P ν _ _ e1;rw[bL]at oA;have mh:(X k).step (ae P F) main base (pk k)=.go (gX Lj (Lk++base)) w3 cV:=tg
      have Gv:X (k+1)=⟨ext (X k).p (X k).L (pk k).heap.size c,(X k).L+c,Lj,Lk,w3⟩:=by
       show(X k).Tm (ae P F) S N main base Fin HA uy=_;unfold Nd.Tm;rw[if_neg kQ];have A8:(X k).step (ae P F) main base ((X k).pick (ae P F) N main base Fin HA uy)=.go (gX Lj (Lk++base)) w3 cV:=tg;rw[A8]
       have bX:w3.heap.size-((X k).pick (ae P F) N main base Fin HA uy).heap.size=c:=by
        have h6:w3.heap.size=(pk k).heap.size+c:=hm.kG;show w3.heap.size-(pk k).heap.size=c;rw[h6,Nat.add_sub_cancel_left]
       simp only[bX];congr 1;rw[List.length_append,Nat.add_sub_cancel];exact List.take_left
      rw[Gv];have hrel:=hm.rel;rw[e7]at hrel AF qP qu;have EM:=eG (X k).p (X k).L (pk k).heap.size c;refine⟨ν+1,f2,t2,v1,by omega,oA,hrel,AF,e4.mono EM,hm.tape.trans e5,?_,by rw[hm.size,e7],?_,e9.trans EM⟩
      .rw[hm.drawn,e6]
       have:m k=nn:=by
        rw[tG,mh];have h5:w3.drawn=(pk k).drawn+nn:=hm.kH;show w3.drawn-(pk k).drawn=nn;rw[h5,Nat.add_sub_cancel_left]
       show D k+nn=fS m lw.drawn k+m k;rw[this]
      .intro A9;refine rC (.inl ⟨w3,cV,Lj,Lk,mh,rH,?_⟩);unfold Nd.ct at A9;rw[qP,qu]at A9;exact A9
     .exfalso;have bL:step P (Go.lone g (gs++[Base P]) v)=.next (Go.lone ((Base P).finish O5) [] v1):=step_lone_go (by rw[hs];rfl);obtain⟨_,hσ⟩:=vL pM bL (fR P O5 v1);rw[hσ]at bL;rcases c2 with⟨rv,h,hR⟩|⟨e,Dk,h,hF,_⟩
      .rw[step_leave_returned h]at bL;simp only[Stepped.next.injEq]at bL;obtain⟨q1,_,q3⟩:=eL bL;rw[dA,dA]at q1
       have Ba:rv=O5:=by
        have:=congrArg (fun f:Frame=>f.tmps) q1;simpa using this
       subst Ba;subst q3;have mE:Fin (aG (jx (X k).p) (pk k) w3) (aG (bT N (X k).p) (pk k) w3) A7 w3:=⟨_,rv,w1,hR,hv,hm.rel,e9.trans (eG _ _ _ _),qP.symm,qu.symm⟩
       rcases tg with⟨b',vH,jz,tg⟩|⟨jz,tg⟩
       .exact rC (.inr (.inl ⟨w3,cV,A7,b',vH,jz,tg,rH,mE⟩))
       .exact rC (.inr (.inr (.inl ⟨w3,cV,A7,jz,tg,rH,mE⟩)))
      .exact hF
 obtain⟨T,hT⟩:=splice m (fun k j=>(X k).Hf (ae P F) N main base Fin HA uy j) lw.drawn;obtain⟨n,fr,w1,c1,c2⟩:=EJ T
 have mi:Ends P fr w1:=by
  rcases c2 with⟨rv,h,_⟩|⟨e,ch,h,_⟩
  .exact .inl ⟨rv,h⟩
  .exact .inr ⟨_,h⟩
 obtain⟨ν,g,gs,v,e0,e1,_⟩:=inv (n+1) T fun j _ i hi=>hT j i hi;obtain⟨hle,_⟩:=before c1 mi e1;omega
end
end Go.aA
namespace Go.aA
open Go.Conc
open Go.ConcN (upd upd_same upd_ne sumTo sumTo_upd sumTo_congr le_sumTo sumTo_le)
variable {b:Frame} {bs:List Frame} {m m':Machine} {t:Trace}
def nC (P:Program) (b:Frame) (bs:List Frame) (Fin:nt) (m:Machine) (t:Trace):Prop:=
 ∃N v w3 et br eH gp t' q',runNT P N m t=(.next (crowd eH w3 gp),t')/\Fin et br v w3/\eH[0]?=some (gX (b.finish v) bs)/\cL P eH q'/\Co (fun g=>g=0) (fun _=>et) (fun _=>br) w3.heap.size t'
theorem nC.step {P:Program} {Fin:nt} {ops:Array MemOp} (h:stepT P m=(.next m',ops)) (k:nC P b bs Fin m' (t++ops)):nC P b bs Fin m t:=by
 obtain⟨N,v,w3,et,br,eH,gp,t',q',h1,h2⟩:=k;exact⟨N+1,v,w3,et,br,eH,gp,t',q',by simp only[runNT,h];exact h1,h2⟩
theorem nC.steps {P:Program} {Fin:nt} {t':Trace} {N:Nat} (h:runNT P N m t=(.next m',t')) (k:nC P b bs Fin m' t'):nC P b bs Fin m t:=by
 obtain⟨M,v,w3,et,br,eH,gp,t',q',h1,h2⟩:=k;exact⟨N+M,v,w3,et,br,eH,gp,t',q',by rw[runNT_add,h];exact h1,h2⟩
section
variable {P:Program} {Fin:nt} {HA:kz} {HP:dE} {b0:Frame} {Bt:List Frame}
theorem Bu (Bm:vT P HA HP) (G5:∀kn own f w d,HA kn own f (World.at w d)->HA kn own f w) (Tj:∀kn own f w d v w3 et br,HP kn own f w v w3 et br->HP kn own f (World.at w d) v w3 et br)
 {kn own:Nat->Prop} {f:Frame} {top:List Frame} {w:World} (h:CT P true (b0::Bt) Fin HA HP kn own f top w):
 ∀gs w1 sl t q,Env kn w w1->gs[0]?=some (gX f (top++b0::Bt))->cL P gs q->Co (fun g=>g=0) (fun _=>kn) (fun _=>own) w1.heap.size t->nC P b0 Bt Fin (crowd gs w1 sl) t:=by
 refine CT.ind (I:=fun kn own f top w=>∀gs w1 sl t q,Env kn w w1->gs[0]?=some (gX f (top++b0::Bt))->cL P gs q->Co (fun g=>g=0) (fun _=>kn) (fun _=>own) w1.heap.size t->nC P b0 Bt Fin (crowd gs w1 sl) t) ?_ h;intro kn own f top w jB
 have key:∀n gs w1 sl t q,sumTo gs.size q=n->Env kn w w1->gs[0]?=some (gX f (top++b0::Bt))->cL P gs q->Co (fun g=>g=0) (fun _=>kn) (fun _=>own) w1.heap.size t->nC P b0 Bt Fin (crowd gs w1 sl) t:=by
  intro n;induction n using Nat.strongRecOn with
  |ind n ih=>
   intro gs w1 sl t q hn he h0 hq kS
   have pay:HA kn own f w1->∀c rest,top=c::rest->(∀v w3 et br,HP kn own f w1 v w3 et br->(∀gs w1 sl t q,Env et w3 w1->gs[0]?=some (gX (c.finish v) (rest++b0::Bt))->cL P gs q->Co (fun g=>g=0) (fun _=>et) (fun _=>br) w1.heap.size t->nC P b0 Bt Fin (crowd gs w1 sl) t))->nC P b0 Bt Fin (crowd gs w1 sl) t:=by
    intro hA c rest qs hc;subst qs;obtain⟨N,v,w3,et,br,eH,gp,t',q',p1,p2,p3,p4,p5⟩:=Bm kn own f c (rest++b0::Bt) w1 gs sl t q h0 hq kS hA;exact(hc v w3 et br p2 eH w3 gp t' q' (Env.refl _ _) p3 p4 p5).steps p1
   have aw:∀g∈gs,Conc.awake g:=by
    intro g hg;obtain⟨j,hj,rfl⟩:=Array.mem_iff_getElem.1 hg;have xB:=Array.getElem?_eq_getElem hj;rcases Nat.eq_zero_or_pos j with rfl|gL
    .rw[h0]at xB;rw[<-Option.some.inj xB];exact awake_of (.inl rfl)
    .exact awake_of ((hq j _ gL xB).status.imp id .inr)
   obtain⟨i,g,d,gp,hi,hg,bP⟩:=crowd_pick (P:=P) (w:=w1) (sl:=sl) aw ⟨0,_,h0,rfl⟩;rcases Nat.eq_zero_or_pos i with rfl|gL
   .obtain rfl:g=gX f (top++b0::Bt):=by rw[h0]at hi;exact(Option.some.inj hi).symm
    have bX:0<gs.size:=(Array.getElem?_eq_some_iff.1 h0).1;rcases jB (w1.at d) (he.trans (ik _ _ _))with⟨w3,es,f2,nu,h1,h2,h3⟩|⟨w3,es,v,b,bs,K8,h1,h2,h3⟩|⟨w3,es,v,K8,h1,h2,h3⟩|⟨h1,c,rest,qs,h2⟩
    .have aZ:=runT_crowd_go (P:=P) (sl:=gp) (i:=0) h0 (show stepG P (0==0) (gX f (top++b0::Bt)) (w1.at d)=_ from h1);rw[hq.woken h0 rfl]at aZ;refine nC.step (bP.trans aZ) (h3.1 _ w3 gp _ q (Env.refl _ _) (aQ _ bX) (fun j x hj hx=>?_) ?_)
     .rw[aH _ (by omega)]at hx;exact hq j x hj hx
     .exact(kS.step (w:=w1.at d) (g:=0) rfl rfl h2 _ _).lone (upd_same ..) (upd_same ..)
    .obtain⟨rfl,rfl⟩:b0=b/\Bt=bs:=by simpa using K8
     have aZ:=runT_crowd_go (P:=P) (sl:=gp) (i:=0) h0 (show stepG P (0==0) (gX f (top++b0::Bt)) (w1.at d)=_ from h1);rw[hq.woken h0 rfl]at aZ;refine nC.step (bP.trans aZ) ⟨0,v,w3,_,_,_,gp,_,q,rfl,h3,aQ _ bX,fun j x hj hx=>?_,(kS.step (w:=w1.at d) (g:=0) rfl rfl h2 _ _).lone (upd_same ..) (upd_same ..)⟩;rw[aH _ (by omega)]at hx;exact hq j x hj hx
    .cases K8
    .exact pay (G5 _ _ _ _ _ h1) c rest qs fun v w3 et br hp=>(h2 v w3 et br (Tj _ _ _ _ _ _ _ _ _ hp)).1
   .have xD:=hq i g gL hi;have uu:(i==0)=false:=by simp;omega
    have az:i<gs.size:=(Array.getElem?_eq_some_iff.1 hi).1;cases hk:q i with
    |zero=>rw[hk]at xD;rw[show g.status=.finished from xD]at hg;cases hg
    |succ k=>
     rw[hk]at xD;rcases xD with hf|⟨_,g',hs,uf⟩
     .rw[hf]at hg;cases hg
     have aZ:=runT_crowd_go (P:=P) (sl:=gp) hi (by rw[uu];exact hs (w1.at d));rw[hq.woken h0 rfl]at aZ;have e0:t++MemOp.ofEvents i g.frame.fn g.frame.place #[]=t:=by simp[MemOp.ofEvents]
     refine nC.step (bP.trans aZ) ?_;rw[e0];refine ih (sumTo gs.size (upd q i k)) ?_ _ (w1.at d) gp t (upd q i k) (by simp) (he.trans (ik _ _ _)) ?_ (fun j x hj hx=>?_) kS
     .rw[<-hn];refine jT az ?_ fun j hj=>upd_ne _ _ hj;rw[upd_same,hk];omega
     .rw[aH _ (by omega)];exact h0
     .by_cases e:j=i
      .subst e;rw[aQ _ az]at hx;rw[upd_same,<-Option.some.inj hx];exact uf
      .rw[aH _ e]at hx;rw[upd_ne _ _ e];exact hq j x hj hx
 intro gs w1 sl t q he h0 hq kS;exact key _ gs w1 sl t q rfl he h0 hq kS
end
end Go.aA
namespace Go.aA
theorem CT.To {P:Program} {main:Bool} {base:List Frame} {Fin:nt} {e:FuncId} (X:Nat->Prop) {kn own:Nat->Prop} {f:Frame} {top:List Frame} {w:World}
 (h:CT P main base Fin (RL P e) uy kn own f top w) (hX:∀r,X r->r<w.heap.size) (hd:∀r,own r->¬X r):
 CT P main base (fun _ own v w'=>(∃Kq,Fin Kq own v w')/\Env X w w') (fun kn own f w1=>RL P e kn own f w1/\(∀r,X r->kn r)/\Env X w w1) uy (fun r=>kn r\/X r) own f top w:=by
 have key:=CT.ind (I:=fun kn own f top w1=>(∀r,own r->¬X r)->Env X w w1->CT P main base (fun _ own v w'=>(∃Kq,Fin Kq own v w')/\Env X w w') (fun kn own f w1=>RL P e kn own f w1/\(∀r,X r->kn r)/\Env X w w1) uy (fun r=>kn r\/X r) own f top w1) ?_ h
 .exact key hd (Env.refl _ _)
 intro kn own f top w1 hb EG ET
 have keep:∀{w2 w3:World} {es:Array Event},Env (fun r=>kn r\/X r) w1 w2->Fair kn own w2 w3 es->Env X w w3/\∀r,aG own w2 w3 r->¬X r:=fun{w2 w3 es} he hf=>by
  have xX:Env X w w2:=ET.trans (he.mono fun r h=>.inr h);have az:∀r,X r->r<w2.heap.size:=fun r hr=>Nat.lt_of_lt_of_le (hX r hr) xX.1;refine⟨xX.trans ⟨hf.size,fun r hr=>hf.others r (az r hr) fun ho=>EG r ho hr,hf.os,hf.out⟩,fun r hr hx=>?_⟩;rcases hr with hr|hr
  .exact EG r hr hx
  .have:=az r hx;have:=hr.1;omega
 refine CT.mk fun w2 he=>?_;rcases hb w2 (he.mono fun r h=>.inl h)with⟨w3,es,f2,nu,h1,h2,h3⟩|⟨w3,es,v,b',vH,h0,h1,h2,h3⟩|⟨w3,es,v,h0,h1,h2,h3⟩|⟨h1,c,rest,h2,h3⟩
 .refine .inl ⟨w3,es,f2,nu,h1,h2.mono (fun r h=>.inl h) (fun r h=>h),?_⟩;rw[jC];obtain⟨k1,k2⟩:=keep he h2;exact h3.1 k2 k1
 .exact .inr (.inl ⟨w3,es,v,b',vH,h0,h1,h2.mono (fun r h=>.inl h) (fun r h=>h),⟨_,h3⟩,(keep he h2).1⟩)
 .exact .inr (.inr (.inl ⟨w3,es,v,h0,h1,h2.mono (fun r h=>.inl h) (fun r h=>h),⟨_,h3⟩,(keep he h2).1⟩))
 .have xX:Env X w w2:=ET.trans (he.mono fun r h=>.inr h);refine .inr (.inr (.inr ⟨⟨h1,fun r hr=>.inr hr,xX⟩,c,rest,h2,fun v w3 et br hp=>?_⟩));obtain⟨rfl,q2,rfl,rfl⟩:=hp;exact(h3 (.bool true) w3 kn br ⟨rfl,q2.mono fun r h=>.inl h,rfl,rfl⟩).1 EG (xX.trans (q2.mono fun r h=>.inr h))
def rowsOf (w:World):Pi:=⟨fun r r'=>r=r'/\∃c e fz,w.heap[r]?=some (.cells c e fz),fun _ _=>False,false⟩
open Classical in
theorem Lw {S:Nat->Bool} (hJ:S JK=true) (p:Pi) (hl:p.l=false):∀(n:Nat) (v':Value),SizeOf.sizeOf v'<n->∃v,VR S p v v'/\(VR S p v' v'->v=v'):=by
 intro n;induction n with
 |zero=>intro v' h;omega
 |succ n ih=>
  intro v' hn;by_cases hs:VR S p v' v'
  .exact⟨v',hs,fun _=>rfl⟩
  have bS:∀xs:Array Value,SizeOf.sizeOf xs<n->∃ys:Array Value,AR S p ys xs:=by
   intro xs hx
   have hm:∀x∈xs,∃v,VR S p v x:=fun x Tp=>by
    have:=Array.sizeOf_lt_of_mem Tp;obtain⟨v,h,_⟩:=ih x (by omega);exact⟨v,h⟩
   let g:Value->Value:=fun x=>if h:∃v,VR S p v x then h.choose else x
   refine⟨xs.map g,by simp,fun i a b ha hb=>?_⟩;rw[Array.getElem?_map,hb]at ha;simp only[Option.map_some,Option.some.injEq]at ha;subst ha;have h:=hm b (Array.mem_of_getElem? hb);show VR S p (if h:∃v,VR S p v b then h.choose else b) b;rw[dif_pos h];exact h.choose_spec
  cases hj:Nv v' with
  |true=>exact⟨.tuple #[],.oD hl hJ hj,fun h=>absurd h hs⟩
  |false=>
   cases v' with
   |bool b=>exact absurd (.bool b) hs
   |int k n=>exact absurd (.int k n) hs
   |string s=>exact absurd (.string s) hs
   |chan c=>exact absurd (.chan c) hs
   |nilFunc=>exact absurd .nilFunc hs
   |nilIface=>exact absurd .nilIface hs
   |pointer a=>cases a with
    |none=>exact absurd .tw hs
    |some a=>cases hj
   |slice a l c=>cases a with
    |none=>exact absurd (.cX l c) hs
    |some a=>cases hj
   |map a=>cases a with
    |none=>exact absurd .tx hs
    |some a=>cases hj
   |func f xs ys=>cases f with
    |method n=>exact⟨MF,.AP hl hJ n xs ys,fun h=>absurd h hs⟩
    |_=>cases hj
   |agg xs=>
    obtain⟨ys,hy⟩:=bS xs (by simp only[Value.agg.sizeOf_spec]at hn;omega);exact⟨_,hy.agg,fun h=>absurd h hs⟩
   |tuple xs=>
    obtain⟨ys,hy⟩:=bS xs (by simp only[Value.tuple.sizeOf_spec]at hn;omega);exact⟨_,hy.tuple,fun h=>absurd h hs⟩
   |_=>cases hj
open Classical in
noncomputable def dz (S:Nat->Bool) (p:Pi) (v':Value):Value:=if h:∃v,VR S p v v'/\(VR S p v' v'->v=v')then h.choose else v'
theorem Ds {S:Nat->Bool} (hJ:S JK=true) (p:Pi) (hl:p.l=false) (v':Value):VR S p (dz S p v') v'/\(VR S p v' v'->dz S p v'=v'):=by
 have h:=Lw hJ p hl (SizeOf.sizeOf v'+1) v' (by omega);unfold dz;rw[dif_pos h];exact h.choose_spec
noncomputable def Yk (S:Nat->Bool) (p:Pi):Obj->Obj
 |.cells c e _=>.cells (c.map (dz S p)) e (0,c.size)
 |o=>o
noncomputable def iH (S:Nat->Bool) (w:World):World:={w with heap:=w.heap.map (Yk S (rowsOf w))}
section
variable {P:Program} {S:Nat->Bool} {w:World}
theorem yz:(iH S w).heap.size=w.heap.size:=by show(w.heap.map _).size=_;simp
theorem vW {r:Nat} {c:Array Value} {e:TypeId} {fz:Nat×Nat} (h:w.heap[r]?=some (.cells c e fz)):(iH S w).heap[r]?=some (.cells (c.map (dz S (rowsOf w))) e (0,c.size)):=by
 show(w.heap.map _)[r]?=_;rw[Array.getElem?_map,h];rfl
theorem Pq (hJ:S JK=true) (hg:P.globals.size<=w.heap.size):WR P S (KS P S) w.heap.size (rowsOf w) (iH S w) w:=by
 refine⟨fun r r' s s' x y=>by rw[<-x.1,<-y.1],fun r r' x=>?_,by rw[yz];exact Nat.le_refl _,fun r r' x=>by rw[x.1],by rw[yz];exact hg,hg,rfl,fun _ _ h=>h⟩;obtain⟨rfl,c,e,fz,h⟩:=x;refine⟨_,_,vW h,h,.inl ⟨(Array.getElem?_eq_some_iff.1 h).1,c.map (dz S (rowsOf w)),c,e,fz,by simp,rfl,by simp,fun i a b ha hb=>?_⟩⟩;rw[Array.getElem?_map,hb]at ha;simp only[Option.map_some,Option.some.injEq]at ha;subst ha;exact(Ds hJ _ rfl b).1
theorem kU (hJ:S JK=true) {a:Addr} {v:Value} (h:w.cell? a=some v) (hv:VR S (rowsOf w) v v):(iH S w).cell? a=some v:=by
 unfold World.cell? at h⊢;split at h
 .rename_i c e fz hx;rw[vW hx];simp only;split at h
  .cases h
  .rename_i lW;rw[if_neg lW,Array.getElem?_map,h];simp only[Option.map_some,Option.some.injEq];exact(Ds hJ _ rfl v).2 hv
 .cases h
end
end Go.aA
