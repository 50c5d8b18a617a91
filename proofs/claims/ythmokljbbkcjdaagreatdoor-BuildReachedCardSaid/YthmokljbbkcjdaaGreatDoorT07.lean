/- A part. Conditions: none. -/
import Derived.Test.YthmokljbbkcjdaaGreatDoorT06
import Derived.ChangeMade
set_option linter.all false
namespace Go.aC
open Go.Made
variable {P:Program} {i:TypeInfo} {info:TypeId->Option TypeInfo} {v:Value}
def flat (v:Value):Prop:=∀x∈v.cells,plain 5 x=true
theorem xi:∀(n:Nat) (v:Value),plain n v=true->plain (n+1) v=true:=by
 intro n;induction n with
 |zero=>
  intro v h;cases v;case pointer a=>cases a<;>first|rfl|(simp[aC.plain]at h;done)
  case slice a l c=>cases a<;>first|rfl|(simp[aC.plain]at h;done)
  case map a=>cases a<;>first|rfl|(simp[aC.plain]at h;done)
  case chan a=>cases a<;>first|rfl|(simp[aC.plain]at h;done)
  all_goals first|rfl|(simp[aC.plain]at h;done)
 |succ n ih=>
  intro v h;cases v;case pointer a=>cases a<;>first|rfl|(simp[aC.plain]at h;done)
  case slice a l c=>cases a<;>first|rfl|(simp[aC.plain]at h;done)
  case map a=>cases a<;>first|rfl|(simp[aC.plain]at h;done)
  case chan a=>cases a<;>first|rfl|(simp[aC.plain]at h;done)
  case iface t v=>exact ih v h
  case agg xs=>
   have h:xs.all (aC.plain n)=true:=h;show xs.all (aC.plain (n+1))=true;exact Array.all_eq_true.2 fun i hi=>ih _ (Array.all_eq_true.1 h i hi)
  case tuple xs=>
   have h:xs.all (aC.plain n)=true:=h;show xs.all (aC.plain (n+1))=true;exact Array.all_eq_true.2 fun i hi=>ih _ (Array.all_eq_true.1 h i hi)
  all_goals first|rfl|(simp[aC.plain]at h;done)
theorem jA {n m:Nat} (BP:n<=m) (h:plain n v=true):plain m v=true:=by
 induction BP with
 |refl=>exact h
 |step _ ih=>exact xi _ _ ih
theorem flat.plain (h:flat v):plain 50 v=true:=by
 unfold flat at h;cases v with
 |agg xs=>
  show xs.all (aC.plain 49)=true;exact Array.all_eq_true.2 fun i hi=>jA (by omega) (h _ (Array.getElem_mem hi))
 |_=>exact jA (by omega) (h _ (by simp[Value.cells]))
theorem Av {α β:Type} (f:α->β->Option (ForInStep β)) (I:β->Prop) (hf:∀a b r,I b->f a b=some r->I (match r with|.yield b=>b|.done b=>b)):∀(l:List α) (b r:β),I b->forIn l b f=some r->I r:=by
 intro l;induction l with
 |nil=>intro b r hb h;simp only[List.forIn_nil,pure,Option.some.injEq]at h;exact h▸hb
 |cons a l ih=>
  intro b r hb h;simp only[List.forIn_cons,bind,Option.bind_eq_some_iff]at h;obtain⟨s,hs,h⟩:=h;have:=hf a b s hb hs;cases s with
  |done b'=>simp only[pure,Option.some.injEq]at h;exact h▸this
  |yield b'=>exact ih b' r this h
def CA (info:TypeId->Option TypeInfo):Prop:=∀t i v,info t=some i->i.zero=some v->flat v
theorem lM (hi:CA info) {fs:Array Field} (h:reckonStruct info fs=some i) (hv:i.zero=some v):flat v:=by
 unfold reckonStruct at h;simp only[bind,Option.bind_eq_some_iff,pure]at h;obtain⟨a,ha,h⟩:=h;rw[<-Array.forIn_toList]at ha;have key:=Av _ (fun s:Array Field×Nat×Nat×Nat×Nat×Bool×Bool×Option (Array Value)×String=>∀z,s.2.2.2.2.2.2.2.1=some z->∀x∈z,aC.plain 5 x=true) ?_ _ _ _ ?_ ha
 .split at h
  all_goals
   simp only[Option.some.injEq]at h;subst h;simp only[Option.map_eq_some_iff]at hv;obtain⟨z,hz,rfl⟩:=hv;exact key z hz
 .intro f b r hb hr;simp only[Option.bind_eq_some_iff]at hr;obtain⟨j,hj,hr⟩:=hr
  have fin:∀z,(b.2.2.2.2.2.2.2.1.bind fun z0=>j.zero.bind fun z1=>some (z0++z1.cells))=some z->∀x∈z,aC.plain 5 x=true:=by
   intro z hz;simp only[Option.bind_eq_some_iff,Option.some.injEq]at hz;obtain⟨z0,h0,z1,h1,rfl⟩:=hz;intro x hx;rcases Array.mem_append.1 hx with hx|hx
   .exact hb z0 h0 x hx
   .exact hi _ _ _ hj h1 x hx
  repeat' split at hr
  all_goals(try(simp only[Option.bind_none,reduceCtorEq]at hr;done))
  all_goals(try simp only[Option.bind_eq_some_iff]at hr)
  all_goals(obtain⟨_,_,hr⟩:=hr;simp only[Option.some.injEq]at hr;subst hr;intro z hz;first|(cases hz;done)|exact fin z hz)
 .intro z hz;simp only[Option.some.injEq]at hz;subst hz;simp
theorem uG (hi:CA info) {d:TypeDesc} (h:reckon info d=some i) (hv:i.zero=some v):flat v:=by
 have one:∀u:Value,aC.plain 0 u=true->flat u:=fun u hu x hx=>by
  cases u<;>first|(simp only[Value.cells,List.mem_toArray,List.mem_singleton]at hx;subst hx;exact jA (Nat.zero_le _) hu)|(cases hu;done)
 cases d with
 |struct fs=>exact lM hi h hv
 |array n e=>
  simp only[reckon,bind,Option.bind_eq_some_iff,pure,Option.some.injEq]at h;obtain⟨j,hj,s,_,rfl⟩:=h;simp only at hv;split at hv
  .cases hv
  .split at hv
   .simp only[Option.some.injEq]at hv;subst hv;intro x hx;simp[Value.cells]at hx
   .simp only[Option.map_eq_some_iff]at hv;obtain⟨z,hz,rfl⟩:=hv;intro x hx;simp only[Value.cells,Array.mem_flatten,Array.mem_replicate]at hx;obtain⟨y,⟨_,rfl⟩,hx⟩:=hx;exact hi _ _ _ hj hz x hx
 |pointer e=>
  simp only[reckon,bind,Option.bind_eq_some_iff,pure]at h;obtain⟨j,hj,h⟩:=h;repeat' split at h
  all_goals(try(cases h;done))
  all_goals(simp only[Option.bind_eq_some_iff,Option.some.injEq]at h;obtain⟨_,_,rfl⟩:=h;simp only[word,Option.some.injEq]at hv;subst hv;exact one _ rfl)
 |_=>
  first
  |(simp only[reckon,reduceCtorEq]at h;done)
  |(simp only[reckon,bind,Option.bind_eq_some_iff,pure,Option.some.injEq]at h;obtain⟨_,_,_,_,rfl⟩:=h;simp only[word,Option.some.injEq]at hv;subst hv;exact one _ rfl)
  |(simp only[reckon,bind,Option.bind_eq_some_iff,pure,Option.some.injEq]at h;obtain⟨_,_,_,_,_,_,_,_,rfl⟩:=h;simp only[word,Option.some.injEq]at hv;subst hv;exact one _ rfl)
  |(simp only[reckon,bind,Option.bind_eq_some_iff,pure,Option.some.injEq]at h;obtain⟨_,_,rfl⟩:=h;simp only[word,Option.some.injEq]at hv;subst hv;exact one _ rfl)
def qF (T:Tables):Bool:=T.types.all fun i=>match i.zero with|some v=>v.cells.all (aC.plain 5)|none=>true
theorem uH {T:Tables} (h:qF T=true):∀f,CA (infoAt T f):=by
 have low:∀(t:Nat) (i:TypeInfo) (v:Value),T.types[t]?=some i->i.zero=some v->flat v:=by
  intro t i v ht hv;obtain⟨ap,he⟩:=Array.getElem?_eq_some_iff.1 ht;have:=Array.all_eq_true.1 h t ap;rw[he]at this;simp only[hv]at this;intro x hx;obtain⟨k,hk,rfl⟩:=Array.mem_iff_getElem.1 hx;exact Array.all_eq_true.1 this k hk
 intro f;induction f with
 |zero=>intro t i v ht;cases ht
 |succ f ih=>
  intro t i v ht hv;unfold infoAt at ht;split at ht
  .exact low t i v ht hv
  .simp only[Option.bind_eq_some_iff]at ht;obtain⟨d,_,ht⟩:=ht;exact uG ih ht hv
theorem CB (h:qF P.toTables=true):az P:=by
 intro t i v ht hv;have ht:Tables.info? P.toTables t=some i:=ht
 have:infoAt P.toTables depth t=some i:=by
  unfold Tables.info? at ht;split at ht
  .unfold depth infoAt;rw[if_pos (by assumption)];exact ht
  .exact ht
 exact(uH h depth t i v this hv).plain
def xj (T:Tables):Bool:=T.types.all fun i=>match i.desc with|.named n _=>!(n== "sync.copyChecker")|_=>true
theorem xk (h:xj P.toTables=true):ai P:=by
 intro t i u ht hd;have ht:Tables.info? P.toTables t=some i:=ht;by_cases ap:t<P.types.size
 .unfold Tables.info? at ht;rw[if_pos ap]at ht;obtain⟨ap,he⟩:=Array.getElem?_eq_some_iff.1 ht;have:=Array.all_eq_true.1 h t ap;rw[he,hd]at this;simp at this
 .have:=Tables.info?_beyond ap ht;rw[hd]at this;cases this
end Go.aC
namespace Go.aC
open Go.Conc
variable {P:Program} {d r t:Nat} {e:TypeId} {fz:Nat×Nat} {i:TypeInfo} {o:Oper} {ops:Array Oper} {u:Value} {w:World}
def BZ (m:Region.Mode) (ops:Array Oper) (listed:Array Bool):List Nat:=
 (List.range ops.size).filter fun i=>!listed.getD i true&&((ops[i]?).map (·.after.all fun e=>!Region.binds m e||listed.getD e.on false)).getD false
inductive IK (m:Region.Mode) (ops:Array Oper):Nat->Array Bool->List Nat->Prop
 |stop {n:Nat} {listed:Array Bool} (h:n=0\/BZ m ops listed=[]):IK m ops n listed []
 |next {n i:Nat} {listed:Array Bool} {l:List Nat} (h:i∈BZ m ops listed) (t:IK m ops n (listed.setIfInBounds i true) l):IK m ops (n+1) listed (i::l)
theorem KA (m:Region.Mode) (ops:Array Oper):∀(n t:Nat) (listed:Array Bool) (acc:List Nat),∃l,Region.linearise.go m ops n t listed acc=acc.reverse++l/\IK m ops n listed l:=by
 intro n;induction n with
 |zero=>intro t listed acc;exact⟨[],by simp[Region.linearise.go],.stop (.inl rfl)⟩
 |succ n ih=>
  intro t listed acc;unfold Region.linearise.go;have e:((List.range ops.size).filter fun i=>!listed.getD i true&&((ops[i]?).map (·.after.all fun e=>!Region.binds m e||listed.getD e.on false)).getD false)=BZ m ops listed:=rfl;simp only[e];cases hi:(BZ m ops listed)[t%(BZ m ops listed).length]? with
  |none=>
   refine⟨[],by simp,.stop (.inr ?_)⟩;cases hr:BZ m ops listed with
   |nil=>rfl
   |cons a l=>
    rw[hr]at hi;have:t%(a::l).length<(a::l).length:=Nat.mod_lt _ (by simp);rw[List.getElem?_eq_getElem this]at hi;cases hi
  |some i=>
   obtain⟨l,h1,h2⟩:=ih (t/(BZ m ops listed).length) (listed.setIfInBounds i true) (i::acc);exact⟨i::l,by simp only[];rw[h1];simp,.next (List.mem_of_getElem? hi) h2⟩
theorem xl (m:Region.Mode) (ops:Array Oper) (t:Nat):IK m ops ops.size (Array.replicate ops.size false) (Region.linearise m ops t):=by
 obtain⟨l,h1,h2⟩:=KA m ops ops.size t (Array.replicate ops.size false) [];unfold Region.linearise;rw[h1];exact h2
def iP (m:Region.Mode) (ops:Array Oper):Nat->Array Bool->List (List Nat)
 |0,_=>[[]]
 |n+1,listed=>if(BZ m ops listed).isEmpty then [[]]else(BZ m ops listed).flatMap fun i=>(iP m ops n (listed.setIfInBounds i true)).map (i::·)
theorem nt {m:Region.Mode} {n:Nat} {listed:Array Bool} {l:List Nat} (h:IK m ops n listed l):l∈iP m ops n listed:=by
 induction h with
 | @stop n listed h=>
   cases n with
   |zero=>simp[iP]
   |succ n=>
    rcases h with h|h
    .omega
    .simp[iP,h]
 | @next n i listed l h _ ih=>
   simp only[iP];split
   .rename_i he;rw[List.isEmpty_iff]at he;rw[he]at h;cases h
   .simp only[List.mem_flatMap,List.mem_map];exact⟨_,h,_,ih,rfl⟩
structure zb (P:Program) (o:Oper) (d:Nat) (v:Nat->Value) (x:Obj):Prop where
 dst:o.dst=some d
 guard:o.guard=none
 run:∀(a:Act) (w:World),(execOp a.eval o).run P w=.ok (.value (v w.heap.size)) (w.alloc x)
 ev:∀(a:Act) (w:World),(execOp a.eval o).events P w #[]=#[]
structure Made (ops:Array Oper) (d:Nat->Nat) (v:Nat->Nat->Value) (x:Nat->Obj) (is:List Nat) (kn own:Nat->Prop) (tm:Array Value) (w:World) (pos:Nat->Nat) (fG dB:Nat->Prop) (bu:Array Value) (w':World):Prop where
 size:bu.size=tm.size
 slot:∀i∈is,d i<tm.size->bu.getD (d i) undef=v i (pos i)
 others:∀j,(∀i∈is,d i≠j)->bu.getD j undef=tm.getD j undef
 new:∀i∈is,w.heap.size<=pos i/\pos i<w'.heap.size
 inj:∀i∈is,∀j∈is,pos i=pos j->i=j
 heap:∀i∈is,w'.heap[pos i]?=some (x i)
 env:Env kn w w'
 QB:∀r,fG r↔kn r\/∃i∈is,r=pos i
 FG:∀r,dB r↔own r\/∃i∈is,r=pos i
theorem ae (a:Array Value) (i:Nat) (v u:Value) (h:i<a.size):(a.setIfInBounds i v).getD i u=v:=by
 rw[Array.getD_eq_getD_getElem?,aL _ h];rfl
theorem getD_set_ne (a:Array Value) {i j:Nat} (v u:Value) (h:j≠i):(a.setIfInBounds i v).getD j u=a.getD j u:=by
 rw[Array.getD_eq_getD_getElem?,Array.getD_eq_getD_getElem?,av _ h]
theorem Tree.makes {main:Bool} {K:kO} (T:Tree P main K) {b:Frame} {k:List Item} {cs:List Frame} {rest:List Nat} (hk:b.kind≠ .early) {d:Nat->Nat} {v:Nat->Nat->Value} {x:Nat->Obj}:
 ∀(is:List Nat),is.Nodup->(∀i∈is,∃o,ops[i]?=some o/\zb P o (d i) (v i) (x i))->(∀i∈is,∀j∈is,d i=d j->i=j)->∀(kn own:Nat->Prop) (tm:Array Value) (ds:List Deferred) (w:World),(∀r,kn r->r<w.heap.size)->
  (∀pos fG dB bu w',Made ops d v x is kn own tm w pos fG dB bu w'->K fG dB (G (b.at ⟨bu,ds⟩ (.inRegion ops rest::k)) cs) w')->
  K kn own (G (b.at ⟨tm,ds⟩ (.inRegion ops (is++rest)::k)) cs) w:=by
 intro is;induction is with
 |nil=>
  intro _ _ _ kn own tm ds w _ h;exact h (fun _=>0) kn own tm w ⟨rfl,fun i hi=>by simp at hi,fun _ _=>rfl,fun i hi=>by simp at hi,fun i hi=>by simp at hi,fun i hi=>by simp at hi,Env.refl _ _,fun r=>by simp,fun r=>by simp⟩
 |cons i is ih=>
  intro Ah aI QC kn own tm ds w ap h;obtain⟨o,ho,hm⟩:=aI i (by simp);rw[List.nodup_cons]at Ah;refine T.op (i:=i) (rest:=is++rest) ho (by unfold Region.wanted;rw[hm.guard]) hk fun w2 he=>⟨_,_,hm.run _ w2,by rw[hm.ev];exact Fair.alloc _,?_⟩
  rw[gS,gS];have hs:(w2.alloc (x i)).heap.size=w2.heap.size+1:=by show(w2.heap.push (x i)).size=_;simp
  have NH:(w2.alloc (x i)).heap[w2.heap.size]?=some (x i):=by show(w2.heap.push (x i))[w2.heap.size]?=_;simp
  have hold:∀r,r<w2.heap.size->(w2.alloc (x i)).heap[r]?=w2.heap[r]?:=fun r hr=>by
   show(w2.heap.push (x i))[r]?=_;simp[Array.getElem?_push,Nat.ne_of_lt hr]
  have FH:Act.put ⟨tm,ds⟩ o.dst (v i w2.heap.size)=⟨tm.setIfInBounds (d i) (v i w2.heap.size),ds⟩:=by rw[hm.dst];rfl
  rw[FH];refine ih Ah.2 (fun j hj=>aI j (by simp[hj])) (fun a ha c hc=>QC a (by simp[ha]) c (by simp[hc])) _ _ _ ds _ (fun r hr=>?_) fun pos fG dB bu w' hM=>?_
  .rw[hs];rcases hr with hr|hr
   .have:=Nat.lt_of_lt_of_le (ap r hr) he.1;omega
   .omega
  .have Sk:∀j∈is,w2.heap.size+1<=pos j:=fun j hj=>by have:=(hM.new j hj).1;omega
   have bE:∀j∈is,j≠i:=fun j hj e=>Ah.1 (e▸hj);refine h (fun j=>if j=i then w2.heap.size else pos j) fG dB bu w' ⟨?_,?_,?_,?_,?_,?_,?_,?_,?_⟩
   .rw[hM.size];simp
   .intro j hj hd;rcases List.mem_cons.1 hj with rfl|hj
    .rw[if_pos rfl,hM.others (d j) (fun c hc e=>bE c hc (QC c (by simp[hc]) j (by simp) e)),ae _ _ _ _ hd]
    .rw[if_neg (bE j hj)];exact hM.slot j hj (by simpa using hd)
   .intro j hj;rw[hM.others j (fun c hc=>hj c (by simp[hc])),getD_set_ne _ _ _ (Ne.symm (hj i (by simp)))]
   .intro j hj;have V3:=hM.env.1;rcases List.mem_cons.1 hj with rfl|hj
    .rw[if_pos rfl];have:=he.1;omega
    .rw[if_neg (bE j hj)];have:=hM.new j hj;have:=he.1;omega
   .intro a ha c hc e;rcases List.mem_cons.1 ha with ea|ha<;>rcases List.mem_cons.1 hc with ec|hc
    .rw[ea,ec]
    .rw[ea,if_pos rfl,if_neg (bE c hc)]at e;have:=Sk c hc;omega
    .rw[ec,if_pos rfl,if_neg (bE a ha)]at e;have:=Sk a ha;omega
    .rw[if_neg (bE a ha),if_neg (bE c hc)]at e;exact hM.inj a ha c hc e
   .intro j hj;rcases List.mem_cons.1 hj with rfl|hj
    .rw[if_pos rfl,hM.env.2 _ (.inr rfl),NH]
    .rw[if_neg (bE j hj)];exact hM.heap j hj
   .refine⟨Nat.le_trans he.1 (by have:=hM.env.1;omega),fun r hr=>?_,hM.env.os.trans he.os,hM.env.out.trans he.out⟩;rw[hM.env.2 r (.inl hr),hold r (Nat.lt_of_lt_of_le (ap r hr) he.1),he.2 r hr]
   .intro r;rw[hM.QB r];constructor
    .rintro((h|h)|⟨j,hj,h⟩)
     .exact .inl h
     .exact .inr ⟨i,by simp,by rw[if_pos rfl];exact h⟩
     .exact .inr ⟨j,by simp[hj],by rw[if_neg (bE j hj)];exact h⟩
    .rintro(h|⟨j,hj,h⟩)
     .exact .inl (.inl h)
     .rcases List.mem_cons.1 hj with rfl|hj
      .rw[if_pos rfl]at h;exact .inl (.inr h)
      .rw[if_neg (bE j hj)]at h;exact .inr ⟨j,hj,h⟩
   .intro r;rw[hM.FG r];constructor
    .rintro((h|h)|⟨j,hj,h⟩)
     .exact .inl h
     .exact .inr ⟨i,by simp,by rw[if_pos rfl];exact h⟩
     .exact .inr ⟨j,by simp[hj],by rw[if_neg (bE j hj)];exact h⟩
    .rintro(h|⟨j,hj,h⟩)
     .exact .inl (.inl h)
     .rcases List.mem_cons.1 hj with rfl|hj
      .rw[if_pos rfl]at h;exact .inl (.inr h)
      .rw[if_neg (bE j hj)]at h;exact .inr ⟨j,hj,h⟩
theorem oU {e:Nat} {dir:ChanDir} (ho:o.op=.makeChan t (.const (.int .i64 0))) (hd:o.dst=some d) (hg:o.guard=none) (ht:P.underlying t=some (.chan dir e)) (hi:P.info? e=some i):
 zb P o d (fun r=>.chan (some r)) (.chan 0 #[] false 0 0 false):=by
 obtain⟨dst,op,ty,pos,af,gd⟩:=o;simp only at ho hd hg;subst ho;subst hd;subst hg;refine⟨rfl,rfl,fun a w=>?_,fun a w=>?_⟩
 .have:=run_makeChan (P:=P) (w:=w) ht hi .i64 0 (by decide) (by simp);show(Instr.makeChan t (.int .i64 0)>>=fun v=>pure (Next.value v)).run P w=_;have this:(Instr.makeChan t (.int .i64 0)).run P w=.ok (.chan (some w.heap.size)) (w.alloc (.chan 0 #[] false 0 0 false)):=this;simp[this]
 .have h1:=run_makeChan (P:=P) (w:=w) ht hi .i64 0 (by decide) (by simp);have h2:=events_makeChan (P:=P) (w:=w) ht hi .i64 0 (by decide) (by simp) #[];have h1:(Instr.makeChan t (.int .i64 0)).run P w=.ok (.chan (some w.heap.size)) (w.alloc (.chan 0 #[] false 0 0 false)):=h1;have h2:(Instr.makeChan t (.int .i64 0)).events P w #[]=#[]:=h2;show(Instr.makeChan t (.int .i64 0)>>=fun v=>pure (Next.value v)).events P w #[]=_;simp[h1,h2]
theorem gT {z:Value} (ho:o.op=.alloc t) (hd:o.dst=some d) (hg:o.guard=none) (hi:P.info? t=some i) (hz:i.zero=some z):
 zb P o d (fun r=>.pointer (some ⟨r,0,none⟩)) (.cells z.cells t):=by
 obtain⟨dst,op,ty,pos,af,gd⟩:=o;simp only at ho hd hg;subst ho;subst hd;subst hg;have Fl:∀w,(zeroValue t).run P w=.ok z w:=fun w=>by simp[zeroValue,typeInfo,hi,hz]
 refine⟨rfl,rfl,fun a w=>?_,fun a w=>?_⟩
 .simp[execOp,Instr.alloc,Fl,newVar,newRow]
 .simp[execOp,Instr.alloc,Fl,newVar,newRow]
theorem ee (w:World) (a:Addr) (v:Value) (h:r≠a.block):(w.setCell a v).heap[r]?=w.heap[r]?:=by
 simp[World.setCell,Array.getElem?_modify,Ne.symm h]
theorem gU {v:Value} (h:w.heap[r]?=some (.cells #[u] e fz)):(w.setCell ⟨r,0,none⟩ v).heap[r]?=some (.cells #[v] e fz):=by
 simp[World.setCell,Array.getElem?_modify,h]
theorem cM (h:w.heap[r]?=some (.cells #[u] e fz)):w.cell? ⟨r,0,none⟩=some u:=by simp[World.cell?,h]
theorem dC (h:w.heap[r]?=some (.cells #[u] e (0,0))):w.frozen? ⟨r,0,none⟩=false:=by simp[World.frozen?,h]
theorem fx {kn:Nat->Prop} (a:Addr) (v:Value) (h:¬kn a.block):Env kn w (w.setCell a v):=
 ⟨by simp[World.setCell],fun r hr=>ee w a v fun e=>h (e▸hr),rfl,rfl⟩
end Go.aC
namespace Go.aC
open Go.Conc
open Go.ConcN (upd upd_same upd_ne sumTo)
variable {P:Program} {kn own:Nat->Prop} {t:Trace} {w:World}
structure jW (P:Program) (gs:Array Goroutine) (g:Goroutine) (kn own:Nat->Prop) (w:World) (t:Trace):Prop where
 QF:gs[0]?=some g
 run:g.status=.running
 quit:∃q,cw P gs q
 co:Co (fun g=>g=0) (fun _=>kn) (fun _=>own) w.heap.size t
theorem FI {At:kO} (Cv:∀kn own g w d,At kn own g (World.at w d)->At kn own g w) {g:Goroutine} (h:gP P At kn own g w):
 ∀gs w1 sl t,Env kn w w1->jW P gs g kn own w1 t->∃N fG dB g' w' dP eR t',runNT P N (crowd gs w1 sl) t=(.next (crowd dP w' eR),t')/\At fG dB g' w'/\jW P dP g' fG dB w' t':=by
 induction h with
 | @mk kn own g w ok go ih=>
   have key:∀n gs w1 sl t q,sumTo gs.size q=n->Env kn w w1->gs[0]?=some g->g.status=.running->cw P gs q->Co (fun g=>g=0) (fun _=>kn) (fun _=>own) w1.heap.size t->
    ∃N fG dB g' w' dP eR t',runNT P N (crowd gs w1 sl) t=(.next (crowd dP w' eR),t')/\At fG dB g' w'/\jW P dP g' fG dB w' t':=by
    intro n;induction n using Nat.strongRecOn with
    |ind n YQ=>
     intro gs w1 sl t q hn he h0 hr hq jz;by_cases hA:At kn own g w1
     .exact⟨0,kn,own,g,w1,gs,sl,t,rfl,hA,h0,hr,⟨q,hq⟩,jz⟩
     have aw:∀x∈gs,Conc.awake x:=by
      intro x hx;obtain⟨j,hj,rfl⟩:=Array.mem_iff_getElem.1 hx;have tZ:=Array.getElem?_eq_getElem hj;rcases Nat.eq_zero_or_pos j with rfl|fv
      .rw[h0]at tZ;rw[<-Option.some.inj tZ];exact awake_of (.inl hr)
      .exact awake_of ((hq j _ fv tZ).status.imp id .inr)
     obtain⟨i,x,d,eR,hi,hx,bF⟩:=crowd_pick (P:=P) (w:=w1) (sl:=sl) aw ⟨0,_,h0,hr⟩;rcases Nat.eq_zero_or_pos i with rfl|fv
     .obtain rfl:x=g:=by rw[h0]at hi;exact(Option.some.inj hi).symm
      have cq:0<gs.size:=(Array.getElem?_eq_some_iff.1 h0).1;have eB:¬At kn own x (w1.at d):=fun h=>hA (Cv _ _ _ _ _ h);rcases ok (w1.at d) (he.trans (gt _ _ _))with h|⟨g2,w3,es,h1,h2,h3⟩
      .exact absurd h eB
      have aY:=runT_crowd_go (P:=P) (sl:=eR) (i:=0) h0 (show stepG P (0==0) x (w1.at d)=_ from h1);rw[hq.woken h0 hr]at aY
      obtain⟨N,fG,dB,g',w',dP,FF,t',k1,k2,k3⟩:=ih (w1.at d) g2 w3 es (he.trans (gt _ _ _)) eB h1 (gs.setIfInBounds 0 g2) w3 eR (t++MemOp.ofEvents 0 x.frame.fn x.frame.place es) (Env.refl _ _)
       ⟨aL _ cq,h2,⟨q,fun j y hj hy=>by rw[av _ (by omega)]at hy;exact hq j y hj hy⟩,(jz.step (w:=w1.at d) (g:=0) rfl rfl h3 _ _).lone (upd_same ..) (upd_same ..)⟩
      exact⟨N+1,fG,dB,g',w',dP,FF,t',by simp only[runNT,bF.trans aY];exact k1,k2,k3⟩
     .have t8:=hq i x fv hi;have uC:(i==0)=false:=by simp;omega
      have ap:i<gs.size:=(Array.getElem?_eq_some_iff.1 hi).1;cases hk:q i with
      |zero=>rw[hk]at t8;rw[show x.status=.finished from t8]at hx;cases hx
      |succ k=>
       rw[hk]at t8;rcases t8 with hf|⟨_,g',hs,nf⟩
       .rw[hf]at hx;cases hx
       have aY:=runT_crowd_go (P:=P) (sl:=eR) hi (by rw[uC];exact hs (w1.at d));rw[hq.woken h0 hr]at aY;have e0:t++MemOp.ofEvents i x.frame.fn x.frame.place #[]=t:=by simp[MemOp.ofEvents]
       obtain⟨N,fG,dB,g2,w',dP,FF,t',k1,k2,k3⟩:=YQ (sumTo gs.size (upd q i k)) (by
        rw[<-hn];refine iO ap ?_ fun j hj=>upd_ne _ _ hj
        rw[upd_same,hk];omega) (gs.setIfInBounds i g') (w1.at d) eR t (upd q i k) (by simp) (he.trans (gt _ _ _)) (by rw[av _ (by omega)];exact h0) hr (fun j y hj hy=>by
         by_cases e:j=i
         .subst e;rw[aL _ ap]at hy;rw[upd_same,<-Option.some.inj hy];exact nf
         .rw[av _ e]at hy;rw[upd_ne _ _ e];exact hq j y hj hy) jz
       refine⟨N+1,fG,dB,g2,w',dP,FF,t',?_,k2,k3⟩;have:=bF.trans aY;simp only[runNT,this];rw[e0];exact k1
   intro gs w1 sl t he ha;obtain⟨q,hq⟩:=ha.quit;exact key _ gs w1 sl t q rfl he ha.QF ha.run hq ha.co
theorem Co.grow {fG dB:Nat->Prop} {B:Nat} (h:Co (fun g=>g=0) (fun _=>kn) (fun _=>own) B t) (hk:∀r,fG r->r<B) (ho:∀r,dB r->fG r):Co (fun g=>g=0) (fun _=>fG) (fun _=>dB) B t:=by
 have all:∀i a r,touchAt t i=some a->ja a.loc r->Knows t 0 i:=fun i a r hi hr=>by
  have hm:a.loc.isMemory=true:=by rcases hr with⟨x,e,_⟩|e<;>rw[e]<;>rfl
  rcases h.ho i a hi hm with h1|⟨g,h1,h2,_⟩
  .exact h1
  .exact absurd h2 h1
 exact⟨h.clean,h.calm,fun _ _=>ho,fun _ _=>hk,fun g k hg wt bE=>absurd (hg.trans wt.symm) bE,fun g hg i a r hi hr _ _=>hg▸all i a r hi hr,fun g hg i a r hi hr _=>hg▸all i a r hi hr,h.ho,h.low⟩
theorem Inv.FJ {G:gq P} {b:Nat} {S:St} {gs:Array Goroutine} (h:Inv G b S gs w t) (ho:jb G S w):jW P gs S.mn.g S.mn.kn S.mn.own w t:=by
 obtain⟨h1,h2,h3,h4,_⟩:=h.NE ho;exact⟨h1,h2,⟨S.q,h3⟩,h4⟩
end Go.aC
namespace Go.aC
variable {f lf:Frame} {p:Pi} {top:List Frame} {w:World}
def Leaves (X:Nat->Prop) (HA:ji) (HP:dd):Prop:=
 (∀kn own f w,HA kn own f w->HA (fun r=>kn r\/X r) own f w)/\
 ∀kn own f w v w3 dH bk,HP (fun r=>kn r\/X r) own f w v w3 dH bk->∃QG,HP kn own f w v w3 QG bk/\dH=(fun r=>QG r\/X r)/\Env X w w3/\∀r,bk r->own r\/¬X r
theorem CT.keep {P:Program} {main:Bool} {base:List Frame} {Fin:lH} {HA:ji} {HP:dd} (X:Nat->Prop) (hl:Leaves X HA HP) {kn own:Nat->Prop}
 (h:CT P main base Fin HA HP kn own f top w) (hX:∀r,X r->r<w.heap.size) (hd:∀r,own r->¬X r):
 CT P main base (fun _ own v w'=>(∃E9,Fin E9 own v w')/\Env X w w') HA HP (fun r=>kn r\/X r) own f top w:=by
 have key:=CT.ind (I:=fun kn own f top w1=>(∀r,own r->¬X r)->Env X w w1->CT P main base (fun _ own v w'=>(∃E9,Fin E9 own v w')/\Env X w w') HA HP (fun r=>kn r\/X r) own f top w1) ?_ h
 .exact key hd (Env.refl _ _)
 intro kn own f top w1 hb Ai Au
 have keep:∀{w2 w3:World} {es:Array Event},Env (fun r=>kn r\/X r) w1 w2->Fair kn own w2 w3 es->Env X w w3/\∀r,au own w2 w3 r->¬X r:=fun{w2 w3 es} he hf=>by
  have um:Env X w w2:=Au.trans (he.mono fun r h=>.inr h);have ap:∀r,X r->r<w2.heap.size:=fun r hr=>Nat.lt_of_lt_of_le (hX r hr) um.1;refine⟨um.trans ⟨hf.size,fun r hr=>hf.others r (ap r hr) fun ho=>Ai r ho hr,hf.os,hf.out⟩,fun r hr hx=>?_⟩;rcases hr with hr|hr
  .exact Ai r hr hx
  .have:=ap r hx;have:=hr.1;omega
 refine CT.mk fun w2 he=>?_;rcases hb w2 (he.mono fun r h=>.inl h)with⟨w3,es,f2,lI,h1,h2,h3⟩|⟨w3,es,v,b',si,h0,h1,h2,h3⟩|⟨w3,es,v,h0,h1,h2,h3⟩|⟨h1,c,rest,h2,h3⟩
 .refine .inl ⟨w3,es,f2,lI,h1,h2.mono (fun r h=>.inl h) (fun r h=>h),?_⟩;rw[iC];obtain⟨k1,k2⟩:=keep he h2;exact h3.1 k2 k1
 .exact .inr (.inl ⟨w3,es,v,b',si,h0,h1,h2.mono (fun r h=>.inl h) (fun r h=>h),⟨_,h3⟩,(keep he h2).1⟩)
 .exact .inr (.inr (.inl ⟨w3,es,v,h0,h1,h2.mono (fun r h=>.inl h) (fun r h=>h),⟨_,h3⟩,(keep he h2).1⟩))
 .refine .inr (.inr (.inr ⟨hl.1 _ _ _ _ h1,c,rest,h2,fun v w3 dH bk hp=>?_⟩));obtain⟨QG,q1,rfl,q3,q4⟩:=hl.2 _ _ _ _ _ _ _ _ hp;refine(h3 v w3 QG bk q1).1 (fun r hr=>?_) ((Au.trans (he.mono fun r h=>.inr h)).trans q3);rcases q4 r hr with x|x
  .exact Ai r x
  .exact x
structure IL (P:Program) (F:Array Func) (S:Nat->Bool) (e:FuncId):Prop where
 marked:S (P.funcs.size+P.globals.size)=false
 lone:∀(lf:Frame) (cs:List Frame) (v:World),mG S lf->lf.kind=.normal->∃n,1<=n/\runN P n (lone lf cs v)=.next (lone (lf.finish (.bool true)) cs v)
 comp:∀(main:Bool) (f:Frame) (cs:List Frame) (w:World),mG S f->f.kind=.normal->stepG (ab P F) main (fV f cs) w=.go (fV (Frame.enter (ab P F) e #[] .normal) (f::cs)) w #[]
def Mt (Q:Program) (e:FuncId):ji:=fun _ _ f _=>f=Frame.enter Q e #[] .normal
def qG:dd:=fun kn own _ w v w3 dH bk=>v=.bool true/\Env kn w w3/\dH=kn/\bk=own
section
variable {P:Program} {F:Array Func} {S:Nat->Bool} {N:Nat} {e:FuncId}
theorem mG.lone (h:jh P S E8 p lf f) (hh:mG S f):mG S lf:=by
 obtain⟨hm,o,ops,i,is,k,h1,h2,h3,h4⟩:=hh;have nU:=h.mode;rw[hm]at nU;have aY:lf.mode=.run:=by generalize lf.mode=x at nU;cases nU;rfl
 have Ak:=h.todo;rw[h1]at Ak;generalize h5:lf.todo=t at Ak;cases Ak with
 |cons hi Ak=>
  cases hi with
  |inRegion _ _=>
   refine⟨aY,o,ops,i,is,_,h5,h2,h3,?_⟩;rw[<-h4];congr 1;exact funext fun j=>ni ops h.tmps j
section
variable (Q:Program) (S:Nat->Bool) (N:Nat) (main:Bool) (base:List Frame) (Fin:lH) (HA:ji) (HP:dd)
def Nd.FK (x:Nd) (w2 w3:World):Prop:=Env (iy x.p) w2 w3/\¬CT Q main base Fin HA HP (iy x.p) (bM N x.p) (x.f.finish (.bool true)) x.top w3
open Classical in
noncomputable def Nd.zc (x:Nd):World:=if h:∃w3,x.FK Q N main base Fin HA HP (x.pick Q N main base Fin HA HP) w3 then h.choose else x.w
theorem Nd.xq (x:Nd) (h:∃w3,x.FK Q N main base Fin HA HP (x.pick Q N main base Fin HA HP) w3):x.FK Q N main base Fin HA HP (x.pick Q N main base Fin HA HP) (x.zc Q N main base Fin HA HP):=by
 unfold Nd.zc;rw[dif_pos h];exact h.choose_spec
open Classical in
noncomputable def Nd.NI (x:Nd):Nd:=
 if mG S x.f then⟨x.p,x.L,x.f.finish (.bool true),x.top,x.zc Q N main base Fin HA HP⟩
 else match x.step Q main base (x.pick Q N main base Fin HA HP)with
 |.go g w3 _=>⟨ext x.p x.L (x.pick Q N main base Fin HA HP).heap.size (w3.heap.size-(x.pick Q N main base Fin HA HP).heap.size),x.L+(w3.heap.size-(x.pick Q N main base Fin HA HP).heap.size),
    g.frame,g.callers.take (g.callers.length-base.length),w3⟩
 |_=>x
noncomputable def Nd.IM (x:Nd):Nat->Nd
 |0=>x
 |k+1=>(Nd.IM x k).NI Q S N main base Fin HA HP
open Classical in
noncomputable def Nd.CD (x:Nd):Nat:=
 if mG S x.f then 0 else(gw (x.step Q main base (x.pick Q N main base Fin HA HP))).drawn-(x.pick Q N main base Fin HA HP).drawn
noncomputable def Nd.CE (x:Nd) (i:Nat):Question->Nat:=(x.pick Q N main base Fin HA HP).tape ((x.pick Q N main base Fin HA HP).drawn+i)
end
theorem uI (hc:Closed P F S E8) (hg:gp P S p) {oK:List Frame} {lw:World} (hw:WR P S (KS P S) N p lw w)
 (hf:FL P S E8 p (lf::oK) (f::top)) {R:Value->World->Prop} (hl:IL P F S e) (Al:Qr P lf oK lw R fun _ _=>False) (main:Bool) (base:List Frame) (hb:J5 P S main base):
 CT (ab P F) main base (oL P S N p R) (Mt (ab P F) e) qG (iy p) (bM N p) f top w:=by
 refine Classical.byContradiction fun RW=>?_;let Fin:=oL P S N p R
 let HA:=Mt (ab P F) e
 let x0:Nd:=⟨p,lw.heap.size,f,top,w⟩
 have km:¬x0.ct (ab P F) N main base Fin HA qG:=RW;let X:=fun k=>Nd.IM (ab P F) S N main base Fin HA qG x0 k
 let pk:=fun k=>(X k).pick (ab P F) N main base Fin HA qG
 let m:=fun k=>(X k).CD (ab P F) S N main base Fin HA qG
 let D:=fun k=>eT m lw.drawn k
 let start:=fun T:Nat->Question->Nat=>Go.lone lf (oK++[Base P]) {lw with tape:=T}
 have inv:∀k (T:Nat->Question->Nat),(∀j,j<k->∀i,i<m j->T (D j+i)=(X j).CE (ab P F) N main base Fin HA qG i)->∃ν g gs v,k<=ν/\runN P ν (start T)=.next (Go.lone g (gs++[Base P]) v)/\WR P S (KS P S) N (X k).p v (X k).w/\
  FL P S E8 (X k).p (g::gs) ((X k).f::(X k).top)/\gp P S (X k).p/\v.tape=T/\v.drawn=D k/\v.heap.size=(X k).L/\(¬(X k).ct (ab P F) N main base Fin HA qG)/\Le p (X k).p:=by
  intro k;induction k with
  |zero=>intro T _;exact⟨0,lf,oK,{lw with tape:=T},Nat.le_refl _,rfl,hw.tape T lw.drawn,hf,hg,rfl,rfl,rfl,km,Le.refl p⟩
  |succ k ih=>
   intro T hT;obtain⟨ν,g,gs,v,e0,e1,e2,e3,e4,e5,e6,e7,e8,e9⟩:=ih T fun j hj i hi=>hT j (by omega) i hi;obtain⟨su,oJ⟩:=(X k).qw (ab P F) N main base Fin HA qG e8;have tY:WR P S (KS P S) N (X k).p v (pk k):=e2.env su;obtain⟨n,fr,w1,c1,c2⟩:=Al T
   have kv:Ends P fr w1:=by
    rcases c2 with⟨rv,h,_⟩|⟨e,ch,h,_⟩
    .exact .inl ⟨rv,h⟩
    .exact .inr ⟨_,h⟩
   obtain⟨hle,np⟩:=before c1 kv e1;by_cases jx:mG S (X k).f
   ·
    have pY:m k=0:=by show Nd.CD _ _ _ _ _ _ _ _ (X k)=_;unfold Nd.CD;rw[if_pos jx]
    have Am:∃w3,(X k).FK (ab P F) N main base Fin HA qG (pk k) w3:=by
     refine Classical.byContradiction fun i9=>oJ (.inl ⟨pk k,#[],Frame.enter (ab P F) e #[] .normal,(X k).f::(X k).top,?_,Fair.refl (fun e h=>by simp at h),?_⟩)
     .exact hl.comp main (X k).f ((X k).top++base) (pk k) jx e3.head.i6
     .rw[aH,aH];refine CT.mk fun w2 he=>.inr (.inr (.inr ⟨rfl,(X k).f,(X k).top,rfl,fun v' w3 dH bk hp=>?_⟩));obtain⟨rfl,uJ,rfl,rfl⟩:=hp;exact Classical.byContradiction fun hx=>i9 ⟨w3,he.trans uJ,hx⟩
    obtain⟨NJ,Ke⟩:=(X k).xq (ab P F) N main base Fin HA qG Am;obtain⟨nn,p0,p1⟩:=hl.lone g (gs++[Base P]) v (mG.lone e3.head jx) e3.head.kind
    have BV:X (k+1)=⟨(X k).p,(X k).L,(X k).f.finish (.bool true),(X k).top,(X k).zc (ab P F) N main base Fin HA qG⟩:=by
     show(X k).NI (ab P F) S N main base Fin HA qG=_;unfold Nd.NI;rw[if_pos jx]
    rw[BV];refine⟨ν+nn,g.finish (.bool true),gs,v,by omega,by rw[runN_add,e1];exact p1,tY.env NJ,e3.top (e3.head.finish (.bool true)) (dc _ _),e4,e5,?_,e7,Ke,e9⟩;rw[e6];show D k=eT m lw.drawn k+m k;rw[pY];rfl
   ·
    have pY:m k=(gw ((X k).step (ab P F) main base (pk k))).drawn-(pk k).drawn:=by show Nd.CD _ _ _ _ _ _ _ _ (X k)=_;unfold Nd.CD;rw[if_neg jx]
    have wR:i7 (m k) v (pk k):=fun j hj q=>by
     have:=hT k (by omega) j hj;rw[e5,e6,this];rfl
    have hd:(gw (stepG (ab P F) main {frame:=(X k).f,callers:=(X k).top++base,status:=.running,dying:=none} (pk k))).drawn<=(pk k).drawn+m k:=by
     rw[pY];show(gw ((X k).step (ab P F) main base (pk k))).drawn<=(pk k).drawn+((gw ((X k).step (ab P F) main base (pk k))).drawn-(pk k).drawn)
     omega
    have Kf:=cR.step (b:=Base P) (bs:=[]) (aK:=base) hc tY e4 e3 (fun _ _ _ _ _ _ _ h=>h) jx true main hb wR hd;rcases Kf with⟨o,w3,es,hs⟩|⟨q,ch,Mp,w3,es,yT,hs⟩|⟨c,nn,v1,w3,es,bP,hm,Nv,iz⟩
    .exact(sr np kv (step_lone_ended (o:=o) (w':=w3) (by rw[hs];rfl))).elim
    .exfalso;have bH:step P (Go.lone g (gs++[Base P]) v)=.next (Go.lone ((Base P).raise ch) [] w3):=step_lone_go (by rw[hs];rfl);obtain⟨_,hσ⟩:=sq np bH (dX P ch w3);rw[hσ]at bH;rcases c2 with⟨rv,h,_⟩|⟨e,yW,h,hF,VX⟩
     .rw[step_leave_returned h]at bH;simp only[Stepped.next.injEq]at bH;have q1:=(dQ bH).1;rw[cY]at q1;have:=congrArg (fun f:Frame=>f.mode) q1;simp[Base,Frame.raise]at this
     .exact hF
    .obtain⟨oN,qy,pN⟩:=cg.fair tY hm Nv;rcases iz with⟨f2,BW,t2,Fx,BU,hs,pO⟩|⟨Kg,wS,hv,hs,pO⟩
     .have bH:step P (Go.lone g (gs++[Base P]) v)=.next (Go.lone f2 (t2++[Base P]) v1):=step_lone_go (by rw[hs];rfl);have qz:=oH P ν _ _ e1;rw[bH]at qz;have nk:(X k).step (ab P F) main base (pk k)=.go (fV BW (Fx++base)) w3 bP:=pO
      have BV:X (k+1)=⟨ext (X k).p (X k).L (pk k).heap.size c,(X k).L+c,BW,Fx,w3⟩:=by
       show(X k).NI (ab P F) S N main base Fin HA qG=_;unfold Nd.NI;rw[if_neg jx];have IB:(X k).step (ab P F) main base ((X k).pick (ab P F) N main base Fin HA qG)=.go (fV BW (Fx++base)) w3 bP:=pO;rw[IB]
       have cq:w3.heap.size-((X k).pick (ab P F) N main base Fin HA qG).heap.size=c:=by
        have h6:w3.heap.size=(pk k).heap.size+c:=hm.jp;show w3.heap.size-(pk k).heap.size=c;rw[h6,Nat.add_sub_cancel_left]
       simp only[cq];congr 1;rw[List.length_append,Nat.add_sub_cancel];exact List.take_left
      rw[BV];have hrel:=hm.rel;rw[e7]at hrel BU qy pN;have An:=eD (X k).p (X k).L (pk k).heap.size c;refine⟨ν+1,f2,t2,v1,by omega,qz,hrel,BU,e4.mono An,hm.tape.trans e5,?_,by rw[hm.size,e7],?_,e9.trans An⟩
      .rw[hm.drawn,e6]
       have:m k=nn:=by
        rw[pY,nk];have h5:w3.drawn=(pk k).drawn+nn:=hm.jq;show w3.drawn-(pk k).drawn=nn;rw[h5,Nat.add_sub_cancel_left]
       show D k+nn=eT m lw.drawn k+m k;rw[this]
      .intro wT;refine oJ (.inl ⟨w3,bP,BW,Fx,nk,oN,?_⟩);unfold Nd.ct at wT;rw[qy,pN]at wT;exact wT
     .exfalso;have bH:step P (Go.lone g (gs++[Base P]) v)=.next (Go.lone ((Base P).finish Kg) [] v1):=step_lone_go (by rw[hs];rfl);obtain⟨_,hσ⟩:=sq np bH (eS P Kg v1);rw[hσ]at bH;rcases c2 with⟨rv,h,hR⟩|⟨e,yW,h,hF,_⟩
      .rw[step_leave_returned h]at bH;simp only[Stepped.next.injEq]at bH;obtain⟨q1,_,q3⟩:=dQ bH;rw[cY,cY]at q1
       have Fy:rv=Kg:=by
        have:=congrArg (fun f:Frame=>f.tmps) q1;simpa using this
       subst Fy;subst q3;have oO:Fin (au (iy (X k).p) (pk k) w3) (au (bM N (X k).p) (pk k) w3) wS w3:=⟨_,rv,w1,hR,hv,hm.rel,e9.trans (eD _ _ _ _),qy.symm,pN.symm⟩
       rcases pO with⟨b',si,oP,pO⟩|⟨oP,pO⟩
       .exact oJ (.inr (.inl ⟨w3,bP,wS,b',si,oP,pO,oN,oO⟩))
       .exact oJ (.inr (.inr (.inl ⟨w3,bP,wS,oP,pO,oN,oO⟩)))
      .exact hF
 obtain⟨T,hT⟩:=splice m (fun k j=>(X k).CE (ab P F) N main base Fin HA qG j) lw.drawn;obtain⟨n,fr,w1,c1,c2⟩:=Al T
 have kv:Ends P fr w1:=by
  rcases c2 with⟨rv,h,_⟩|⟨e,ch,h,_⟩
  .exact .inl ⟨rv,h⟩
  .exact .inr ⟨_,h⟩
 obtain⟨ν,g,gs,v,e0,e1,_⟩:=inv (n+1) T fun j _ i hi=>hT j i hi;obtain⟨hle,_⟩:=before c1 kv e1;omega
end
end Go.aC
namespace Go.aC
open Go.Conc
open Go.ConcN (upd upd_same upd_ne sumTo sumTo_upd sumTo_congr le_sumTo sumTo_le)
variable {b:Frame} {bs:List Frame} {m m':Machine} {t:Trace}
def lN (P:Program) (b:Frame) (bs:List Frame) (Fin:lH) (m:Machine) (t:Trace):Prop:=
 ∃N v w3 dH bk dP eR t' q',runNT P N m t=(.next (crowd dP w3 eR),t')/\Fin dH bk v w3/\dP[0]?=some (fV (b.finish v) bs)/\cw P dP q'/\Co (fun g=>g=0) (fun _=>dH) (fun _=>bk) w3.heap.size t'
theorem lN.step {P:Program} {Fin:lH} {ops:Array MemOp} (h:stepT P m=(.next m',ops)) (k:lN P b bs Fin m' (t++ops)):lN P b bs Fin m t:=by
 obtain⟨N,v,w3,dH,bk,dP,eR,t',q',h1,h2⟩:=k;exact⟨N+1,v,w3,dH,bk,dP,eR,t',q',by simp only[runNT,h];exact h1,h2⟩
theorem lN.steps {P:Program} {Fin:lH} {t':Trace} {N:Nat} (h:runNT P N m t=(.next m',t')) (k:lN P b bs Fin m' t'):lN P b bs Fin m t:=by
 obtain⟨M,v,w3,dH,bk,dP,eR,t',q',h1,h2⟩:=k;exact⟨N+M,v,w3,dH,bk,dP,eR,t',q',by rw[runNT_add,h];exact h1,h2⟩
section
variable {P:Program} {Fin:lH} {HA:ji} {HP:dd} {b0:Frame} {xt:List Frame}
theorem xu (xg:sA P HA HP) (Cv:∀kn own f w d,HA kn own f (World.at w d)->HA kn own f w) (NF:∀kn own f w d v w3 dH bk,HP kn own f w v w3 dH bk->HP kn own f (World.at w d) v w3 dH bk)
 {kn own:Nat->Prop} {f:Frame} {top:List Frame} {w:World} (h:CT P true (b0::xt) Fin HA HP kn own f top w):
 ∀gs w1 sl t q,Env kn w w1->gs[0]?=some (fV f (top++b0::xt))->cw P gs q->Co (fun g=>g=0) (fun _=>kn) (fun _=>own) w1.heap.size t->lN P b0 xt Fin (crowd gs w1 sl) t:=by
 refine CT.ind (I:=fun kn own f top w=>∀gs w1 sl t q,Env kn w w1->gs[0]?=some (fV f (top++b0::xt))->cw P gs q->Co (fun g=>g=0) (fun _=>kn) (fun _=>own) w1.heap.size t->lN P b0 xt Fin (crowd gs w1 sl) t) ?_ h;intro kn own f top w iB
 have key:∀n gs w1 sl t q,sumTo gs.size q=n->Env kn w w1->gs[0]?=some (fV f (top++b0::xt))->cw P gs q->Co (fun g=>g=0) (fun _=>kn) (fun _=>own) w1.heap.size t->lN P b0 xt Fin (crowd gs w1 sl) t:=by
  intro n;induction n using Nat.strongRecOn with
  |ind n ih=>
   intro gs w1 sl t q hn he h0 hq jz
   have pay:HA kn own f w1->∀c rest,top=c::rest->(∀v w3 dH bk,HP kn own f w1 v w3 dH bk->(∀gs w1 sl t q,Env dH w3 w1->gs[0]?=some (fV (c.finish v) (rest++b0::xt))->cw P gs q->Co (fun g=>g=0) (fun _=>dH) (fun _=>bk) w1.heap.size t->lN P b0 xt Fin (crowd gs w1 sl) t))->lN P b0 xt Fin (crowd gs w1 sl) t:=by
    intro hA c rest nV hc;subst nV;obtain⟨N,v,w3,dH,bk,dP,eR,t',q',p1,p2,p3,p4,p5⟩:=xg kn own f c (rest++b0::xt) w1 gs sl t q h0 hq jz hA;exact(hc v w3 dH bk p2 dP w3 eR t' q' (Env.refl _ _) p3 p4 p5).steps p1
   have aw:∀g∈gs,Conc.awake g:=by
    intro g hg;obtain⟨j,hj,rfl⟩:=Array.mem_iff_getElem.1 hg;have tZ:=Array.getElem?_eq_getElem hj;rcases Nat.eq_zero_or_pos j with rfl|fv
    .rw[h0]at tZ;rw[<-Option.some.inj tZ];exact awake_of (.inl rfl)
    .exact awake_of ((hq j _ fv tZ).status.imp id .inr)
   obtain⟨i,g,d,eR,hi,hg,bF⟩:=crowd_pick (P:=P) (w:=w1) (sl:=sl) aw ⟨0,_,h0,rfl⟩;rcases Nat.eq_zero_or_pos i with rfl|fv
   .obtain rfl:g=fV f (top++b0::xt):=by rw[h0]at hi;exact(Option.some.inj hi).symm
    have cq:0<gs.size:=(Array.getElem?_eq_some_iff.1 h0).1;rcases iB (w1.at d) (he.trans (gt _ _ _))with⟨w3,es,f2,lI,h1,h2,h3⟩|⟨w3,es,v,b,bs,NK,h1,h2,h3⟩|⟨w3,es,v,NK,h1,h2,h3⟩|⟨h1,c,rest,nV,h2⟩
    .have aY:=runT_crowd_go (P:=P) (sl:=eR) (i:=0) h0 (show stepG P (0==0) (fV f (top++b0::xt)) (w1.at d)=_ from h1);rw[hq.woken h0 rfl]at aY;refine lN.step (bF.trans aY) (h3.1 _ w3 eR _ q (Env.refl _ _) (aL _ cq) (fun j x hj hx=>?_) ?_)
     .rw[av _ (by omega)]at hx;exact hq j x hj hx
     .exact(jz.step (w:=w1.at d) (g:=0) rfl rfl h2 _ _).lone (upd_same ..) (upd_same ..)
    .obtain⟨rfl,rfl⟩:b0=b/\xt=bs:=by simpa using NK
     have aY:=runT_crowd_go (P:=P) (sl:=eR) (i:=0) h0 (show stepG P (0==0) (fV f (top++b0::xt)) (w1.at d)=_ from h1);rw[hq.woken h0 rfl]at aY;refine lN.step (bF.trans aY) ⟨0,v,w3,_,_,_,eR,_,q,rfl,h3,aL _ cq,fun j x hj hx=>?_,(jz.step (w:=w1.at d) (g:=0) rfl rfl h2 _ _).lone (upd_same ..) (upd_same ..)⟩;rw[av _ (by omega)]at hx;exact hq j x hj hx
    .cases NK
    .exact pay (Cv _ _ _ _ _ h1) c rest nV fun v w3 dH bk hp=>(h2 v w3 dH bk (NF _ _ _ _ _ _ _ _ _ hp)).1
   .have t8:=hq i g fv hi;have uC:(i==0)=false:=by simp;omega
    have ap:i<gs.size:=(Array.getElem?_eq_some_iff.1 hi).1;cases hk:q i with
    |zero=>rw[hk]at t8;rw[show g.status=.finished from t8]at hg;cases hg
    |succ k=>
     rw[hk]at t8;rcases t8 with hf|⟨_,g',hs,nf⟩
     .rw[hf]at hg;cases hg
     have aY:=runT_crowd_go (P:=P) (sl:=eR) hi (by rw[uC];exact hs (w1.at d));rw[hq.woken h0 rfl]at aY;have e0:t++MemOp.ofEvents i g.frame.fn g.frame.place #[]=t:=by simp[MemOp.ofEvents]
     refine lN.step (bF.trans aY) ?_;rw[e0];refine ih (sumTo gs.size (upd q i k)) ?_ _ (w1.at d) eR t (upd q i k) (by simp) (he.trans (gt _ _ _)) ?_ (fun j x hj hx=>?_) jz
     .rw[<-hn];refine iO ap ?_ fun j hj=>upd_ne _ _ hj;rw[upd_same,hk];omega
     .rw[av _ (by omega)];exact h0
     .by_cases e:j=i
      .subst e;rw[aL _ ap]at hx;rw[upd_same,<-Option.some.inj hx];exact nf
      .rw[av _ e]at hx;rw[upd_ne _ _ e];exact hq j x hj hx
 intro gs w1 sl t q he h0 hq jz;exact key _ gs w1 sl t q rfl he h0 hq jz
end
end Go.aC
namespace Go.aC
theorem CT.NL {P:Program} {main:Bool} {base:List Frame} {Fin:lH} {e:FuncId} (X:Nat->Prop) {kn own:Nat->Prop} {f:Frame} {top:List Frame} {w:World}
 (h:CT P main base Fin (Mt P e) qG kn own f top w) (hX:∀r,X r->r<w.heap.size) (hd:∀r,own r->¬X r):
 CT P main base (fun _ own v w'=>(∃E9,Fin E9 own v w')/\Env X w w') (fun kn own f w1=>Mt P e kn own f w1/\(∀r,X r->kn r)/\Env X w w1) qG (fun r=>kn r\/X r) own f top w:=by
 have key:=CT.ind (I:=fun kn own f top w1=>(∀r,own r->¬X r)->Env X w w1->CT P main base (fun _ own v w'=>(∃E9,Fin E9 own v w')/\Env X w w') (fun kn own f w1=>Mt P e kn own f w1/\(∀r,X r->kn r)/\Env X w w1) qG (fun r=>kn r\/X r) own f top w1) ?_ h
 .exact key hd (Env.refl _ _)
 intro kn own f top w1 hb Ai Au
 have keep:∀{w2 w3:World} {es:Array Event},Env (fun r=>kn r\/X r) w1 w2->Fair kn own w2 w3 es->Env X w w3/\∀r,au own w2 w3 r->¬X r:=fun{w2 w3 es} he hf=>by
  have um:Env X w w2:=Au.trans (he.mono fun r h=>.inr h);have ap:∀r,X r->r<w2.heap.size:=fun r hr=>Nat.lt_of_lt_of_le (hX r hr) um.1;refine⟨um.trans ⟨hf.size,fun r hr=>hf.others r (ap r hr) fun ho=>Ai r ho hr,hf.os,hf.out⟩,fun r hr hx=>?_⟩;rcases hr with hr|hr
  .exact Ai r hr hx
  .have:=ap r hx;have:=hr.1;omega
 refine CT.mk fun w2 he=>?_;rcases hb w2 (he.mono fun r h=>.inl h)with⟨w3,es,f2,lI,h1,h2,h3⟩|⟨w3,es,v,b',si,h0,h1,h2,h3⟩|⟨w3,es,v,h0,h1,h2,h3⟩|⟨h1,c,rest,h2,h3⟩
 .refine .inl ⟨w3,es,f2,lI,h1,h2.mono (fun r h=>.inl h) (fun r h=>h),?_⟩;rw[iC];obtain⟨k1,k2⟩:=keep he h2;exact h3.1 k2 k1
 .exact .inr (.inl ⟨w3,es,v,b',si,h0,h1,h2.mono (fun r h=>.inl h) (fun r h=>h),⟨_,h3⟩,(keep he h2).1⟩)
 .exact .inr (.inr (.inl ⟨w3,es,v,h0,h1,h2.mono (fun r h=>.inl h) (fun r h=>h),⟨_,h3⟩,(keep he h2).1⟩))
 .have um:Env X w w2:=Au.trans (he.mono fun r h=>.inr h);refine .inr (.inr (.inr ⟨⟨h1,fun r hr=>.inr hr,um⟩,c,rest,h2,fun v w3 dH bk hp=>?_⟩));obtain⟨rfl,q2,rfl,rfl⟩:=hp;exact(h3 (.bool true) w3 kn bk ⟨rfl,q2.mono fun r h=>.inl h,rfl,rfl⟩).1 Ai (um.trans (q2.mono fun r h=>.inr h))
def rowsOf (w:World):Pi:=fun r r'=>r=r'/\∃c e fz,w.heap[r]?=some (.cells c e fz)
open Classical in
theorem FM {S:Nat->Bool} (hJ:S JK=true) (p:Pi):∀(n:Nat) (v':Value),SizeOf.sizeOf v'<n->∃v,VR S p v v'/\(VR S p v' v'->v=v'):=by
 intro n;induction n with
 |zero=>intro v' h;omega
 |succ n ih=>
  intro v' hn;by_cases hs:VR S p v' v'
  .exact⟨v',hs,fun _=>rfl⟩
  have aI:∀xs:Array Value,SizeOf.sizeOf xs<n->∃ys:Array Value,AR S p ys xs:=by
   intro xs hx
   have hm:∀x∈xs,∃v,VR S p v x:=fun x NM=>by
    have:=Array.sizeOf_lt_of_mem NM;obtain⟨v,h,_⟩:=ih x (by omega);exact⟨v,h⟩
   let g:Value->Value:=fun x=>if h:∃v,VR S p v x then h.choose else x
   refine⟨xs.map g,by simp,fun i a b ha hb=>?_⟩;rw[Array.getElem?_map,hb]at ha;simp only[Option.map_some,Option.some.injEq]at ha;subst ha;have h:=hm b (Array.mem_of_getElem? hb);show VR S p (if h:∃v,VR S p v b then h.choose else b) b;rw[dif_pos h];exact h.choose_spec
  cases hj:Ir v' with
  |true=>exact⟨.tuple #[],.mA hJ hj,fun h=>absurd h hs⟩
  |false=>
   cases v' with
   |bool b=>exact absurd (.bool b) hs
   |int k n=>exact absurd (.int k n) hs
   |string s=>exact absurd (.string s) hs
   |chan c=>exact absurd (.chan c) hs
   |nilFunc=>exact absurd .nilFunc hs
   |nilIface=>exact absurd .nilIface hs
   |pointer a=>cases a with
    |none=>exact absurd .jo hs
    |some a=>cases hj
   |slice a l c=>cases a with
    |none=>exact absurd (.bC l c) hs
    |some a=>cases hj
   |map a=>cases a with
    |none=>exact absurd .jf hs
    |some a=>cases hj
   |func f xs ys=>cases f with
    |method n=>exact⟨MF,.wE hJ n xs ys,fun h=>absurd h hs⟩
    |_=>cases hj
   |agg xs=>
    obtain⟨ys,hy⟩:=aI xs (by simp only[Value.agg.sizeOf_spec]at hn;omega);exact⟨_,hy.agg,fun h=>absurd h hs⟩
   |tuple xs=>
    obtain⟨ys,hy⟩:=aI xs (by simp only[Value.tuple.sizeOf_spec]at hn;omega);exact⟨_,hy.tuple,fun h=>absurd h hs⟩
   |_=>cases hj
open Classical in
noncomputable def dz (S:Nat->Bool) (p:Pi) (v':Value):Value:=if h:∃v,VR S p v v'/\(VR S p v' v'->v=v')then h.choose else v'
theorem zd {S:Nat->Bool} (hJ:S JK=true) (p:Pi) (v':Value):VR S p (dz S p v') v'/\(VR S p v' v'->dz S p v'=v'):=by
 have h:=FM hJ p (SizeOf.sizeOf v'+1) v' (by omega);unfold dz;rw[dif_pos h];exact h.choose_spec
noncomputable def Sn (S:Nat->Bool) (p:Pi):Obj->Obj
 |.cells c e _=>.cells (c.map (dz S p)) e (0,c.size)
 |o=>o
noncomputable def gV (S:Nat->Bool) (w:World):World:={w with heap:=w.heap.map (Sn S (rowsOf w))}
section
variable {P:Program} {S:Nat->Bool} {w:World}
theorem uK:(gV S w).heap.size=w.heap.size:=by show(w.heap.map _).size=_;simp
theorem sD {r:Nat} {c:Array Value} {e:TypeId} {fz:Nat×Nat} (h:w.heap[r]?=some (.cells c e fz)):(gV S w).heap[r]?=some (.cells (c.map (dz S (rowsOf w))) e (0,c.size)):=by
 show(w.heap.map _)[r]?=_;rw[Array.getElem?_map,h];rfl
theorem KC (hJ:S JK=true) (hg:P.globals.size<=w.heap.size):WR P S (KS P S) w.heap.size (rowsOf w) (gV S w) w:=by
 refine⟨fun r r' s s' x y=>by rw[<-x.1,<-y.1],fun r r' x=>?_,by rw[uK];exact Nat.le_refl _,fun r r' x=>by rw[x.1],by rw[uK];exact hg,hg⟩;obtain⟨rfl,c,e,fz,h⟩:=x;refine⟨_,_,sD h,h,.inl ⟨(Array.getElem?_eq_some_iff.1 h).1,c.map (dz S (rowsOf w)),c,e,fz,by simp,rfl,by simp,fun i a b ha hb=>?_⟩⟩;rw[Array.getElem?_map,hb]at ha;simp only[Option.map_some,Option.some.injEq]at ha;subst ha;exact(zd hJ _ b).1
theorem jB (hJ:S JK=true) {a:Addr} {v:Value} (h:w.cell? a=some v) (hv:VR S (rowsOf w) v v):(gV S w).cell? a=some v:=by
 unfold World.cell? at h⊢;split at h
 .rename_i c e fz hx;rw[sD hx];simp only;split at h
  .cases h
  .rename_i jn;rw[if_neg jn,Array.getElem?_map,h];simp only[Option.map_some,Option.some.injEq];exact(zd hJ _ v).2 hv
 .cases h
end
end Go.aC
