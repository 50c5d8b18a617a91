/- A part. Conditions: none. -/
import Derived.Test.YthmokljbbkcjdaaGreatDoorT06
import Derived.ChangeMade
set_option linter.all false
namespace Go.aO
open Go.Made
variable {P:Program} {i:TypeInfo} {info:TypeId->Option TypeInfo} {v:Value}
def flat (v:Value):Prop:=∀x∈v.cells,plain 5 x=true
theorem AX:∀(n:Nat) (v:Value),plain n v=true->plain (n+1) v=true:=by
 intro n;induction n with
 |zero=>
  intro v h;cases v;case pointer a=>cases a<;>first|rfl|(simp[aO.plain]at h;done)
  case slice a l c=>cases a<;>first|rfl|(simp[aO.plain]at h;done)
  case map a=>cases a<;>first|rfl|(simp[aO.plain]at h;done)
  case chan a=>cases a<;>first|rfl|(simp[aO.plain]at h;done)
  all_goals first|rfl|(simp[aO.plain]at h;done)
 |succ n ih=>
  intro v h;cases v;case pointer a=>cases a<;>first|rfl|(simp[aO.plain]at h;done)
  case slice a l c=>cases a<;>first|rfl|(simp[aO.plain]at h;done)
  case map a=>cases a<;>first|rfl|(simp[aO.plain]at h;done)
  case chan a=>cases a<;>first|rfl|(simp[aO.plain]at h;done)
  case iface t v=>exact ih v h
  case agg xs=>
   have h:xs.all (aO.plain n)=true:=h;show xs.all (aO.plain (n+1))=true;exact Array.all_eq_true.2 fun i hi=>ih _ (Array.all_eq_true.1 h i hi)
  case tuple xs=>
   have h:xs.all (aO.plain n)=true:=h;show xs.all (aO.plain (n+1))=true;exact Array.all_eq_true.2 fun i hi=>ih _ (Array.all_eq_true.1 h i hi)
  all_goals first|rfl|(simp[aO.plain]at h;done)
theorem lF {n m:Nat} (FP:n<=m) (h:plain n v=true):plain m v=true:=by
 induction FP with
 |refl=>exact h
 |step _ ih=>exact AX _ _ ih
theorem flat.plain (h:flat v):plain 50 v=true:=by
 unfold flat at h;cases v with
 |agg xs=>
  show xs.all (aO.plain 49)=true;exact Array.all_eq_true.2 fun i hi=>lF (by omega) (h _ (Array.getElem_mem hi))
 |_=>exact lF (by omega) (h _ (by simp[Value.cells]))
theorem Ej {α β:Type} (f:α->β->Option (ForInStep β)) (I:β->Prop) (hf:∀a b r,I b->f a b=some r->I (match r with|.yield b=>b|.done b=>b)):∀(l:List α) (b r:β),I b->forIn l b f=some r->I r:=by
 intro l;induction l with
 |nil=>intro b r hb h;simp only[List.forIn_nil,pure,Option.some.injEq]at h;exact h▸hb
 |cons a l ih=>
  intro b r hb h;simp only[List.forIn_cons,bind,Option.bind_eq_some_iff]at h;obtain⟨s,hs,h⟩:=h;have:=hf a b s hb hs;cases s with
  |done b'=>simp only[pure,Option.some.injEq]at h;exact h▸this
  |yield b'=>exact ih b' r this h
def Gw (info:TypeId->Option TypeInfo):Prop:=∀t i v,info t=some i->i.zero=some v->flat v
theorem nY (hi:Gw info) {fs:Array Field} (h:reckonStruct info fs=some i) (hv:i.zero=some v):flat v:=by
 unfold reckonStruct at h;simp only[bind,Option.bind_eq_some_iff,pure]at h;obtain⟨a,ha,h⟩:=h;rw[<-Array.forIn_toList]at ha;have key:=Ej _ (fun s:Array Field×Nat×Nat×Nat×Nat×Bool×Bool×Option (Array Value)×String=>∀z,s.2.2.2.2.2.2.2.1=some z->∀x∈z,aO.plain 5 x=true) ?_ _ _ _ ?_ ha
 .split at h
  all_goals
   simp only[Option.some.injEq]at h;subst h;simp only[Option.map_eq_some_iff]at hv;obtain⟨z,hz,rfl⟩:=hv;exact key z hz
 .intro f b r hb hr;simp only[Option.bind_eq_some_iff]at hr;obtain⟨j,hj,hr⟩:=hr
  have fin:∀z,(b.2.2.2.2.2.2.2.1.bind fun z0=>j.zero.bind fun z1=>some (z0++z1.cells))=some z->∀x∈z,aO.plain 5 x=true:=by
   intro z hz;simp only[Option.bind_eq_some_iff,Option.some.injEq]at hz;obtain⟨z0,h0,z1,h1,rfl⟩:=hz;intro x hx;rcases Array.mem_append.1 hx with hx|hx
   .exact hb z0 h0 x hx
   .exact hi _ _ _ hj h1 x hx
  repeat' split at hr
  all_goals(try(simp only[Option.bind_none,reduceCtorEq]at hr;done))
  all_goals(try simp only[Option.bind_eq_some_iff]at hr)
  all_goals(obtain⟨_,_,hr⟩:=hr;simp only[Option.some.injEq]at hr;subst hr;intro z hz;first|(cases hz;done)|exact fin z hz)
 .intro z hz;simp only[Option.some.injEq]at hz;subst hz;simp
theorem yx (hi:Gw info) {d:TypeDesc} (h:reckon info d=some i) (hv:i.zero=some v):flat v:=by
 have one:∀u:Value,aO.plain 0 u=true->flat u:=fun u hu x hx=>by
  cases u<;>first|(simp only[Value.cells,List.mem_toArray,List.mem_singleton]at hx;subst hx;exact lF (Nat.zero_le _) hu)|(cases hu;done)
 cases d with
 |struct fs=>exact nY hi h hv
 |array n e=>
  simp only[reckon,bind,Option.bind_eq_some_iff,pure,Option.some.injEq]at h;obtain⟨j,hj,s,_,rfl⟩:=h;simp only at hv;split at hv
  .cases hv
  .split at hv
   .simp only[Option.some.injEq]at hv;subst hv;intro x hx;simp[Value.cells]at hx
   .simp only[Option.map_eq_some_iff]at hv;obtain⟨z,hz,rfl⟩:=hv;intro x hx;simp only[Value.cells,Array.mem_flatten,Array.mem_replicate]at hx;obtain⟨y,⟨_,rfl⟩,hx⟩:=hx;exact hi _ _ _ hj hz x hx
 |pointer e=>
  simp only[reckon,bind,Option.bind_eq_some_iff,pure]at h;obtain⟨j,hj,h⟩:=h;repeat' split at h
  all_goals(try(cases h;done))
  all_goals(simp only[Option.bind_eq_some_iff,Option.some.injEq]at h;obtain⟨_,_,rfl⟩:=h;simp only[word,Option.some.injEq]at hv;subst hv;exact one _ rfl)
 |_=>
  first
  |(simp only[reckon,reduceCtorEq]at h;done)
  |(simp only[reckon,bind,Option.bind_eq_some_iff,pure,Option.some.injEq]at h;obtain⟨_,_,_,_,rfl⟩:=h;simp only[word,Option.some.injEq]at hv;subst hv;exact one _ rfl)
  |(simp only[reckon,bind,Option.bind_eq_some_iff,pure,Option.some.injEq]at h;obtain⟨_,_,_,_,_,_,_,_,rfl⟩:=h;simp only[word,Option.some.injEq]at hv;subst hv;exact one _ rfl)
  |(simp only[reckon,bind,Option.bind_eq_some_iff,pure,Option.some.injEq]at h;obtain⟨_,_,rfl⟩:=h;simp only[word,Option.some.injEq]at hv;subst hv;exact one _ rfl)
def uf (T:Tables):Bool:=T.types.all fun i=>match i.zero with|some v=>v.cells.all (aO.plain 5)|none=>true
theorem yy {T:Tables} (h:uf T=true):∀f,Gw (infoAt T f):=by
 have low:∀(t:Nat) (i:TypeInfo) (v:Value),T.types[t]?=some i->i.zero=some v->flat v:=by
  intro t i v ht hv;obtain⟨aA,he⟩:=Array.getElem?_eq_some_iff.1 ht;have:=Array.all_eq_true.1 h t aA;rw[he]at this;simp only[hv]at this;intro x hx;obtain⟨k,hk,rfl⟩:=Array.mem_iff_getElem.1 hx;exact Array.all_eq_true.1 this k hk
 intro f;induction f with
 |zero=>intro t i v ht;cases ht
 |succ f ih=>
  intro t i v ht hv;unfold infoAt at ht;split at ht
  .exact low t i v ht hv
  .simp only[Option.bind_eq_some_iff]at ht;obtain⟨d,_,ht⟩:=ht;exact yx ih ht hv
theorem Gx (h:uf P.toTables=true):aK P:=by
 intro t i v ht hv;have ht:Tables.info? P.toTables t=some i:=ht
 have:infoAt P.toTables depth t=some i:=by
  unfold Tables.info? at ht;split at ht
  .unfold depth infoAt;rw[if_pos (by assumption)];exact ht
  .exact ht
 exact(yy h depth t i v this hv).plain
def AY (T:Tables):Bool:=T.types.all fun i=>match i.desc with|.named n _=>!(n== "sync.copyChecker")|_=>true
theorem AZ (h:AY P.toTables=true):ap P:=by
 intro t i u ht hd;have ht:Tables.info? P.toTables t=some i:=ht;by_cases aA:t<P.types.size
 .unfold Tables.info? at ht;rw[if_pos aA]at ht;obtain⟨aA,he⟩:=Array.getElem?_eq_some_iff.1 ht;have:=Array.all_eq_true.1 h t aA;rw[he,hd]at this;simp at this
 .have:=Tables.info?_beyond aA ht;rw[hd]at this;cases this
end Go.aO
namespace Go.aO
open Go.Conc
variable {P:Program} {d r t:Nat} {e:TypeId} {fz:Nat×Nat} {i:TypeInfo} {o:Oper} {ops:Array Oper} {u:Value} {w:World}
def FW (m:Region.Mode) (ops:Array Oper) (listed:Array Bool):List Nat:=
 (List.range ops.size).filter fun i=>!listed.getD i true&&((ops[i]?).map (·.after.all fun e=>!Region.binds m e||listed.getD e.on false)).getD false
inductive MU (m:Region.Mode) (ops:Array Oper):Nat->Array Bool->List Nat->Prop
 |stop {n:Nat} {listed:Array Bool} (h:n=0\/FW m ops listed=[]):MU m ops n listed []
 |next {n i:Nat} {listed:Array Bool} {l:List Nat} (h:i∈FW m ops listed) (t:MU m ops n (listed.setIfInBounds i true) l):MU m ops (n+1) listed (i::l)
theorem OI (m:Region.Mode) (ops:Array Oper):∀(n t:Nat) (listed:Array Bool) (acc:List Nat),∃l,Region.linearise.go m ops n t listed acc=acc.reverse++l/\MU m ops n listed l:=by
 intro n;induction n with
 |zero=>intro t listed acc;exact⟨[],by simp[Region.linearise.go],.stop (.inl rfl)⟩
 |succ n ih=>
  intro t listed acc;unfold Region.linearise.go;have e:((List.range ops.size).filter fun i=>!listed.getD i true&&((ops[i]?).map (·.after.all fun e=>!Region.binds m e||listed.getD e.on false)).getD false)=FW m ops listed:=rfl;simp only[e];cases hi:(FW m ops listed)[t%(FW m ops listed).length]? with
  |none=>
   refine⟨[],by simp,.stop (.inr ?_)⟩;cases hr:FW m ops listed with
   |nil=>rfl
   |cons a l=>
    rw[hr]at hi;have:t%(a::l).length<(a::l).length:=Nat.mod_lt _ (by simp);rw[List.getElem?_eq_getElem this]at hi;cases hi
  |some i=>
   obtain⟨l,h1,h2⟩:=ih (t/(FW m ops listed).length) (listed.setIfInBounds i true) (i::acc);exact⟨i::l,by simp only[];rw[h1];simp,.next (List.mem_of_getElem? hi) h2⟩
theorem A5 (m:Region.Mode) (ops:Array Oper) (t:Nat):MU m ops ops.size (Array.replicate ops.size false) (Region.linearise m ops t):=by
 obtain⟨l,h1,h2⟩:=OI m ops ops.size t (Array.replicate ops.size false) [];unfold Region.linearise;rw[h1];exact h2
def kl (m:Region.Mode) (ops:Array Oper):Nat->Array Bool->List (List Nat)
 |0,_=>[[]]
 |n+1,listed=>if(FW m ops listed).isEmpty then [[]]else(FW m ops listed).flatMap fun i=>(kl m ops n (listed.setIfInBounds i true)).map (i::·)
theorem qk {m:Region.Mode} {n:Nat} {listed:Array Bool} {l:List Nat} (h:MU m ops n listed l):l∈kl m ops n listed:=by
 induction h with
 | @stop n listed h=>
   cases n with
   |zero=>simp[kl]
   |succ n=>
    rcases h with h|h
    .omega
    .simp[kl,h]
 | @next n i listed l h _ ih=>
   simp only[kl];split
   .rename_i he;rw[List.isEmpty_iff]at he;rw[he]at h;cases h
   .simp only[List.mem_flatMap,List.mem_map];exact⟨_,h,_,ih,rfl⟩
structure CJ (P:Program) (o:Oper) (d:Nat) (v:Nat->Value) (x:Obj):Prop where
 dst:o.dst=some d
 guard:o.guard=none
 run:∀(a:Act) (w:World),(execOp a.eval o).run P w=.ok (.value (v w.heap.size)) (w.alloc x)
 ev:∀(a:Act) (w:World),(execOp a.eval o).events P w #[]=#[]
structure Made (ops:Array Oper) (d:Nat->Nat) (v:Nat->Nat->Value) (x:Nat->Obj) (is:List Nat) (kn own:Nat->Prop) (tm:Array Value) (w:World) (pos:Nat->Nat) (gR eB:Nat->Prop) (bQ:Array Value) (w':World):Prop where
 size:bQ.size=tm.size
 slot:∀i∈is,d i<tm.size->bQ.getD (d i) undef=v i (pos i)
 others:∀j,(∀i∈is,d i≠j)->bQ.getD j undef=tm.getD j undef
 new:∀i∈is,w.heap.size<=pos i/\pos i<w'.heap.size
 inj:∀i∈is,∀j∈is,pos i=pos j->i=j
 heap:∀i∈is,w'.heap[pos i]?=some (x i)
 env:Env kn w w'
 WZ:∀r,gR r↔kn r\/∃i∈is,r=pos i
 Kq:∀r,eB r↔own r\/∃i∈is,r=pos i
theorem aj (a:Array Value) (i:Nat) (v u:Value) (h:i<a.size):(a.setIfInBounds i v).getD i u=v:=by
 rw[Array.getD_eq_getD_getElem?,aX _ h];rfl
theorem getD_set_ne (a:Array Value) {i j:Nat} (v u:Value) (h:j≠i):(a.setIfInBounds i v).getD j u=a.getD j u:=by
 rw[Array.getD_eq_getD_getElem?,Array.getD_eq_getD_getElem?,aI _ h]
theorem Tree.makes {main:Bool} {K:ni} (T:Tree P main K) {b:Frame} {k:List Item} {cs:List Frame} {rest:List Nat} (hk:b.kind≠ .early) {d:Nat->Nat} {v:Nat->Nat->Value} {x:Nat->Obj}:
 ∀(is:List Nat),is.Nodup->(∀i∈is,∃o,ops[i]?=some o/\CJ P o (d i) (v i) (x i))->(∀i∈is,∀j∈is,d i=d j->i=j)->∀(kn own:Nat->Prop) (tm:Array Value) (ds:List Deferred) (w:World),(∀r,kn r->r<w.heap.size)->
  (∀pos gR eB bQ w',Made ops d v x is kn own tm w pos gR eB bQ w'->K gR eB (G (b.at ⟨bQ,ds⟩ (.inRegion ops rest::k)) cs) w')->
  K kn own (G (b.at ⟨tm,ds⟩ (.inRegion ops (is++rest)::k)) cs) w:=by
 intro is;induction is with
 |nil=>
  intro _ _ _ kn own tm ds w _ h;exact h (fun _=>0) kn own tm w ⟨rfl,fun i hi=>by simp at hi,fun _ _=>rfl,fun i hi=>by simp at hi,fun i hi=>by simp at hi,fun i hi=>by simp at hi,Env.refl _ _,fun r=>by simp,fun r=>by simp⟩
 |cons i is ih=>
  intro D0 aV W6 kn own tm ds w aA h;obtain⟨o,ho,hm⟩:=aV i (by simp);rw[List.nodup_cons]at D0;refine T.op (i:=i) (rest:=is++rest) ho (by unfold Region.wanted;rw[hm.guard]) hk fun w2 he=>⟨_,_,hm.run _ w2,by rw[hm.ev];exact Fair.alloc _,?_⟩
  rw[ja,ja];have hs:(w2.alloc (x i)).heap.size=w2.heap.size+1:=by show(w2.heap.push (x i)).size=_;simp
  have SK:(w2.alloc (x i)).heap[w2.heap.size]?=some (x i):=by show(w2.heap.push (x i))[w2.heap.size]?=_;simp
  have hold:∀r,r<w2.heap.size->(w2.alloc (x i)).heap[r]?=w2.heap[r]?:=fun r hr=>by
   show(w2.heap.push (x i))[r]?=_;simp[Array.getElem?_push,Nat.ne_of_lt hr]
  have Kt:Act.put ⟨tm,ds⟩ o.dst (v i w2.heap.size)=⟨tm.setIfInBounds (d i) (v i w2.heap.size),ds⟩:=by rw[hm.dst];rfl
  rw[Kt];refine ih D0.2 (fun j hj=>aV j (by simp[hj])) (fun a ha c hc=>W6 a (by simp[ha]) c (by simp[hc])) _ _ _ ds _ (fun r hr=>?_) fun pos gR eB bQ w' hM=>?_
  .rw[hs];rcases hr with hr|hr
   .have:=Nat.lt_of_lt_of_le (aA r hr) he.1;omega
   .omega
  .have hpi:∀j∈is,w2.heap.size+1<=pos j:=fun j hj=>by have:=(hM.new j hj).1;omega
   have br:∀j∈is,j≠i:=fun j hj e=>D0.1 (e▸hj);refine h (fun j=>if j=i then w2.heap.size else pos j) gR eB bQ w' ⟨?_,?_,?_,?_,?_,?_,?_,?_,?_⟩
   .rw[hM.size];simp
   .intro j hj hd;rcases List.mem_cons.1 hj with rfl|hj
    .rw[if_pos rfl,hM.others (d j) (fun c hc e=>br c hc (W6 c (by simp[hc]) j (by simp) e)),aj _ _ _ _ hd]
    .rw[if_neg (br j hj)];exact hM.slot j hj (by simpa using hd)
   .intro j hj;rw[hM.others j (fun c hc=>hj c (by simp[hc])),getD_set_ne _ _ _ (Ne.symm (hj i (by simp)))]
   .intro j hj;have zdd:=hM.env.1;rcases List.mem_cons.1 hj with rfl|hj
    .rw[if_pos rfl];have:=he.1;omega
    .rw[if_neg (br j hj)];have:=hM.new j hj;have:=he.1;omega
   .intro a ha c hc e;rcases List.mem_cons.1 ha with ea|ha<;>rcases List.mem_cons.1 hc with ec|hc
    .rw[ea,ec]
    .rw[ea,if_pos rfl,if_neg (br c hc)]at e;have:=hpi c hc;omega
    .rw[ec,if_pos rfl,if_neg (br a ha)]at e;have:=hpi a ha;omega
    .rw[if_neg (br a ha),if_neg (br c hc)]at e;exact hM.inj a ha c hc e
   .intro j hj;rcases List.mem_cons.1 hj with rfl|hj
    .rw[if_pos rfl,hM.env.2 _ (.inr rfl),SK]
    .rw[if_neg (br j hj)];exact hM.heap j hj
   .refine⟨Nat.le_trans he.1 (by have:=hM.env.1;omega),fun r hr=>?_,hM.env.os.trans he.os,hM.env.out.trans he.out⟩;rw[hM.env.2 r (.inl hr),hold r (Nat.lt_of_lt_of_le (aA r hr) he.1),he.2 r hr]
   .intro r;rw[hM.WZ r];constructor
    .rintro((h|h)|⟨j,hj,h⟩)
     .exact .inl h
     .exact .inr ⟨i,by simp,by rw[if_pos rfl];exact h⟩
     .exact .inr ⟨j,by simp[hj],by rw[if_neg (br j hj)];exact h⟩
    .rintro(h|⟨j,hj,h⟩)
     .exact .inl (.inl h)
     .rcases List.mem_cons.1 hj with rfl|hj
      .rw[if_pos rfl]at h;exact .inl (.inr h)
      .rw[if_neg (br j hj)]at h;exact .inr ⟨j,hj,h⟩
   .intro r;rw[hM.Kq r];constructor
    .rintro((h|h)|⟨j,hj,h⟩)
     .exact .inl h
     .exact .inr ⟨i,by simp,by rw[if_pos rfl];exact h⟩
     .exact .inr ⟨j,by simp[hj],by rw[if_neg (br j hj)];exact h⟩
    .rintro(h|⟨j,hj,h⟩)
     .exact .inl (.inl h)
     .rcases List.mem_cons.1 hj with rfl|hj
      .rw[if_pos rfl]at h;exact .inl (.inr h)
      .rw[if_neg (br j hj)]at h;exact .inr ⟨j,hj,h⟩
theorem rL {e:Nat} {dir:ChanDir} (ho:o.op=.makeChan t (.const (.int .i64 0))) (hd:o.dst=some d) (hg:o.guard=none) (ht:P.underlying t=some (.chan dir e)) (hi:P.info? e=some i):
 CJ P o d (fun r=>.chan (some r)) (.chan 0 #[] false 0 0 false):=by
 obtain⟨dst,op,ty,pos,af,gd⟩:=o;simp only at ho hd hg;subst ho;subst hd;subst hg;refine⟨rfl,rfl,fun a w=>?_,fun a w=>?_⟩
 .have:=run_makeChan (P:=P) (w:=w) ht hi .i64 0 (by decide) (by simp);show(Instr.makeChan t (.int .i64 0)>>=fun v=>pure (Next.value v)).run P w=_;have this:(Instr.makeChan t (.int .i64 0)).run P w=.ok (.chan (some w.heap.size)) (w.alloc (.chan 0 #[] false 0 0 false)):=this;simp[this]
 .have h1:=run_makeChan (P:=P) (w:=w) ht hi .i64 0 (by decide) (by simp);have h2:=events_makeChan (P:=P) (w:=w) ht hi .i64 0 (by decide) (by simp) #[];have h1:(Instr.makeChan t (.int .i64 0)).run P w=.ok (.chan (some w.heap.size)) (w.alloc (.chan 0 #[] false 0 0 false)):=h1;have h2:(Instr.makeChan t (.int .i64 0)).events P w #[]=#[]:=h2;show(Instr.makeChan t (.int .i64 0)>>=fun v=>pure (Next.value v)).events P w #[]=_;simp[h1,h2]
theorem jb {z:Value} (ho:o.op=.alloc t) (hd:o.dst=some d) (hg:o.guard=none) (hi:P.info? t=some i) (hz:i.zero=some z):
 CJ P o d (fun r=>.pointer (some ⟨r,0,none⟩)) (.cells z.cells t):=by
 obtain⟨dst,op,ty,pos,af,gd⟩:=o;simp only at ho hd hg;subst ho;subst hd;subst hg;have J6:∀w,(zeroValue t).run P w=.ok z w:=fun w=>by simp[zeroValue,typeInfo,hi,hz]
 refine⟨rfl,rfl,fun a w=>?_,fun a w=>?_⟩
 .simp[execOp,Instr.alloc,J6,newVar,newRow]
 .simp[execOp,Instr.alloc,J6,newVar,newRow]
theorem fg (w:World) (a:Addr) (v:Value) (h:r≠a.block):(w.setCell a v).heap[r]?=w.heap[r]?:=by
 simp[World.setCell,Array.getElem?_modify,Ne.symm h]
theorem jc {v:Value} (h:w.heap[r]?=some (.cells #[u] e fz)):(w.setCell ⟨r,0,none⟩ v).heap[r]?=some (.cells #[v] e fz):=by
 simp[World.setCell,Array.getElem?_modify,h]
theorem du (h:w.heap[r]?=some (.cells #[u] e fz)):w.cell? ⟨r,0,none⟩=some u:=by simp[World.cell?,h]
theorem eC (h:w.heap[r]?=some (.cells #[u] e (0,0))):w.frozen? ⟨r,0,none⟩=false:=by simp[World.frozen?,h]
theorem gH {kn:Nat->Prop} (a:Addr) (v:Value) (h:¬kn a.block):Env kn w (w.setCell a v):=
 ⟨by simp[World.setCell],fun r hr=>fg w a v fun e=>h (e▸hr),rfl,rfl⟩
end Go.aO
namespace Go.aO
open Go.Conc
open Go.ConcN (upd upd_same upd_ne sumTo)
variable {P:Program} {kn own:Nat->Prop} {t:Trace} {w:World}
structure mh (P:Program) (gs:Array Goroutine) (g:Goroutine) (kn own:Nat->Prop) (w:World) (t:Trace):Prop where
 W7:gs[0]?=some g
 run:g.status=.running
 quit:∃q,cY P gs q
 co:Co (fun g=>g=0) (fun _=>kn) (fun _=>own) w.heap.size t
theorem Ku {At:ni} (Gt:∀kn own g w d,At kn own g (World.at w d)->At kn own g w) {g:Goroutine} (h:i6 P At kn own g w):
 ∀gs w1 sl t,Env kn w w1->mh P gs g kn own w1 t->∃N gR eB g' w' eQ fX t',runNT P N (crowd gs w1 sl) t=(.next (crowd eQ w' fX),t')/\At gR eB g' w'/\mh P eQ g' gR eB w' t':=by
 induction h with
 | @mk kn own g w ok go ih=>
   have key:∀n gs w1 sl t q,sumTo gs.size q=n->Env kn w w1->gs[0]?=some g->g.status=.running->cY P gs q->Co (fun g=>g=0) (fun _=>kn) (fun _=>own) w1.heap.size t->
    ∃N gR eB g' w' eQ fX t',runNT P N (crowd gs w1 sl) t=(.next (crowd eQ w' fX),t')/\At gR eB g' w'/\mh P eQ g' gR eB w' t':=by
    intro n;induction n using Nat.strongRecOn with
    |ind n ihn=>
     intro gs w1 sl t q hn he h0 hr hq lE;by_cases hA:At kn own g w1
     .exact⟨0,kn,own,g,w1,gs,sl,t,rfl,hA,h0,hr,⟨q,hq⟩,lE⟩
     have aw:∀x∈gs,Conc.awake x:=by
      intro x hx;obtain⟨j,hj,rfl⟩:=Array.mem_iff_getElem.1 hx;have xJ:=Array.getElem?_eq_getElem hj;rcases Nat.eq_zero_or_pos j with rfl|fR
      .rw[h0]at xJ;rw[<-Option.some.inj xJ];exact awake_of (.inl hr)
      .exact awake_of ((hq j _ fR xJ).status.imp id .inr)
     obtain⟨i,x,d,fX,hi,hx,cq⟩:=crowd_pick (P:=P) (w:=w1) (sl:=sl) aw ⟨0,_,h0,hr⟩;rcases Nat.eq_zero_or_pos i with rfl|fR
     .obtain rfl:x=g:=by rw[h0]at hi;exact(Option.some.inj hi).symm
      have cM:0<gs.size:=(Array.getElem?_eq_some_iff.1 h0).1;have cu:¬At kn own x (w1.at d):=fun h=>hA (Gt _ _ _ _ _ h);rcases ok (w1.at d) (he.trans (iC _ _ _))with h|⟨g2,w3,es,h1,h2,h3⟩
      .exact absurd h cu
      have bi:=runT_crowd_go (P:=P) (sl:=fX) (i:=0) h0 (show stepG P (0==0) x (w1.at d)=_ from h1);rw[hq.woken h0 hr]at bi
      obtain⟨N,gR,eB,g',w',eQ,Ko,t',k1,k2,k3⟩:=ih (w1.at d) g2 w3 es (he.trans (iC _ _ _)) cu h1 (gs.setIfInBounds 0 g2) w3 fX (t++MemOp.ofEvents 0 x.frame.fn x.frame.place es) (Env.refl _ _)
       ⟨aX _ cM,h2,⟨q,fun j y hj hy=>by rw[aI _ (by omega)]at hy;exact hq j y hj hy⟩,(lE.step (w:=w1.at d) (g:=0) rfl rfl h3 _ _).lone (upd_same ..) (upd_same ..)⟩
      exact⟨N+1,gR,eB,g',w',eQ,Ko,t',by simp only[runNT,cq.trans bi];exact k1,k2,k3⟩
     .have xM:=hq i x fR hi;have AO:(i==0)=false:=by simp;omega
      have aA:i<gs.size:=(Array.getElem?_eq_some_iff.1 hi).1;cases hk:q i with
      |zero=>rw[hk]at xM;rw[show x.status=.finished from xM]at hx;cases hx
      |succ k=>
       rw[hk]at xM;rcases xM with hf|⟨_,g',hs,qc⟩
       .rw[hf]at hx;cases hx
       have bi:=runT_crowd_go (P:=P) (sl:=fX) hi (by rw[AO];exact hs (w1.at d));rw[hq.woken h0 hr]at bi;have e0:t++MemOp.ofEvents i x.frame.fn x.frame.place #[]=t:=by simp[MemOp.ofEvents]
       obtain⟨N,gR,eB,g2,w',eQ,Ko,t',k1,k2,k3⟩:=ihn (sumTo gs.size (upd q i k)) (by
        rw[<-hn];refine kj aA ?_ fun j hj=>upd_ne _ _ hj
        rw[upd_same,hk];omega) (gs.setIfInBounds i g') (w1.at d) fX t (upd q i k) (by simp) (he.trans (iC _ _ _)) (by rw[aI _ (by omega)];exact h0) hr (fun j y hj hy=>by
         by_cases e:j=i
         .subst e;rw[aX _ aA]at hy;rw[upd_same,<-Option.some.inj hy];exact qc
         .rw[aI _ e]at hy;rw[upd_ne _ _ e];exact hq j y hj hy) lE
       refine⟨N+1,gR,eB,g2,w',eQ,Ko,t',?_,k2,k3⟩;have:=cq.trans bi;simp only[runNT,this];rw[e0];exact k1
   intro gs w1 sl t he ha;obtain⟨q,hq⟩:=ha.quit;exact key _ gs w1 sl t q rfl he ha.W7 ha.run hq ha.co
theorem Co.grow {gR eB:Nat->Prop} {B:Nat} (h:Co (fun g=>g=0) (fun _=>kn) (fun _=>own) B t) (hk:∀r,gR r->r<B) (ho:∀r,eB r->gR r):Co (fun g=>g=0) (fun _=>gR) (fun _=>eB) B t:=by
 have all:∀i a r,touchAt t i=some a->kN a.loc r->Knows t 0 i:=fun i a r hi hr=>by
  have hm:a.loc.isMemory=true:=by rcases hr with⟨x,e,_⟩|e<;>rw[e]<;>rfl
  rcases h.ho i a hi hm with h1|⟨g,h1,h2,_⟩
  .exact h1
  .exact absurd h2 h1
 exact⟨h.clean,h.calm,fun _ _=>ho,fun _ _=>hk,fun g k hg xG br=>absurd (hg.trans xG.symm) br,fun g hg i a r hi hr _ _=>hg▸all i a r hi hr,fun g hg i a r hi hr _=>hg▸all i a r hi hr,h.ho,h.low⟩
theorem Inv.Kv {G:iB P} {b:Nat} {S:St} {gs:Array Goroutine} (h:Inv G b S gs w t) (ho:kO G S w):mh P gs S.mn.g S.mn.kn S.mn.own w t:=by
 obtain⟨h1,h2,h3,h4,_⟩:=h.SH ho;exact⟨h1,h2,⟨S.q,h3⟩,h4⟩
end Go.aO
namespace Go.aO
variable {f lf:Frame} {p:Pi} {top:List Frame} {w:World}
def Leaves (X:Nat->Prop) (HA:kW) (HP:dM):Prop:=
 (∀kn own f w,HA kn own f w->HA (fun r=>kn r\/X r) own f w)/\
 ∀kn own f w v w3 eG bI,HP (fun r=>kn r\/X r) own f w v w3 eG bI->∃Xa,HP kn own f w v w3 Xa bI/\eG=(fun r=>Xa r\/X r)/\Env X w w3/\∀r,bI r->own r\/¬X r
theorem CT.keep {P:Program} {main:Bool} {base:List Frame} {Fin:nS} {HA:kW} {HP:dM} (X:Nat->Prop) (hl:Leaves X HA HP) {kn own:Nat->Prop}
 (h:CT P main base Fin HA HP kn own f top w) (hX:∀r,X r->r<w.heap.size) (hd:∀r,own r->¬X r):
 CT P main base (fun _ own v w'=>(∃JJ,Fin JJ own v w')/\Env X w w') HA HP (fun r=>kn r\/X r) own f top w:=by
 have key:=CT.ind (I:=fun kn own f top w1=>(∀r,own r->¬X r)->Env X w w1->CT P main base (fun _ own v w'=>(∃JJ,Fin JJ own v w')/\Env X w w') HA HP (fun r=>kn r\/X r) own f top w1) ?_ h
 .exact key hd (Env.refl _ _)
 intro kn own f top w1 hb D6 Ei
 have keep:∀{w2 w3:World} {es:Array Event},Env (fun r=>kn r\/X r) w1 w2->Fair kn own w2 w3 es->Env X w w3/\∀r,aH own w2 w3 r->¬X r:=fun{w2 w3 es} he hf=>by
  have xY:Env X w w2:=Ei.trans (he.mono fun r h=>.inr h);have aA:∀r,X r->r<w2.heap.size:=fun r hr=>Nat.lt_of_lt_of_le (hX r hr) xY.1;refine⟨xY.trans ⟨hf.size,fun r hr=>hf.others r (aA r hr) fun ho=>D6 r ho hr,hf.os,hf.out⟩,fun r hr hx=>?_⟩;rcases hr with hr|hr
  .exact D6 r hr hx
  .have:=aA r hx;have:=hr.1;omega
 refine CT.mk fun w2 he=>?_;rcases hb w2 (he.mono fun r h=>.inl h)with⟨w3,es,f2,nU,h1,h2,h3⟩|⟨w3,es,v,b',vL,h0,h1,h2,h3⟩|⟨w3,es,v,h0,h1,h2,h3⟩|⟨h1,c,rest,h2,h3⟩
 .refine .inl ⟨w3,es,f2,nU,h1,h2.mono (fun r h=>.inl h) (fun r h=>h),?_⟩;rw[jO];obtain⟨k1,k2⟩:=keep he h2;exact h3.1 k2 k1
 .exact .inr (.inl ⟨w3,es,v,b',vL,h0,h1,h2.mono (fun r h=>.inl h) (fun r h=>h),⟨_,h3⟩,(keep he h2).1⟩)
 .exact .inr (.inr (.inl ⟨w3,es,v,h0,h1,h2.mono (fun r h=>.inl h) (fun r h=>h),⟨_,h3⟩,(keep he h2).1⟩))
 .refine .inr (.inr (.inr ⟨hl.1 _ _ _ _ h1,c,rest,h2,fun v w3 eG bI hp=>?_⟩));obtain⟨Xa,q1,rfl,q3,q4⟩:=hl.2 _ _ _ _ _ _ _ _ hp;refine(h3 v w3 Xa bI q1).1 (fun r hr=>?_) ((Ei.trans (he.mono fun r h=>.inr h)).trans q3);rcases q4 r hr with x|x
  .exact D6 r x
  .exact x
structure MV (P:Program) (F:Array Func) (S:Nat->Bool) (e:FuncId):Prop where
 marked:S (P.funcs.size+P.globals.size)=false
 lone:∀(lf:Frame) (cs:List Frame) (v:World),pv S lf->lf.kind=.normal->∃n,1<=n/\runN P n (lone lf cs v)=.next (lone (lf.finish (.bool true)) cs v)
 comp:∀(main:Bool) (f:Frame) (cs:List Frame) (w:World),pv S f->f.kind=.normal->stepG (ae P F) main (il f cs) w=.go (il (Frame.enter (ae P F) e #[] .normal) (f::cs)) w #[]
def Q9 (Q:Program) (e:FuncId):kW:=fun _ _ f _=>f=Frame.enter Q e #[] .normal
def ug:dM:=fun kn own _ w v w3 eG bI=>v=.bool true/\Env kn w w3/\eG=kn/\bI=own
section
variable {P:Program} {F:Array Func} {S:Nat->Bool} {N:Nat} {e:FuncId}
theorem pv.lone (h:kV P S JI p lf f) (hh:pv S f):pv S lf:=by
 obtain⟨hm,o,ops,i,is,k,h1,h2,h3,h4⟩:=hh;have qG:=h.mode;rw[hm]at qG;have bi:lf.mode=.run:=by generalize lf.mode=x at qG;cases qG;rfl
 have D9:=h.todo;rw[h1]at D9;generalize h5:lf.todo=t at D9;cases D9 with
 |cons hi D9=>
  cases hi with
  |inRegion _ _=>
   refine⟨bi,o,ops,i,is,_,h5,h2,h3,?_⟩;rw[<-h4];congr 1;exact funext fun j=>qg ops h.tmps j
section
variable (Q:Program) (S:Nat->Bool) (N:Nat) (main:Bool) (base:List Frame) (Fin:nS) (HA:kW) (HP:dM)
def Nd.Kw (x:Nd) (w2 w3:World):Prop:=Env (jK x.p) w2 w3/\¬CT Q main base Fin HA HP (jK x.p) (cz N x.p) (x.f.finish (.bool true)) x.top w3
open Classical in
noncomputable def Nd.CK (x:Nd):World:=if h:∃w3,x.Kw Q N main base Fin HA HP (x.pick Q N main base Fin HA HP) w3 then h.choose else x.w
theorem Nd.A6 (x:Nd) (h:∃w3,x.Kw Q N main base Fin HA HP (x.pick Q N main base Fin HA HP) w3):x.Kw Q N main base Fin HA HP (x.pick Q N main base Fin HA HP) (x.CK Q N main base Fin HA HP):=by
 unfold Nd.CK;rw[dif_pos h];exact h.choose_spec
open Classical in
noncomputable def Nd.SL (x:Nd):Nd:=
 if pv S x.f then⟨x.p,x.L,x.f.finish (.bool true),x.top,x.CK Q N main base Fin HA HP⟩
 else match x.step Q main base (x.pick Q N main base Fin HA HP)with
 |.go g w3 _=>⟨ext x.p x.L (x.pick Q N main base Fin HA HP).heap.size (w3.heap.size-(x.pick Q N main base Fin HA HP).heap.size),x.L+(w3.heap.size-(x.pick Q N main base Fin HA HP).heap.size),
    g.frame,g.callers.take (g.callers.length-base.length),w3⟩
 |_=>x
noncomputable def Nd.MW (x:Nd):Nat->Nd
 |0=>x
 |k+1=>(Nd.MW x k).SL Q S N main base Fin HA HP
open Classical in
noncomputable def Nd.Gy (x:Nd):Nat:=
 if pv S x.f then 0 else(gw (x.step Q main base (x.pick Q N main base Fin HA HP))).drawn-(x.pick Q N main base Fin HA HP).drawn
noncomputable def Nd.Gz (x:Nd) (i:Nat):Question->Nat:=(x.pick Q N main base Fin HA HP).tape ((x.pick Q N main base Fin HA HP).drawn+i)
end
theorem yz (hc:Closed P F S JI) (hg:iz P S p) {rB:List Frame} {lw:World} (hw:WR P S (KS P S) N p lw w)
 (hf:FL P S JI p (lf::rB) (f::top)) {R:Value->World->Prop} (hl:MV P F S e) (Ea:WN P lf rB lw R fun _ _=>False) (main:Bool) (base:List Frame) (hb:Of P S main base):
 CT (ae P F) main base (rC P S N p R) (Q9 (ae P F) e) ug (jK p) (cz N p) f top w:=by
 refine Classical.byContradiction fun Yo=>?_;let Fin:=rC P S N p R
 let HA:=Q9 (ae P F) e
 let x0:Nd:=⟨p,lw.heap.size,f,top,w⟩
 have qd:¬x0.ct (ae P F) N main base Fin HA ug:=Yo;let X:=fun k=>Nd.MW (ae P F) S N main base Fin HA ug x0 k
 let pk:=fun k=>(X k).pick (ae P F) N main base Fin HA ug
 let m:=fun k=>(X k).Gy (ae P F) S N main base Fin HA ug
 let D:=fun k=>fZ m lw.drawn k
 let start:=fun T:Nat->Question->Nat=>Go.lone lf (rB++[Base P]) {lw with tape:=T}
 have inv:∀k (T:Nat->Question->Nat),(∀j,j<k->∀i,i<m j->T (D j+i)=(X j).Gz (ae P F) N main base Fin HA ug i)->∃ν g gs v,k<=ν/\runN P ν (start T)=.next (Go.lone g (gs++[Base P]) v)/\WR P S (KS P S) N (X k).p v (X k).w/\
  FL P S JI (X k).p (g::gs) ((X k).f::(X k).top)/\iz P S (X k).p/\v.tape=T/\v.drawn=D k/\v.heap.size=(X k).L/\(¬(X k).ct (ae P F) N main base Fin HA ug)/\Le p (X k).p:=by
  intro k;induction k with
  |zero=>intro T _;exact⟨0,lf,rB,{lw with tape:=T},Nat.le_refl _,rfl,hw.tape T lw.drawn,hf,hg,rfl,rfl,rfl,qd,Le.refl p⟩
  |succ k ih=>
   intro T hT;obtain⟨ν,g,gs,v,e0,e1,e2,e3,e4,e5,e6,e7,e8,e9⟩:=ih T fun j hj i hi=>hT j (by omega) i hi;obtain⟨vR,rA⟩:=(X k).tZ (ae P F) N main base Fin HA ug e8;have xI:WR P S (KS P S) N (X k).p v (pk k):=e2.env vR;obtain⟨n,fr,w1,c1,c2⟩:=Ea T
   have mH:Ends P fr w1:=by
    rcases c2 with⟨rv,h,_⟩|⟨e,ch,h,_⟩
    .exact .inl ⟨rv,h⟩
    .exact .inr ⟨_,h⟩
   obtain⟨hle,qi⟩:=before c1 mH e1;by_cases lB:pv S (X k).f
   ·
    have tw:m k=0:=by show Nd.Gy _ _ _ _ _ _ _ _ (X k)=_;unfold Nd.Gy;rw[if_pos lB]
    have Eb:∃w3,(X k).Kw (ae P F) N main base Fin HA ug (pk k) w3:=by
     refine Classical.byContradiction fun kL=>rA (.inl ⟨pk k,#[],Frame.enter (ae P F) e #[] .normal,(X k).f::(X k).top,?_,Fair.refl (fun e h=>by simp at h),?_⟩)
     .exact hl.comp main (X k).f ((X k).top++base) (pk k) lB e3.head.kJ
     .rw[aT,aT];refine CT.mk fun w2 he=>.inr (.inr (.inr ⟨rfl,(X k).f,(X k).top,rfl,fun v' w3 eG bI hp=>?_⟩));obtain⟨rfl,yB,rfl,rfl⟩:=hp;exact Classical.byContradiction fun hx=>kL ⟨w3,he.trans yB,hx⟩
    obtain⟨SM,Om⟩:=(X k).A6 (ae P F) N main base Fin HA ug Eb;obtain⟨nn,p0,p1⟩:=hl.lone g (gs++[Base P]) v (pv.lone e3.head lB) e3.head.kind
    have FU:X (k+1)=⟨(X k).p,(X k).L,(X k).f.finish (.bool true),(X k).top,(X k).CK (ae P F) N main base Fin HA ug⟩:=by
     show(X k).SL (ae P F) S N main base Fin HA ug=_;unfold Nd.SL;rw[if_pos lB]
    rw[FU];refine⟨ν+nn,g.finish (.bool true),gs,v,by omega,by rw[runN_add,e1];exact p1,xI.env SM,e3.top (e3.head.finish (.bool true)) (dL _ _),e4,e5,?_,e7,Om,e9⟩;rw[e6];show D k=fZ m lw.drawn k+m k;rw[tw];rfl
   ·
    have tw:m k=(gw ((X k).step (ae P F) main base (pk k))).drawn-(pk k).drawn:=by show Nd.Gy _ _ _ _ _ _ _ _ (X k)=_;unfold Nd.Gy;rw[if_neg lB]
    have AG:kK (m k) v (pk k):=fun j hj q=>by
     have:=hT k (by omega) j hj;rw[e5,e6,this];rfl
    have hd:(gw (stepG (ae P F) main {frame:=(X k).f,callers:=(X k).top++base,status:=.running,dying:=none} (pk k))).drawn<=(pk k).drawn+m k:=by
     rw[tw];show(gw ((X k).step (ae P F) main base (pk k))).drawn<=(pk k).drawn+((gw ((X k).step (ae P F) main base (pk k))).drawn-(pk k).drawn)
     omega
    have Oo:=dC.step (b:=Base P) (bs:=[]) (aW:=base) hc xI e4 e3 (fun _ _ _ _ _ _ _ h=>h) lB true main hb AG hd;rcases Oo with⟨o,w3,es,hs⟩|⟨q,ch,Q5,w3,es,Cv,hs⟩|⟨c,nn,v1,w3,es,cB,hm,Sx,jL⟩
    .exact(vQ qi mH (step_lone_ended (o:=o) (w':=w3) (by rw[hs];rfl))).elim
    .exfalso;have cg:step P (Go.lone g (gs++[Base P]) v)=.next (Go.lone ((Base P).raise ch) [] w3):=step_lone_go (by rw[hs];rfl);obtain⟨_,hσ⟩:=vP qi cg (eZ P ch w3);rw[hσ]at cg;rcases c2 with⟨rv,h,_⟩|⟨e,CB,h,hF,hnv⟩
     .rw[step_leave_returned h]at cg;simp only[Stepped.next.injEq]at cg;have q1:=(eR cg).1;rw[dH]at q1;have:=congrArg (fun f:Frame=>f.mode) q1;simp[Base,Frame.raise]at this
     .exact hF
    .obtain⟨rE,t7,tf⟩:=cP.fair xI hm Sx;rcases jL with⟨f2,Kg,t2,Kh,MG,hs,tg⟩|⟨Oq,AH,hv,hs,tg⟩
     .have cg:step P (Go.lone g (gs++[Base P]) v)=.next (Go.lone f2 (t2++[Base P]) v1):=step_lone_go (by rw[hs];rfl);have j8:=ry P ν _ _ e1;rw[cg]at j8;have kM:(X k).step (ae P F) main base (pk k)=.go (il Kg (Kh++base)) w3 cB:=tg
      have FU:X (k+1)=⟨ext (X k).p (X k).L (pk k).heap.size c,(X k).L+c,Kg,Kh,w3⟩:=by
       show(X k).SL (ae P F) S N main base Fin HA ug=_;unfold Nd.SL;rw[if_neg lB];have Ki:(X k).step (ae P F) main base ((X k).pick (ae P F) N main base Fin HA ug)=.go (il Kg (Kh++base)) w3 cB:=tg;rw[Ki]
       have cM:w3.heap.size-((X k).pick (ae P F) N main base Fin HA ug).heap.size=c:=by
        have h6:w3.heap.size=(pk k).heap.size+c:=hm.lj;show w3.heap.size-(pk k).heap.size=c;rw[h6,Nat.add_sub_cancel_left]
       simp only[cM];congr 1;rw[List.length_append,Nat.add_sub_cancel];exact List.take_left
      rw[FU];have hrel:=hm.rel;rw[e7]at hrel MG t7 tf;have Ec:=fB (X k).p (X k).L (pk k).heap.size c;refine⟨ν+1,f2,t2,v1,by omega,j8,hrel,MG,e4.mono Ec,hm.tape.trans e5,?_,by rw[hm.size,e7],?_,e9.trans Ec⟩
      .rw[hm.drawn,e6]
       have:m k=nn:=by
        rw[tw,kM];have h5:w3.drawn=(pk k).drawn+nn:=hm.lp;show w3.drawn-(pk k).drawn=nn;rw[h5,Nat.add_sub_cancel_left]
       show D k+nn=fZ m lw.drawn k+m k;rw[this]
      .intro AI;refine rA (.inl ⟨w3,cB,Kg,Kh,kM,rE,?_⟩);unfold Nd.ct at AI;rw[t7,tf]at AI;exact AI
     .exfalso;have cg:step P (Go.lone g (gs++[Base P]) v)=.next (Go.lone ((Base P).finish Oq) [] v1):=step_lone_go (by rw[hs];rfl);obtain⟨_,hσ⟩:=vP qi cg (fY P Oq v1);rw[hσ]at cg;rcases c2 with⟨rv,h,hR⟩|⟨e,CB,h,hF,_⟩
      .rw[step_leave_returned h]at cg;simp only[Stepped.next.injEq]at cg;obtain⟨q1,_,q3⟩:=eR cg;rw[dH,dH]at q1
       have FV:rv=Oq:=by
        have:=congrArg (fun f:Frame=>f.tmps) q1;simpa using this
       subst FV;subst q3;have rF:Fin (aH (jK (X k).p) (pk k) w3) (aH (cz N (X k).p) (pk k) w3) AH w3:=⟨_,rv,w1,hR,hv,hm.rel,e9.trans (fB _ _ _ _),t7.symm,tf.symm⟩
       rcases tg with⟨b',vL,lC,tg⟩|⟨lC,tg⟩
       .exact rA (.inr (.inl ⟨w3,cB,AH,b',vL,lC,tg,rE,rF⟩))
       .exact rA (.inr (.inr (.inl ⟨w3,cB,AH,lC,tg,rE,rF⟩)))
      .exact hF
 obtain⟨T,hT⟩:=splice m (fun k j=>(X k).Gz (ae P F) N main base Fin HA ug j) lw.drawn;obtain⟨n,fr,w1,c1,c2⟩:=Ea T
 have mH:Ends P fr w1:=by
  rcases c2 with⟨rv,h,_⟩|⟨e,ch,h,_⟩
  .exact .inl ⟨rv,h⟩
  .exact .inr ⟨_,h⟩
 obtain⟨ν,g,gs,v,e0,e1,_⟩:=inv (n+1) T fun j _ i hi=>hT j i hi;obtain⟨hle,_⟩:=before c1 mH e1;omega
end
end Go.aO
namespace Go.aO
open Go.Conc
open Go.ConcN (upd upd_same upd_ne sumTo sumTo_upd sumTo_congr le_sumTo sumTo_le)
variable {b:Frame} {bs:List Frame} {m m':Machine} {t:Trace}
def nZ (P:Program) (b:Frame) (bs:List Frame) (Fin:nS) (m:Machine) (t:Trace):Prop:=
 ∃N v w3 eG bI eQ fX t' q',runNT P N m t=(.next (crowd eQ w3 fX),t')/\Fin eG bI v w3/\eQ[0]?=some (il (b.finish v) bs)/\cY P eQ q'/\Co (fun g=>g=0) (fun _=>eG) (fun _=>bI) w3.heap.size t'
theorem nZ.step {P:Program} {Fin:nS} {ops:Array MemOp} (h:stepT P m=(.next m',ops)) (k:nZ P b bs Fin m' (t++ops)):nZ P b bs Fin m t:=by
 obtain⟨N,v,w3,eG,bI,eQ,fX,t',q',h1,h2⟩:=k;exact⟨N+1,v,w3,eG,bI,eQ,fX,t',q',by simp only[runNT,h];exact h1,h2⟩
theorem nZ.steps {P:Program} {Fin:nS} {t':Trace} {N:Nat} (h:runNT P N m t=(.next m',t')) (k:nZ P b bs Fin m' t'):nZ P b bs Fin m t:=by
 obtain⟨M,v,w3,eG,bI,eQ,fX,t',q',h1,h2⟩:=k;exact⟨N+M,v,w3,eG,bI,eQ,fX,t',q',by rw[runNT_add,h];exact h1,h2⟩
section
variable {P:Program} {Fin:nS} {HA:kW} {HP:dM} {b0:Frame} {A7:List Frame}
theorem A8 (AV:vW P HA HP) (Gt:∀kn own f w d,HA kn own f (World.at w d)->HA kn own f w) (SI:∀kn own f w d v w3 eG bI,HP kn own f w v w3 eG bI->HP kn own f (World.at w d) v w3 eG bI)
 {kn own:Nat->Prop} {f:Frame} {top:List Frame} {w:World} (h:CT P true (b0::A7) Fin HA HP kn own f top w):
 ∀gs w1 sl t q,Env kn w w1->gs[0]?=some (il f (top++b0::A7))->cY P gs q->Co (fun g=>g=0) (fun _=>kn) (fun _=>own) w1.heap.size t->nZ P b0 A7 Fin (crowd gs w1 sl) t:=by
 refine CT.ind (I:=fun kn own f top w=>∀gs w1 sl t q,Env kn w w1->gs[0]?=some (il f (top++b0::A7))->cY P gs q->Co (fun g=>g=0) (fun _=>kn) (fun _=>own) w1.heap.size t->nZ P b0 A7 Fin (crowd gs w1 sl) t) ?_ h;intro kn own f top w jN
 have key:∀n gs w1 sl t q,sumTo gs.size q=n->Env kn w w1->gs[0]?=some (il f (top++b0::A7))->cY P gs q->Co (fun g=>g=0) (fun _=>kn) (fun _=>own) w1.heap.size t->nZ P b0 A7 Fin (crowd gs w1 sl) t:=by
  intro n;induction n using Nat.strongRecOn with
  |ind n ih=>
   intro gs w1 sl t q hn he h0 hq lE
   have pay:HA kn own f w1->∀c rest,top=c::rest->(∀v w3 eG bI,HP kn own f w1 v w3 eG bI->(∀gs w1 sl t q,Env eG w3 w1->gs[0]?=some (il (c.finish v) (rest++b0::A7))->cY P gs q->Co (fun g=>g=0) (fun _=>eG) (fun _=>bI) w1.heap.size t->nZ P b0 A7 Fin (crowd gs w1 sl) t))->nZ P b0 A7 Fin (crowd gs w1 sl) t:=by
    intro hA c rest qH hc;subst qH;obtain⟨N,v,w3,eG,bI,eQ,fX,t',q',p1,p2,p3,p4,p5⟩:=AV kn own f c (rest++b0::A7) w1 gs sl t q h0 hq lE hA;exact(hc v w3 eG bI p2 eQ w3 fX t' q' (Env.refl _ _) p3 p4 p5).steps p1
   have aw:∀g∈gs,Conc.awake g:=by
    intro g hg;obtain⟨j,hj,rfl⟩:=Array.mem_iff_getElem.1 hg;have xJ:=Array.getElem?_eq_getElem hj;rcases Nat.eq_zero_or_pos j with rfl|fR
    .rw[h0]at xJ;rw[<-Option.some.inj xJ];exact awake_of (.inl rfl)
    .exact awake_of ((hq j _ fR xJ).status.imp id .inr)
   obtain⟨i,g,d,fX,hi,hg,cq⟩:=crowd_pick (P:=P) (w:=w1) (sl:=sl) aw ⟨0,_,h0,rfl⟩;rcases Nat.eq_zero_or_pos i with rfl|fR
   .obtain rfl:g=il f (top++b0::A7):=by rw[h0]at hi;exact(Option.some.inj hi).symm
    have cM:0<gs.size:=(Array.getElem?_eq_some_iff.1 h0).1;rcases jN (w1.at d) (he.trans (iC _ _ _))with⟨w3,es,f2,nU,h1,h2,h3⟩|⟨w3,es,v,b,bs,Ek,h1,h2,h3⟩|⟨w3,es,v,Ek,h1,h2,h3⟩|⟨h1,c,rest,qH,h2⟩
    .have bi:=runT_crowd_go (P:=P) (sl:=fX) (i:=0) h0 (show stepG P (0==0) (il f (top++b0::A7)) (w1.at d)=_ from h1);rw[hq.woken h0 rfl]at bi;refine nZ.step (cq.trans bi) (h3.1 _ w3 fX _ q (Env.refl _ _) (aX _ cM) (fun j x hj hx=>?_) ?_)
     .rw[aI _ (by omega)]at hx;exact hq j x hj hx
     .exact(lE.step (w:=w1.at d) (g:=0) rfl rfl h2 _ _).lone (upd_same ..) (upd_same ..)
    .obtain⟨rfl,rfl⟩:b0=b/\A7=bs:=by simpa using Ek
     have bi:=runT_crowd_go (P:=P) (sl:=fX) (i:=0) h0 (show stepG P (0==0) (il f (top++b0::A7)) (w1.at d)=_ from h1);rw[hq.woken h0 rfl]at bi;refine nZ.step (cq.trans bi) ⟨0,v,w3,_,_,_,fX,_,q,rfl,h3,aX _ cM,fun j x hj hx=>?_,(lE.step (w:=w1.at d) (g:=0) rfl rfl h2 _ _).lone (upd_same ..) (upd_same ..)⟩;rw[aI _ (by omega)]at hx;exact hq j x hj hx
    .cases Ek
    .exact pay (Gt _ _ _ _ _ h1) c rest qH fun v w3 eG bI hp=>(h2 v w3 eG bI (SI _ _ _ _ _ _ _ _ _ hp)).1
   .have xM:=hq i g fR hi;have AO:(i==0)=false:=by simp;omega
    have aA:i<gs.size:=(Array.getElem?_eq_some_iff.1 hi).1;cases hk:q i with
    |zero=>rw[hk]at xM;rw[show g.status=.finished from xM]at hg;cases hg
    |succ k=>
     rw[hk]at xM;rcases xM with hf|⟨_,g',hs,qc⟩
     .rw[hf]at hg;cases hg
     have bi:=runT_crowd_go (P:=P) (sl:=fX) hi (by rw[AO];exact hs (w1.at d));rw[hq.woken h0 rfl]at bi;have e0:t++MemOp.ofEvents i g.frame.fn g.frame.place #[]=t:=by simp[MemOp.ofEvents]
     refine nZ.step (cq.trans bi) ?_;rw[e0];refine ih (sumTo gs.size (upd q i k)) ?_ _ (w1.at d) fX t (upd q i k) (by simp) (he.trans (iC _ _ _)) ?_ (fun j x hj hx=>?_) lE
     .rw[<-hn];refine kj aA ?_ fun j hj=>upd_ne _ _ hj;rw[upd_same,hk];omega
     .rw[aI _ (by omega)];exact h0
     .by_cases e:j=i
      .subst e;rw[aX _ aA]at hx;rw[upd_same,<-Option.some.inj hx];exact qc
      .rw[aI _ e]at hx;rw[upd_ne _ _ e];exact hq j x hj hx
 intro gs w1 sl t q he h0 hq lE;exact key _ gs w1 sl t q rfl he h0 hq lE
end
end Go.aO
namespace Go.aO
theorem CT.SN {P:Program} {main:Bool} {base:List Frame} {Fin:nS} {e:FuncId} (X:Nat->Prop) {kn own:Nat->Prop} {f:Frame} {top:List Frame} {w:World}
 (h:CT P main base Fin (Q9 P e) ug kn own f top w) (hX:∀r,X r->r<w.heap.size) (hd:∀r,own r->¬X r):
 CT P main base (fun _ own v w'=>(∃JJ,Fin JJ own v w')/\Env X w w') (fun kn own f w1=>Q9 P e kn own f w1/\(∀r,X r->kn r)/\Env X w w1) ug (fun r=>kn r\/X r) own f top w:=by
 have key:=CT.ind (I:=fun kn own f top w1=>(∀r,own r->¬X r)->Env X w w1->CT P main base (fun _ own v w'=>(∃JJ,Fin JJ own v w')/\Env X w w') (fun kn own f w1=>Q9 P e kn own f w1/\(∀r,X r->kn r)/\Env X w w1) ug (fun r=>kn r\/X r) own f top w1) ?_ h
 .exact key hd (Env.refl _ _)
 intro kn own f top w1 hb D6 Ei
 have keep:∀{w2 w3:World} {es:Array Event},Env (fun r=>kn r\/X r) w1 w2->Fair kn own w2 w3 es->Env X w w3/\∀r,aH own w2 w3 r->¬X r:=fun{w2 w3 es} he hf=>by
  have xY:Env X w w2:=Ei.trans (he.mono fun r h=>.inr h);have aA:∀r,X r->r<w2.heap.size:=fun r hr=>Nat.lt_of_lt_of_le (hX r hr) xY.1;refine⟨xY.trans ⟨hf.size,fun r hr=>hf.others r (aA r hr) fun ho=>D6 r ho hr,hf.os,hf.out⟩,fun r hr hx=>?_⟩;rcases hr with hr|hr
  .exact D6 r hr hx
  .have:=aA r hx;have:=hr.1;omega
 refine CT.mk fun w2 he=>?_;rcases hb w2 (he.mono fun r h=>.inl h)with⟨w3,es,f2,nU,h1,h2,h3⟩|⟨w3,es,v,b',vL,h0,h1,h2,h3⟩|⟨w3,es,v,h0,h1,h2,h3⟩|⟨h1,c,rest,h2,h3⟩
 .refine .inl ⟨w3,es,f2,nU,h1,h2.mono (fun r h=>.inl h) (fun r h=>h),?_⟩;rw[jO];obtain⟨k1,k2⟩:=keep he h2;exact h3.1 k2 k1
 .exact .inr (.inl ⟨w3,es,v,b',vL,h0,h1,h2.mono (fun r h=>.inl h) (fun r h=>h),⟨_,h3⟩,(keep he h2).1⟩)
 .exact .inr (.inr (.inl ⟨w3,es,v,h0,h1,h2.mono (fun r h=>.inl h) (fun r h=>h),⟨_,h3⟩,(keep he h2).1⟩))
 .have xY:Env X w w2:=Ei.trans (he.mono fun r h=>.inr h);refine .inr (.inr (.inr ⟨⟨h1,fun r hr=>.inr hr,xY⟩,c,rest,h2,fun v w3 eG bI hp=>?_⟩));obtain⟨rfl,q2,rfl,rfl⟩:=hp;exact(h3 (.bool true) w3 kn bI ⟨rfl,q2.mono fun r h=>.inl h,rfl,rfl⟩).1 D6 (xY.trans (q2.mono fun r h=>.inr h))
def rowsOf (w:World):Pi:=fun r r'=>r=r'/\∃c e fz,w.heap[r]?=some (.cells c e fz)
open Classical in
theorem Kx {S:Nat->Bool} (hJ:S JK=true) (p:Pi):∀(n:Nat) (v':Value),SizeOf.sizeOf v'<n->∃v,VR S p v v'/\(VR S p v' v'->v=v'):=by
 intro n;induction n with
 |zero=>intro v' h;omega
 |succ n ih=>
  intro v' hn;by_cases hs:VR S p v' v'
  .exact⟨v',hs,fun _=>rfl⟩
  have aV:∀xs:Array Value,SizeOf.sizeOf xs<n->∃ys:Array Value,AR S p ys xs:=by
   intro xs hx
   have hm:∀x∈xs,∃v,VR S p v x:=fun x tA=>by
    have:=Array.sizeOf_lt_of_mem tA;obtain⟨v,h,_⟩:=ih x (by omega);exact⟨v,h⟩
   let g:Value->Value:=fun x=>if h:∃v,VR S p v x then h.choose else x
   refine⟨xs.map g,by simp,fun i a b ha hb=>?_⟩;rw[Array.getElem?_map,hb]at ha;simp only[Option.map_some,Option.some.injEq]at ha;subst ha;have h:=hm b (Array.mem_of_getElem? hb);show VR S p (if h:∃v,VR S p v b then h.choose else b) b;rw[dif_pos h];exact h.choose_spec
  cases hj:MA v' with
  |true=>exact⟨.tuple #[],.pl hJ hj,fun h=>absurd h hs⟩
  |false=>
   cases v' with
   |bool b=>exact absurd (.bool b) hs
   |int k n=>exact absurd (.int k n) hs
   |string s=>exact absurd (.string s) hs
   |chan c=>exact absurd (.chan c) hs
   |nilFunc=>exact absurd .nilFunc hs
   |nilIface=>exact absurd .nilIface hs
   |pointer a=>cases a with
    |none=>exact absurd .li hs
    |some a=>cases hj
   |slice a l c=>cases a with
    |none=>exact absurd (.bU l c) hs
    |some a=>cases hj
   |map a=>cases a with
    |none=>exact absurd .kS hs
    |some a=>cases hj
   |func f xs ys=>cases f with
    |method n=>exact⟨MF,.Ar hJ n xs ys,fun h=>absurd h hs⟩
    |_=>cases hj
   |agg xs=>
    obtain⟨ys,hy⟩:=aV xs (by simp only[Value.agg.sizeOf_spec]at hn;omega);exact⟨_,hy.agg,fun h=>absurd h hs⟩
   |tuple xs=>
    obtain⟨ys,hy⟩:=aV xs (by simp only[Value.tuple.sizeOf_spec]at hn;omega);exact⟨_,hy.tuple,fun h=>absurd h hs⟩
   |_=>cases hj
open Classical in
noncomputable def dz (S:Nat->Bool) (p:Pi) (v':Value):Value:=if h:∃v,VR S p v v'/\(VR S p v' v'->v=v')then h.choose else v'
theorem CM {S:Nat->Bool} (hJ:S JK=true) (p:Pi) (v':Value):VR S p (dz S p v') v'/\(VR S p v' v'->dz S p v'=v'):=by
 have h:=Kx hJ p (SizeOf.sizeOf v'+1) v' (by omega);unfold dz;rw[dif_pos h];exact h.choose_spec
noncomputable def YD (S:Nat->Bool) (p:Pi):Obj->Obj
 |.cells c e _=>.cells (c.map (dz S p)) e (0,c.size)
 |o=>o
noncomputable def jd (S:Nat->Bool) (w:World):World:={w with heap:=w.heap.map (YD S (rowsOf w))}
section
variable {P:Program} {S:Nat->Bool} {w:World}
theorem yC:(jd S w).heap.size=w.heap.size:=by show(w.heap.map _).size=_;simp
theorem vZ {r:Nat} {c:Array Value} {e:TypeId} {fz:Nat×Nat} (h:w.heap[r]?=some (.cells c e fz)):(jd S w).heap[r]?=some (.cells (c.map (dz S (rowsOf w))) e (0,c.size)):=by
 show(w.heap.map _)[r]?=_;rw[Array.getElem?_map,h];rfl
theorem OJ (hJ:S JK=true) (hg:P.globals.size<=w.heap.size):WR P S (KS P S) w.heap.size (rowsOf w) (jd S w) w:=by
 refine⟨fun r r' s s' x y=>by rw[<-x.1,<-y.1],fun r r' x=>?_,by rw[yC];exact Nat.le_refl _,fun r r' x=>by rw[x.1],by rw[yC];exact hg,hg⟩;obtain⟨rfl,c,e,fz,h⟩:=x;refine⟨_,_,vZ h,h,.inl ⟨(Array.getElem?_eq_some_iff.1 h).1,c.map (dz S (rowsOf w)),c,e,fz,by simp,rfl,by simp,fun i a b ha hb=>?_⟩⟩;rw[Array.getElem?_map,hb]at ha;simp only[Option.map_some,Option.some.injEq]at ha;subst ha;exact(CM hJ _ b).1
theorem lG (hJ:S JK=true) {a:Addr} {v:Value} (h:w.cell? a=some v) (hv:VR S (rowsOf w) v v):(jd S w).cell? a=some v:=by
 unfold World.cell? at h⊢;split at h
 .rename_i c e fz hx;rw[vZ hx];simp only;split at h
  .cases h
  .rename_i mD;rw[if_neg mD,Array.getElem?_map,h];simp only[Option.map_some,Option.some.injEq];exact(CM hJ _ v).2 hv
 .cases h
end
end Go.aO
