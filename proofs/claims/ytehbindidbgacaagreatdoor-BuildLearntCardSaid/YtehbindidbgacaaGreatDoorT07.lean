/- A part. Conditions: none. -/
import Derived.Test.YtehbindidbgacaaGreatDoorT06
import Derived.ChangeMade
set_option linter.all false
namespace Go.aC
open Go.Made
variable {P:Program} {i:TypeInfo} {info:TypeId->Option TypeInfo} {v:Value}
def flat (v:Value):Prop:=∀x∈v.cells,plain 5 x=true
theorem Cq:∀(n:Nat) (v:Value),plain n v=true->plain (n+1) v=true:=by
 intro n;induction n with
 |zero=>
  intro v h;cases v;case pointer a=>cases a<;>first|rfl|(simp[aC.plain]at h;done)
  case slice a l c=>cases a<;>first|rfl|(simp[aC.plain]at h;done)
  case map a=>cases a<;>first|rfl|(simp[aC.plain]at h;done)
  case chan a=>cases a<;>first|rfl|(simp[aC.plain]at h;done)
  all_goals first|rfl|(simp[aC.plain]at h;done)
 |succ n ih=>
  intro v h;cases v;case pointer a=>cases a<;>first|rfl|(simp[aC.plain]at h;done)
  case slice a l c=>cases a<;>first|rfl|(simp[aC.plain]at h;done)
  case map a=>cases a<;>first|rfl|(simp[aC.plain]at h;done)
  case chan a=>cases a<;>first|rfl|(simp[aC.plain]at h;done)
  case iface t v=>exact ih v h
  case agg xs=>
   have h:xs.all (aC.plain n)=true:=h;show xs.all (aC.plain (n+1))=true;exact zBO.2 λi hi=>ih _ (zBO.1 h i hi)
  case tuple xs=>
   have h:xs.all (aC.plain n)=true:=h;show xs.all (aC.plain (n+1))=true;exact zBO.2 λi hi=>ih _ (zBO.1 h i hi)
  all_goals first|rfl|(simp[aC.plain]at h;done)
theorem sD {n m:Nat} (LP:n<=m) (h:plain n v=true):plain m v=true:=by
 induction LP with
 |refl=>exact h
 |step _ ih=>exact Cq _ _ ih
theorem flat.plain (h:flat v):plain 50 v=true:=by
 unfold flat at h;cases v with
 |agg xs=>
  show xs.all (aC.plain 49)=true;exact zBO.2 λi hi=>sD (by omega) (h _ (zED hi))
 |_=>exact sD (by omega) (h _ (by simp[Value.cells]))
theorem FY {α β:Type} (f:α->β->Option (ForInStep β)) (I:β->Prop) (hf:∀a b r,I b->f a b=some r->I (match r with|.yield b=>b|.done b=>b)):∀(l:List α) (b r:β),I b->forIn l b f=some r->I r:=by
 intro l;induction l with
 |nil=>intro b r hb h;simp only[List.forIn_nil,pure,zAA]at h;exact h▸hb
 |cons a l ih=>
  intro b r hb h;simp only[List.forIn_cons,bind,zBI]at h;obtain⟨s,hs,h⟩:=h;have:=hf a b s hb hs;cases s with
  |done b'=>simp only[pure,zAA]at h;exact h▸this
  |yield b'=>exact ih b' r this h
def IS (info:TypeId->Option TypeInfo):Prop:=∀t i v,info t=some i->i.zero=some v->flat v
theorem ow (hi:IS info) {fs:Array Field} (h:reckonStruct info fs=some i) (hv:i.zero=some v):flat v:=by
 unfold reckonStruct at h;simp only[bind,zBI,pure]at h;obtain⟨a,ha,h⟩:=h;rw[<-zDX]at ha;have key:=FY _ (λs:Array Field×Nat×Nat×Nat×Nat×Bool×Bool×Option (Array Value)×String=>∀z,s.2.2.2.2.2.2.2.1=some z->∀x∈z,aC.plain 5 x=true) ?_ _ _ _ ?_ ha
 .split at h
  all_goals
   simp only[zAA]at h;subst h;simp only[zCP]at hv;obtain⟨z,hz,rfl⟩:=hv;exact key z hz
 .intro f b r hb hr;simp only[zBI]at hr;obtain⟨j,hj,hr⟩:=hr
  have fin:∀z,(b.2.2.2.2.2.2.2.1.bind λz0=>j.zero.bind λz1=>some (z0++z1.cells))=some z->∀x∈z,aC.plain 5 x=true:=by
   intro z hz;simp only[zBI,zAA]at hz;obtain⟨z0,h0,z1,h1,rfl⟩:=hz;intro x hx;rcases zEH.1 hx with hx|hx
   .exact hb z0 h0 x hx
   .exact hi _ _ _ hj h1 x hx
  repeat' split at hr
  all_goals(try(simp only[Option.bind_none,reduceCtorEq]at hr;done))
  all_goals(try simp only[zBI]at hr)
  all_goals(obtain⟨_,_,hr⟩:=hr;simp only[zAA]at hr;subst hr;intro z hz;first|(cases hz;done)|exact fin z hz)
 .intro z hz;simp only[zAA]at hz;subst hz;simp
theorem zz (hi:IS info) {d:TypeDesc} (h:reckon info d=some i) (hv:i.zero=some v):flat v:=by
 have one:∀u:Value,aC.plain 0 u=true->flat u:=λu hu x hx=>by
  cases u<;>first|(simp only[Value.cells,zFW,zDO]at hx;subst hx;exact sD (zAR _) hu)|(cases hu;done)
 cases d with
 |struct fs=>exact ow hi h hv
 |array n e=>
  simp only[reckon,bind,zBI,pure,zAA]at h;obtain⟨j,hj,s,_,rfl⟩:=h;simp only at hv;split at hv
  .cases hv
  .split at hv
   .simp only[zAA]at hv;subst hv;intro x hx;simp[Value.cells]at hx
   .simp only[zCP]at hv;obtain⟨z,hz,rfl⟩:=hv;intro x hx;simp only[Value.cells,Array.mem_flatten,Array.mem_replicate]at hx;obtain⟨y,⟨_,rfl⟩,hx⟩:=hx;exact hi _ _ _ hj hz x hx
 |pointer e=>
  simp only[reckon,bind,zBI,pure]at h;obtain⟨j,hj,h⟩:=h;repeat' split at h
  all_goals(try(cases h;done))
  all_goals(simp only[zBI,zAA]at h;obtain⟨_,_,rfl⟩:=h;simp only[word,zAA]at hv;subst hv;exact one _ rfl)
 |_=>
  first
  |(simp only[reckon,reduceCtorEq]at h;done)
  |(simp only[reckon,bind,zBI,pure,zAA]at h;obtain⟨_,_,_,_,rfl⟩:=h;simp only[word,zAA]at hv;subst hv;exact one _ rfl)
  |(simp only[reckon,bind,zBI,pure,zAA]at h;obtain⟨_,_,_,_,_,_,_,_,rfl⟩:=h;simp only[word,zAA]at hv;subst hv;exact one _ rfl)
  |(simp only[reckon,bind,zBI,pure,zAA]at h;obtain⟨_,_,rfl⟩:=h;simp only[word,zAA]at hv;subst hv;exact one _ rfl)
def vi (T:Tables):Bool:=T.types.all λi=>match i.zero with|some v=>v.cells.all (aC.plain 5)|none=>true
theorem zA {T:Tables} (h:vi T=true):∀f,IS (infoAt T f):=by
 have low:∀(t:Nat) (i:TypeInfo) (v:Value),T.types[t]?=some i->i.zero=some v->flat v:=by
  intro t i v ht hv;obtain⟨az,he⟩:=zAD.1 ht;have:=zBO.1 h t az;rw[he]at this;simp only[hv]at this;intro x hx;obtain⟨k,hk,rfl⟩:=zCH.1 hx;exact zBO.1 this k hk
 intro f;induction f with
 |zero=>intro t i v ht;cases ht
 |succ f ih=>
  intro t i v ht hv;unfold infoAt at ht;split at ht
  .exact low t i v ht hv
  .simp only[zBI]at ht;obtain⟨d,_,ht⟩:=ht;exact zz ih ht hv
theorem IT (h:vi P.toTables=true):be P:=by
 intro t i v ht hv;have ht:Tables.info? P.toTables t=some i:=ht
 have:infoAt P.toTables depth t=some i:=by
  unfold Tables.info? at ht;split at ht
  .unfold depth infoAt;rw[zAI (by assumption)];exact ht
  .exact ht
 exact(zA h depth t i v this hv).plain
def Cr (T:Tables):Bool:=T.types.all fun i=>match i.desc with|.named n _=>!(n== "sync.copyChecker")|_=>true
theorem Cs (h:Cr P.toTables=true):aK P:=by
 intro t i u ht hd;have ht:Tables.info? P.toTables t=some i:=ht;by_cases az:t<P.types.size
 .unfold Tables.info? at ht;rw[zAI az]at ht;obtain⟨az,he⟩:=zAD.1 ht;have:=zBO.1 h t az;rw[he,hd]at this;simp at this
 .have:=Tables.info?_beyond az ht;rw[hd]at this;cases this
end Go.aC
namespace Go.aC
open Go.Conc
variable {P:Program} {d r t:Nat} {e:TypeId} {fz:Nat×Nat} {i:TypeInfo} {o:Oper} {ops:Array Oper} {u:Value} {w:World}
def Ie (m:Region.Mode) (ops:Array Oper) (listed:Array Bool):List Nat:=
 (List.range ops.size).filter λi=>!listed.getD i true&&((ops[i]?).map (·.after.all λe=>!Region.binds m e||listed.getD e.on false)).getD false
inductive Pw (m:Region.Mode) (ops:Array Oper):Nat->Array Bool->List Nat->Prop
 |stop {n:Nat} {listed:Array Bool} (h:n=0\/Ie m ops listed=[]):Pw m ops n listed []
 |next {n i:Nat} {listed:Array Bool} {l:List Nat} (h:i∈Ie m ops listed) (t:Pw m ops n (listed.setIfInBounds i true) l):Pw m ops (n+1) listed (i::l)
theorem Rr (m:Region.Mode) (ops:Array Oper):∀(n t:Nat) (listed:Array Bool) (acc:List Nat),∃l,Region.linearise.go m ops n t listed acc=acc.reverse++l/\Pw m ops n listed l:=by
 intro n;induction n with
 |zero=>intro t listed acc;exact⟨[],by simp[Region.linearise.go],.stop (.inl rfl)⟩
 |succ n ih=>
  intro t listed acc;unfold Region.linearise.go;have e:((List.range ops.size).filter λi=>!listed.getD i true&&((ops[i]?).map (·.after.all λe=>!Region.binds m e||listed.getD e.on false)).getD false)=Ie m ops listed:=rfl;simp only[e];cases hi:(Ie m ops listed)[t%(Ie m ops listed).length]? with
  |none=>
   refine⟨[],by simp,.stop (.inr ?_)⟩;cases hr:Ie m ops listed with
   |nil=>rfl
   |cons a l=>
    rw[hr]at hi;have:t%(a::l).length<(a::l).length:=zFO _ (by simp);rw[zAJ this]at hi;cases hi
  |some i=>
   obtain⟨l,h1,h2⟩:=ih (t/(Ie m ops listed).length) (listed.setIfInBounds i true) (i::acc);exact⟨i::l,by simp only[];rw[h1];simp,.next (zAX hi) h2⟩
theorem Ct (m:Region.Mode) (ops:Array Oper) (t:Nat):Pw m ops ops.size (Array.replicate ops.size false) (Region.linearise m ops t):=by
 obtain⟨l,h1,h2⟩:=Rr m ops ops.size t (Array.replicate ops.size false) [];unfold Region.linearise;rw[h1];exact h2
def kj (m:Region.Mode) (ops:Array Oper):Nat->Array Bool->List (List Nat)
 |0,_=>[[]]
 |n+1,listed=>if(Ie m ops listed).isEmpty then [[]]else(Ie m ops listed).flatMap λi=>(kj m ops n (listed.setIfInBounds i true)).map (i::·)
theorem qs {m:Region.Mode} {n:Nat} {listed:Array Bool} {l:List Nat} (h:Pw m ops n listed l):l∈kj m ops n listed:=by
 induction h with
 | @stop n listed h=>
   cases n with
   |zero=>simp[kj]
   |succ n=>
    rcases h with h|h
    .omega
    .simp[kj,h]
 | @next n i listed l h _ ih=>
   simp only[kj];split
   .rename_i he;rw[List.isEmpty_iff]at he;rw[he]at h;cases h
   .simp only[zEY,zCL];exact⟨_,h,_,ih,rfl⟩
structure En (P:Program) (o:Oper) (d:Nat) (v:Nat->Value) (x:Obj):Prop where
 dst:o.dst=some d
 guard:o.guard=none
 run:∀(a:Act) (w:World),(execOp a.eval o).run P w=.ok (.value (v w.heap.size)) (w.alloc x)
 ev:∀(a:Act) (w:World),(execOp a.eval o).events P w #[]=#[]
structure Made (ops:Array Oper) (d:Nat->Nat) (v:Nat->Nat->Value) (x:Nat->Obj) (is:List Nat) (kn own:Nat->Prop) (tm:Array Value) (w:World) (pos:Nat->Nat) (ic eL:Nat->Prop) (bF:Array Value) (w':World):Prop where
 size:bF.size=tm.size
 slot:∀i∈is,d i<tm.size->bF.getD (d i) undef=v i (pos i)
 others:∀j,(∀i∈is,d i≠j)->bF.getD j undef=tm.getD j undef
 new:∀i∈is,w.heap.size<=pos i/\pos i<w'.heap.size
 inj:∀i∈is,∀j∈is,pos i=pos j->i=j
 heap:∀i∈is,w'.heap[pos i]?=some (x i)
 env:Env kn w w'
 Zu:∀r,ic r↔kn r\/∃i∈is,r=pos i
 MN:∀r,eL r↔own r\/∃i∈is,r=pos i
theorem ah (a:Array Value) (i:Nat) (v u:Value) (h:i<a.size):(a.setIfInBounds i v).getD i u=v:=by
 rw[zBD,aP _ h];rfl
theorem getD_set_ne (a:Array Value) {i j:Nat} (v u:Value) (h:j≠i):(a.setIfInBounds i v).getD j u=a.getD j u:=by
 rw[zBD,zBD,aH _ h]
theorem Tree.makes {main:Bool} {K:np} (T:Tree P main K) {b:Frame} {k:List Item} {cs:List Frame} {rest:List Nat} (hk:b.kind≠ .early) {d:Nat->Nat} {v:Nat->Nat->Value} {x:Nat->Obj}:
 ∀(is:List Nat),is.Nodup->(∀i∈is,∃o,ops[i]?=some o/\En P o (d i) (v i) (x i))->(∀i∈is,∀j∈is,d i=d j->i=j)->∀(kn own:Nat->Prop) (tm:Array Value) (ds:List Deferred) (w:World),(∀r,kn r->r<w.heap.size)->
  (∀pos ic eL bF w',Made ops d v x is kn own tm w pos ic eL bF w'->K ic eL (G (b.at ⟨bF,ds⟩ (.inRegion ops rest::k)) cs) w')->
  K kn own (G (b.at ⟨tm,ds⟩ (.inRegion ops (is++rest)::k)) cs) w:=by
 intro is;induction is with
 |nil=>
  intro _ _ _ kn own tm ds w _ h;exact h (λ_=>0) kn own tm w ⟨rfl,λi hi=>by simp at hi,λ_ _=>rfl,λi hi=>by simp at hi,λi hi=>by simp at hi,λi hi=>by simp at hi,Env.refl _ _,λr=>by simp,λr=>by simp⟩
 |cons i is ih=>
  intro FJ bT Zv kn own tm ds w az h;obtain⟨o,ho,hm⟩:=bT i (by simp);rw[List.nodup_cons]at FJ;refine T.op (i:=i) (rest:=is++rest) ho (by unfold Region.wanted;rw[hm.guard]) hk λw2 he=>⟨_,_,hm.run _ w2,by rw[hm.ev];exact Fair.alloc _,?_⟩
  rw[ji,ji];have hs:(w2.alloc (x i)).heap.size=w2.heap.size+1:=by show(w2.heap.push (x i)).size=_;simp
  have VC:(w2.alloc (x i)).heap[w2.heap.size]?=some (x i):=by show(w2.heap.push (x i))[w2.heap.size]?=_;simp
  have hold:∀r,r<w2.heap.size->(w2.alloc (x i)).heap[r]?=w2.heap[r]?:=λr hr=>by
   show(w2.heap.push (x i))[r]?=_;simp[zBQ,zES hr]
  have MO:Act.put ⟨tm,ds⟩ o.dst (v i w2.heap.size)=⟨tm.setIfInBounds (d i) (v i w2.heap.size),ds⟩:=by rw[hm.dst];rfl
  rw[MO];refine ih FJ.2 (λj hj=>bT j (by simp[hj])) (λa ha c hc=>Zv a (by simp[ha]) c (by simp[hc])) _ _ _ ds _ (λr hr=>?_) λpos ic eL bF w' hM=>?_
  .rw[hs];rcases hr with hr|hr
   .have:=zAV (az r hr) he.1;omega
   .omega
  .have hpi:∀j∈is,w2.heap.size+1<=pos j:=λj hj=>by have:=(hM.new j hj).1;omega
   have bE:∀j∈is,j≠i:=λj hj e=>FJ.1 (e▸hj);refine h (λj=>if j=i then w2.heap.size else pos j) ic eL bF w' ⟨?_,?_,?_,?_,?_,?_,?_,?_,?_⟩
   .rw[hM.size];simp
   .intro j hj hd;rcases zAS.1 hj with rfl|hj
    .rw[zAI rfl,hM.others (d j) (λc hc e=>bE c hc (Zv c (by simp[hc]) j (by simp) e)),ah _ _ _ _ hd]
    .rw[zAH (bE j hj)];exact hM.slot j hj (by simpa using hd)
   .intro j hj;rw[hM.others j (λc hc=>hj c (by simp[hc])),getD_set_ne _ _ _ (Ne.symm (hj i (by simp)))]
   .intro j hj;have zfa:=hM.env.1;rcases zAS.1 hj with rfl|hj
    .rw[zAI rfl];have:=he.1;omega
    .rw[zAH (bE j hj)];have:=hM.new j hj;have:=he.1;omega
   .intro a ha c hc e;rcases zAS.1 ha with ea|ha<;>rcases zAS.1 hc with ec|hc
    .rw[ea,ec]
    .rw[ea,zAI rfl,zAH (bE c hc)]at e;have:=hpi c hc;omega
    .rw[ec,zAI rfl,zAH (bE a ha)]at e;have:=hpi a ha;omega
    .rw[zAH (bE a ha),zAH (bE c hc)]at e;exact hM.inj a ha c hc e
   .intro j hj;rcases zAS.1 hj with rfl|hj
    .rw[zAI rfl,hM.env.2 _ (.inr rfl),VC]
    .rw[zAH (bE j hj)];exact hM.heap j hj
   .refine⟨zAP he.1 (by have:=hM.env.1;omega),λr hr=>?_,hM.env.os.trans he.os,hM.env.out.trans he.out⟩;rw[hM.env.2 r (.inl hr),hold r (zAV (az r hr) he.1),he.2 r hr]
   .intro r;rw[hM.Zu r];constructor
    .rintro((h|h)|⟨j,hj,h⟩)
     .exact .inl h
     .exact .inr ⟨i,by simp,by rw[zAI rfl];exact h⟩
     .exact .inr ⟨j,by simp[hj],by rw[zAH (bE j hj)];exact h⟩
    .rintro(h|⟨j,hj,h⟩)
     .exact .inl (.inl h)
     .rcases zAS.1 hj with rfl|hj
      .rw[zAI rfl]at h;exact .inl (.inr h)
      .rw[zAH (bE j hj)]at h;exact .inr ⟨j,hj,h⟩
   .intro r;rw[hM.MN r];constructor
    .rintro((h|h)|⟨j,hj,h⟩)
     .exact .inl h
     .exact .inr ⟨i,by simp,by rw[zAI rfl];exact h⟩
     .exact .inr ⟨j,by simp[hj],by rw[zAH (bE j hj)];exact h⟩
    .rintro(h|⟨j,hj,h⟩)
     .exact .inl (.inl h)
     .rcases zAS.1 hj with rfl|hj
      .rw[zAI rfl]at h;exact .inl (.inr h)
      .rw[zAH (bE j hj)]at h;exact .inr ⟨j,hj,h⟩
theorem sE {e:Nat} {dir:ChanDir} (ho:o.op=.makeChan t (.const (.int .i64 0))) (hd:o.dst=some d) (hg:o.guard=none) (ht:P.underlying t=some (.chan dir e)) (hi:P.info? e=some i):
 En P o d (λr=>.chan (some r)) (.chan 0 #[] false 0 0 false):=by
 obtain⟨dst,op,ty,pos,af,gd⟩:=o;simp only at ho hd hg;subst ho;subst hd;subst hg;refine⟨rfl,rfl,λa w=>?_,λa w=>?_⟩
 .have:=run_makeChan (P:=P) (w:=w) ht hi .i64 0 (by decide) (by simp);show(Instr.makeChan t (.int .i64 0)>>=λv=>pure (Next.value v)).run P w=_;have this:(Instr.makeChan t (.int .i64 0)).run P w=.ok (.chan (some w.heap.size)) (w.alloc (.chan 0 #[] false 0 0 false)):=this;simp[this]
 .have h1:=run_makeChan (P:=P) (w:=w) ht hi .i64 0 (by decide) (by simp);have h2:=events_makeChan (P:=P) (w:=w) ht hi .i64 0 (by decide) (by simp) #[];have h1:(Instr.makeChan t (.int .i64 0)).run P w=.ok (.chan (some w.heap.size)) (w.alloc (.chan 0 #[] false 0 0 false)):=h1;have h2:(Instr.makeChan t (.int .i64 0)).events P w #[]=#[]:=h2;show(Instr.makeChan t (.int .i64 0)>>=λv=>pure (Next.value v)).events P w #[]=_;simp[h1,h2]
theorem jk {z:Value} (ho:o.op=.alloc t) (hd:o.dst=some d) (hg:o.guard=none) (hi:P.info? t=some i) (hz:i.zero=some z):
 En P o d (λr=>.pointer (some ⟨r,0,none⟩)) (.cells z.cells t):=by
 obtain⟨dst,op,ty,pos,af,gd⟩:=o;simp only at ho hd hg;subst ho;subst hd;subst hg;have QO:∀w,(zeroValue t).run P w=.ok z w:=λw=>by simp[zeroValue,typeInfo,hi,hz]
 refine⟨rfl,rfl,λa w=>?_,λa w=>?_⟩
 .simp[execOp,Instr.alloc,QO,newVar,newRow]
 .simp[execOp,Instr.alloc,QO,newVar,newRow]
theorem fD (w:World) (a:Addr) (v:Value) (h:r≠a.block):(w.setCell a v).heap[r]?=w.heap[r]?:=by
 simp[World.setCell,zCZ,Ne.symm h]
theorem jl {v:Value} (h:w.heap[r]?=some (.cells #[u] e fz)):(w.setCell ⟨r,0,none⟩ v).heap[r]?=some (.cells #[v] e fz):=by
 simp[World.setCell,zCZ,h]
theorem dn (h:w.heap[r]?=some (.cells #[u] e fz)):w.cell? ⟨r,0,none⟩=some u:=by simp[World.cell?,h]
theorem eM (h:w.heap[r]?=some (.cells #[u] e (0,0))):w.frozen? ⟨r,0,none⟩=false:=by simp[World.frozen?,h]
theorem gX {kn:Nat->Prop} (a:Addr) (v:Value) (h:¬kn a.block):Env kn w (w.setCell a v):=
 ⟨by simp[World.setCell],λr hr=>fD w a v λe=>h (e▸hr),rfl,rfl⟩
end Go.aC
namespace Go.aC
open Go.Conc
open Go.ConcN (upd upd_same upd_ne sumTo)
variable {P:Program} {kn own:Nat->Prop} {t:Trace} {w:World}
structure mj (P:Program) (gs:Array Goroutine) (g:Goroutine) (kn own:Nat->Prop) (w:World) (t:Trace):Prop where
 Zw:gs[0]?=some g
 run:g.status=.running
 quit:∃q,cR P gs q
 co:Co (λg=>g=0) (λ_=>kn) (λ_=>own) w.heap.size t
theorem MP {At:np} (IN:∀kn own g w d,At kn own g (World.at w d)->At kn own g w) {g:Goroutine} (h:jf P At kn own g w):
 ∀gs w1 sl t,Env kn w w1->mj P gs g kn own w1 t->∃N ic eL g' w' ff gT t',runNT P N (crowd gs w1 sl) t=(.next (crowd ff w' gT),t')/\At ic eL g' w'/\mj P ff g' ic eL w' t':=by
 induction h with
 | @mk kn own g w ok go ih=>
   have key:∀n gs w1 sl t q,sumTo gs.size q=n->Env kn w w1->gs[0]?=some g->g.status=.running->cR P gs q->Co (λg=>g=0) (λ_=>kn) (λ_=>own) w1.heap.size t->
    ∃N ic eL g' w' ff gT t',runNT P N (crowd gs w1 sl) t=(.next (crowd ff w' gT),t')/\At ic eL g' w'/\mj P ff g' ic eL w' t':=by
    intro n;induction n using Nat.strongRecOn with
    |ind n ihn=>
     intro gs w1 sl t q hn he h0 hr hq lE;by_cases hA:At kn own g w1
     .exact⟨0,kn,own,g,w1,gs,sl,t,rfl,hA,h0,hr,⟨q,hq⟩,lE⟩
     have aw:∀x∈gs,Conc.awake x:=by
      intro x hx;obtain⟨j,hj,rfl⟩:=zCH.1 hx;have yP:=zAG hj;rcases zBT j with rfl|gi
      .rw[h0]at yP;rw[<-zAY yP];exact awake_of (.inl hr)
      .exact awake_of ((hq j _ gi yP).status.imp id .inr)
     obtain⟨i,x,d,gT,hi,hx,bK⟩:=crowd_pick (P:=P) (w:=w1) (sl:=sl) aw ⟨0,_,h0,hr⟩;rcases zBT i with rfl|gi
     .obtain rfl:x=g:=by rw[h0]at hi;exact(zAY hi).symm
      have bW:0<gs.size:=(zAD.1 h0).1;have bc:¬At kn own x (w1.at d):=λh=>hA (IN _ _ _ _ _ h);rcases ok (w1.at d) (he.trans (iJ _ _ _))with h|⟨g2,w3,es,h1,h2,h3⟩
      .exact absurd h bc
      have aW:=runT_crowd_go (P:=P) (sl:=gT) (i:=0) h0 (show stepG P (0==0) x (w1.at d)=_ from h1);rw[hq.woken h0 hr]at aW
      obtain⟨N,ic,eL,g',w',ff,MM,t',k1,k2,k3⟩:=ih (w1.at d) g2 w3 es (he.trans (iJ _ _ _)) bc h1 (gs.setIfInBounds 0 g2) w3 gT (t++MemOp.ofEvents 0 x.frame.fn x.frame.place es) (Env.refl _ _)
       ⟨aP _ bW,h2,⟨q,λj y hj hy=>by rw[aH _ (by omega)]at hy;exact hq j y hj hy⟩,(lE.step (w:=w1.at d) (g:=0) rfl rfl h3 _ _).lone (upd_same ..) (upd_same ..)⟩
      exact⟨N+1,ic,eL,g',w',ff,MM,t',by simp only[runNT,bK.trans aW];exact k1,k2,k3⟩
     .have yR:=hq i x gi hi;have wX:(i==0)=false:=by simp;omega
      have az:i<gs.size:=(zAD.1 hi).1;cases hk:q i with
      |zero=>rw[hk]at yR;rw[show x.status=.finished from yR]at hx;cases hx
      |succ k=>
       rw[hk]at yR;rcases yR with hf|⟨_,g',hs,uT⟩
       .rw[hf]at hx;cases hx
       have aW:=runT_crowd_go (P:=P) (sl:=gT) hi (by rw[wX];exact hs (w1.at d));rw[hq.woken h0 hr]at aW;have e0:t++MemOp.ofEvents i x.frame.fn x.frame.place #[]=t:=by simp[MemOp.ofEvents]
       obtain⟨N,ic,eL,g2,w',ff,MM,t',k1,k2,k3⟩:=ihn (sumTo gs.size (upd q i k)) (by
        rw[<-hn];refine kh az ?_ λj hj=>upd_ne _ _ hj
        rw[upd_same,hk];omega) (gs.setIfInBounds i g') (w1.at d) gT t (upd q i k) (by simp) (he.trans (iJ _ _ _)) (by rw[aH _ (by omega)];exact h0) hr (λj y hj hy=>by
         by_cases e:j=i
         .subst e;rw[aP _ az]at hy;rw[upd_same,<-zAY hy];exact uT
         .rw[aH _ e]at hy;rw[upd_ne _ _ e];exact hq j y hj hy) lE
       refine⟨N+1,ic,eL,g2,w',ff,MM,t',?_,k2,k3⟩;have:=bK.trans aW;simp only[runNT,this];rw[e0];exact k1
   intro gs w1 sl t he ha;obtain⟨q,hq⟩:=ha.quit;exact key _ gs w1 sl t q rfl he ha.Zw ha.run hq ha.co
theorem Co.grow {ic eL:Nat->Prop} {B:Nat} (h:Co (λg=>g=0) (λ_=>kn) (λ_=>own) B t) (hk:∀r,ic r->r<B) (ho:∀r,eL r->ic r):Co (λg=>g=0) (λ_=>ic) (λ_=>eL) B t:=by
 have all:∀i a r,touchAt t i=some a->kO a.loc r->Knows t 0 i:=λi a r hi hr=>by
  have hm:a.loc.isMemory=true:=by rcases hr with⟨x,e,_⟩|e<;>rw[e]<;>rfl
  rcases h.ho i a hi hm with h1|⟨g,h1,h2,_⟩
  .exact h1
  .exact absurd h2 h1
 exact⟨h.clean,h.calm,λ_ _=>ho,λ_ _=>hk,λg k hg yN bE=>absurd (hg.trans yN.symm) bE,λg hg i a r hi hr _ _=>hg▸all i a r hi hr,λg hg i a r hi hr _=>hg▸all i a r hi hr,h.ho,h.low⟩
theorem Inv.MQ {G:iI P} {b:Nat} {S:St} {gs:Array Goroutine} (h:Inv G b S gs w t) (ho:kP G S w):mj P gs S.mn.g S.mn.kn S.mn.own w t:=by
 obtain⟨h1,h2,h3,h4,_⟩:=h.Vy ho;exact⟨h1,h2,⟨S.q,h3⟩,h4⟩
end Go.aC
namespace Go.aC
variable {f lf:Frame} {p:Pi} {top:List Frame} {w:World}
def Leaves (X:Nat->Prop) (HA:kV) (HP:dS):Prop:=
 (∀kn own f w,HA kn own f w->HA (λr=>kn r\/X r) own f w)/\
 ∀kn own f w v w3 eS bt,HP (λr=>kn r\/X r) own f w v w3 eS bt->∃Zx,HP kn own f w v w3 Zx bt/\eS=(λr=>Zx r\/X r)/\Env X w w3/\∀r,bt r->own r\/¬X r
theorem CT.keep {P:Program} {main:Bool} {base:List Frame} {Fin:oe} {HA:kV} {HP:dS} (X:Nat->Prop) (hl:Leaves X HA HP) {kn own:Nat->Prop}
 (h:CT P main base Fin HA HP kn own f top w) (hX:∀r,X r->r<w.heap.size) (hd:∀r,own r->¬X r):
 CT P main base (λ_ own v w'=>(∃LT,Fin LT own v w')/\Env X w w') HA HP (λr=>kn r\/X r) own f top w:=by
 have key:=CT.ind (I:=λkn own f top w1=>(∀r,own r->¬X r)->Env X w w1->CT P main base (λ_ own v w'=>(∃LT,Fin LT own v w')/\Env X w w') HA HP (λr=>kn r\/X r) own f top w1) ?_ h
 .exact key hd (Env.refl _ _)
 intro kn own f top w1 hb Ee FX
 have keep:∀{w2 w3:World} {es:Array Event},Env (λr=>kn r\/X r) w1 w2->Fair kn own w2 w3 es->Env X w w3/\∀r,aG own w2 w3 r->¬X r:=λ{w2 w3 es} he hf=>by
  have zc:Env X w w2:=FX.trans (he.mono λr h=>.inr h);have az:∀r,X r->r<w2.heap.size:=λr hr=>zAV (hX r hr) zc.1;refine⟨zc.trans ⟨hf.size,λr hr=>hf.others r (az r hr) λho=>Ee r ho hr,hf.os,hf.out⟩,λr hr hx=>?_⟩;rcases hr with hr|hr
  .exact Ee r hr hx
  .have:=az r hx;have:=hr.1;omega
 refine CT.mk λw2 he=>?_;rcases hb w2 (he.mono λr h=>.inl h)with⟨w3,es,f2,og,h1,h2,h3⟩|⟨w3,es,v,b',wN,h0,h1,h2,h3⟩|⟨w3,es,v,h0,h1,h2,h3⟩|⟨h1,c,rest,h2,h3⟩
 .refine .inl ⟨w3,es,f2,og,h1,h2.mono (λr h=>.inl h) (λr h=>h),?_⟩;rw[jW];obtain⟨k1,k2⟩:=keep he h2;exact h3.1 k2 k1
 .exact .inr (.inl ⟨w3,es,v,b',wN,h0,h1,h2.mono (λr h=>.inl h) (λr h=>h),⟨_,h3⟩,(keep he h2).1⟩)
 .exact .inr (.inr (.inl ⟨w3,es,v,h0,h1,h2.mono (λr h=>.inl h) (λr h=>h),⟨_,h3⟩,(keep he h2).1⟩))
 .refine .inr (.inr (.inr ⟨hl.1 _ _ _ _ h1,c,rest,h2,λv w3 eS bt hp=>?_⟩));obtain⟨Zx,q1,rfl,q3,q4⟩:=hl.2 _ _ _ _ _ _ _ _ hp;refine(h3 v w3 Zx bt q1).1 (λr hr=>?_) ((FX.trans (he.mono λr h=>.inr h)).trans q3);rcases q4 r hr with x|x
  .exact Ee r x
  .exact x
structure Px (P:Program) (F:Array Func) (S:Nat->Bool) (e:FuncId):Prop where
 marked:S (P.funcs.size+P.globals.size)=false
 lone:∀(lf:Frame) (cs:List Frame) (v:World),pz S lf->lf.kind=.normal->∃n,1<=n/\runN P n (lone lf cs v)=.next (lone (lf.finish (.bool true)) cs v)
 comp:∀(main:Bool) (f:Frame) (cs:List Frame) (w:World),pz S f->f.kind=.normal->stepG (ae P F) main (iz f cs) w=.go (iz (Frame.enter (ae P F) e #[] .normal) (f::cs)) w #[]
def Uo (Q:Program) (e:FuncId):kV:=λ_ _ f _=>f=Frame.enter Q e #[] .normal
def vk:dS:=λkn own _ w v w3 eS bt=>v=.bool true/\Env kn w w3/\eS=kn/\bt=own
section
variable {P:Program} {F:Array Func} {S:Nat->Bool} {N:Nat} {e:FuncId}
theorem pz.lone (h:kU P S LS p lf f) (hh:pz S f):pz S lf:=by
 obtain⟨hm,o,ops,i,is,k,h1,h2,h3,h4⟩:=hh;have rc:=h.mode;rw[hm]at rc;have aW:lf.mode=.run:=by generalize lf.mode=x at rc;cases rc;rfl
 have FM:=h.todo;rw[h1]at FM;generalize h5:lf.todo=t at FM;cases FM with
 |cons hi FM=>
  cases hi with
  |inRegion _ _=>
   refine⟨aW,o,ops,i,is,_,h5,h2,h3,?_⟩;rw[<-h4];congr 1;exact funext λj=>qn ops h.tmps j
section
variable (Q:Program) (S:Nat->Bool) (N:Nat) (main:Bool) (base:List Frame) (Fin:oe) (HA:kV) (HP:dS)
def Nd.MS (x:Nd) (w2 w3:World):Prop:=Env (jR x.p) w2 w3/\¬CT Q main base Fin HA HP (jR x.p) (bU N x.p) (x.f.finish (.bool true)) x.top w3
open Classical in
noncomputable def Nd.Eo (x:Nd):World:=if h:∃w3,x.MS Q N main base Fin HA HP (x.pick Q N main base Fin HA HP) w3 then h.choose else x.w
theorem Nd.Cu (x:Nd) (h:∃w3,x.MS Q N main base Fin HA HP (x.pick Q N main base Fin HA HP) w3):x.MS Q N main base Fin HA HP (x.pick Q N main base Fin HA HP) (x.Eo Q N main base Fin HA HP):=by
 unfold Nd.Eo;rw[dif_pos h];exact h.choose_spec
open Classical in
noncomputable def Nd.VD (x:Nd):Nd:=
 if pz S x.f then⟨x.p,x.L,x.f.finish (.bool true),x.top,x.Eo Q N main base Fin HA HP⟩
 else match x.step Q main base (x.pick Q N main base Fin HA HP)with
 |.go g w3 _=>⟨ext x.p x.L (x.pick Q N main base Fin HA HP).heap.size (w3.heap.size-(x.pick Q N main base Fin HA HP).heap.size),x.L+(w3.heap.size-(x.pick Q N main base Fin HA HP).heap.size),
    g.frame,g.callers.take (g.callers.length-base.length),w3⟩
 |_=>x
noncomputable def Nd.Py (x:Nd):Nat->Nd
 |0=>x
 |k+1=>(Nd.Py x k).VD Q S N main base Fin HA HP
open Classical in
noncomputable def Nd.IU (x:Nd):Nat:=
 if pz S x.f then 0 else(gw (x.step Q main base (x.pick Q N main base Fin HA HP))).drawn-(x.pick Q N main base Fin HA HP).drawn
noncomputable def Nd.IV (x:Nd) (i:Nat):Question->Nat:=(x.pick Q N main base Fin HA HP).tape ((x.pick Q N main base Fin HA HP).drawn+i)
end
theorem zB (hc:Closed P F S LS) (hg:iH P S p) {sm:List Frame} {lw:World} (hw:WR P S (KS P S) N p lw w)
 (hf:FL P S LS p (lf::sm) (f::top)) {R:Value->World->Prop} (hl:Px P F S e) (FN:Zl P lf sm lw R λ_ _=>False) (main:Bool) (base:List Frame) (hb:QS P S main base):
 CT (ae P F) main base (sn P S N p R) (Uo (ae P F) e) vk (jR p) (bU N p) f top w:=by
 refine zBF λhct=>?_;let Fin:=sn P S N p R
 let HA:=Uo (ae P F) e
 let x0:Nd:=⟨p,lw.heap.size,f,top,w⟩
 have rz:¬x0.ct (ae P F) N main base Fin HA vk:=hct;let X:=λk=>Nd.Py (ae P F) S N main base Fin HA vk x0 k
 let pk:=λk=>(X k).pick (ae P F) N main base Fin HA vk
 let m:=λk=>(X k).IU (ae P F) S N main base Fin HA vk
 let D:=λk=>gA m lw.drawn k
 let start:=λT:Nat->Question->Nat=>Go.lone lf (sm++[Base P]) {lw with tape:=T}
 have inv:∀k (T:Nat->Question->Nat),(∀j,j<k->∀i,i<m j->T (D j+i)=(X j).IV (ae P F) N main base Fin HA vk i)->∃ν g gs v,k<=ν/\runN P ν (start T)=.next (Go.lone g (gs++[Base P]) v)/\WR P S (KS P S) N (X k).p v (X k).w/\
  FL P S LS (X k).p (g::gs) ((X k).f::(X k).top)/\iH P S (X k).p/\v.tape=T/\v.drawn=D k/\v.heap.size=(X k).L/\(¬(X k).ct (ae P F) N main base Fin HA vk)/\Le p (X k).p:=by
  intro k;induction k with
  |zero=>intro T _;exact⟨0,lf,sm,{lw with tape:=T},zAC _,rfl,hw.tape T lw.drawn,hf,hg,rfl,rfl,rfl,rz,Le.refl p⟩
  |succ k ih=>
   intro T hT;obtain⟨ν,g,gs,v,e0,e1,e2,e3,e4,e5,e6,e7,e8,e9⟩:=ih T λj hj i hi=>hT j (by omega) i hi;obtain⟨wT,sk⟩:=(X k).uZ (ae P F) N main base Fin HA vk e8;have ut:WR P S (KS P S) N (X k).p v (pk k):=e2.env wT;obtain⟨n,fr,w1,c1,c2⟩:=FN T
   have mV:Ends P fr w1:=by
    rcases c2 with⟨rv,h,_⟩|⟨e,ch,h,_⟩
    .exact .inl ⟨rv,h⟩
    .exact .inr ⟨_,h⟩
   obtain⟨hle,qp⟩:=before c1 mV e1;by_cases lC:pz S (X k).f
   ·
    have uu:m k=0:=by show Nd.IU _ _ _ _ _ _ _ _ (X k)=_;unfold Nd.IU;rw[zAI lC]
    have FO:∃w3,(X k).MS (ae P F) N main base Fin HA vk (pk k) w3:=by
     refine zBF λi6=>sk (.inl ⟨pk k,#[],Frame.enter (ae P F) e #[] .normal,(X k).f::(X k).top,?_,Fair.refl (λe h=>by simp at h),?_⟩)
     .exact hl.comp main (X k).f ((X k).top++base) (pk k) lC e3.head.kM
     .rw[aN,aN];refine CT.mk λw2 he=>.inr (.inr (.inr ⟨rfl,(X k).f,(X k).top,rfl,λv' w3 eS bt hp=>?_⟩));obtain⟨rfl,zC,rfl,rfl⟩:=hp;exact zBF λhx=>i6 ⟨w3,he.trans zC,hx⟩
    obtain⟨VE,Q2⟩:=(X k).Cu (ae P F) N main base Fin HA vk FO;obtain⟨nn,p0,p1⟩:=hl.lone g (gs++[Base P]) v (pz.lone e3.head lC) e3.head.kind
    have Ib:X (k+1)=⟨(X k).p,(X k).L,(X k).f.finish (.bool true),(X k).top,(X k).Eo (ae P F) N main base Fin HA vk⟩:=by
     show(X k).VD (ae P F) S N main base Fin HA vk=_;unfold Nd.VD;rw[zAI lC]
    rw[Ib];refine⟨ν+nn,g.finish (.bool true),gs,v,by omega,by rw[runN_add,e1];exact p1,ut.env VE,e3.top (e3.head.finish (.bool true)) (dR _ _),e4,e5,?_,e7,Q2,e9⟩;rw[e6];show D k=gA m lw.drawn k+m k;rw[uu];rfl
   ·
    have uu:m k=(gw ((X k).step (ae P F) main base (pk k))).drawn-(pk k).drawn:=by show Nd.IU _ _ _ _ _ _ _ _ (X k)=_;unfold Nd.IU;rw[zAH lC]
    have Ca:kN (m k) v (pk k):=λj hj q=>by
     have:=hT k (by omega) j hj;rw[e5,e6,this];rfl
    have hd:(gw (stepG (ae P F) main {frame:=(X k).f,callers:=(X k).top++base,status:=.running,dying:=none} (pk k))).drawn<=(pk k).drawn+m k:=by
     rw[uu];show(gw ((X k).step (ae P F) main base (pk k))).drawn<=(pk k).drawn+((gw ((X k).step (ae P F) main base (pk k))).drawn-(pk k).drawn)
     omega
    have Q3:=dB.step (b:=Base P) (bs:=[]) (aO:=base) hc ut e4 e3 (λ_ _ _ _ _ _ _ h=>h) lC true main hb Ca hd;rcases Q3 with⟨o,w3,es,hs⟩|⟨q,ch,Uj,w3,es,Ed,hs⟩|⟨c,nn,v1,w3,es,dc,hm,Vp,jS⟩
    .exact(wS qp mV (step_lone_ended (o:=o) (w':=w3) (by rw[hs];rfl))).elim
    .exfalso;have bJ:step P (Go.lone g (gs++[Base P]) v)=.next (Go.lone ((Base P).raise ch) [] w3):=step_lone_go (by rw[hs];rfl);obtain⟨_,hσ⟩:=wR qp bJ (fw P ch w3);rw[hσ]at bJ;rcases c2 with⟨rv,h,_⟩|⟨e,Eh,h,hF,hnv⟩
     .rw[step_leave_returned h]at bJ;simp only[Stepped.next.injEq]at bJ;have q1:=(fh bJ).1;rw[dO]at q1;have:=zBK (λf:Frame=>f.mode) q1;simp[Base,Frame.raise]at this
     .exact hF
    .obtain⟨sr,su,rf⟩:=cz.fair ut hm Vp;rcases jS with⟨f2,Ic,t2,MG,Ia,hs,t8⟩|⟨Q4,Cb,hv,hs,t8⟩
     .have bJ:step P (Go.lone g (gs++[Base P]) v)=.next (Go.lone f2 (t2++[Base P]) v1):=step_lone_go (by rw[hs];rfl);have pg:=si P ν _ _ e1;rw[bJ]at pg;have gV:(X k).step (ae P F) main base (pk k)=.go (iz Ic (MG++base)) w3 dc:=t8
      have Ib:X (k+1)=⟨ext (X k).p (X k).L (pk k).heap.size c,(X k).L+c,Ic,MG,w3⟩:=by
       show(X k).VD (ae P F) S N main base Fin HA vk=_;unfold Nd.VD;rw[zAH lC];have FP:(X k).step (ae P F) main base ((X k).pick (ae P F) N main base Fin HA vk)=.go (iz Ic (MG++base)) w3 dc:=t8;rw[FP]
       have bW:w3.heap.size-((X k).pick (ae P F) N main base Fin HA vk).heap.size=c:=by
        have h6:w3.heap.size=(pk k).heap.size+c:=hm.li;show w3.heap.size-(pk k).heap.size=c;rw[h6,zCK]
       simp only[bW];congr 1;rw[zBA,Nat.add_sub_cancel];exact List.take_left
      rw[Ib];have hrel:=hm.rel;rw[e7]at hrel Ia su rf;have FQ:=fe (X k).p (X k).L (pk k).heap.size c;refine⟨ν+1,f2,t2,v1,by omega,pg,hrel,Ia,e4.mono FQ,hm.tape.trans e5,?_,by rw[hm.size,e7],?_,e9.trans FQ⟩
      .rw[hm.drawn,e6]
       have:m k=nn:=by
        rw[uu,gV];have h5:w3.drawn=(pk k).drawn+nn:=hm.lj;show w3.drawn-(pk k).drawn=nn;rw[h5,zCK]
       show D k+nn=gA m lw.drawn k+m k;rw[this]
      .intro Cc;refine sk (.inl ⟨w3,dc,Ic,MG,gV,sr,?_⟩);unfold Nd.ct at Cc;rw[su,rf]at Cc;exact Cc
     .exfalso;have bJ:step P (Go.lone g (gs++[Base P]) v)=.next (Go.lone ((Base P).finish Q4) [] v1):=step_lone_go (by rw[hs];rfl);obtain⟨_,hσ⟩:=wR qp bJ (gz P Q4 v1);rw[hσ]at bJ;rcases c2 with⟨rv,h,hR⟩|⟨e,Eh,h,hF,_⟩
      .rw[step_leave_returned h]at bJ;simp only[Stepped.next.injEq]at bJ;obtain⟨q1,_,q3⟩:=fh bJ;rw[dO,dO]at q1
       have Id:rv=Q4:=by
        have:=zBK (λf:Frame=>f.tmps) q1;simpa using this
       subst Id;subst q3;have sw:Fin (aG (jR (X k).p) (pk k) w3) (aG (bU N (X k).p) (pk k) w3) Cb w3:=⟨_,rv,w1,hR,hv,hm.rel,e9.trans (fe _ _ _ _),su.symm,rf.symm⟩
       rcases t8 with⟨b',wN,jT,t8⟩|⟨jT,t8⟩
       .exact sk (.inr (.inl ⟨w3,dc,Cb,b',wN,jT,t8,sr,sw⟩))
       .exact sk (.inr (.inr (.inl ⟨w3,dc,Cb,jT,t8,sr,sw⟩)))
      .exact hF
 obtain⟨T,hT⟩:=splice m (λk j=>(X k).IV (ae P F) N main base Fin HA vk j) lw.drawn;obtain⟨n,fr,w1,c1,c2⟩:=FN T
 have mV:Ends P fr w1:=by
  rcases c2 with⟨rv,h,_⟩|⟨e,ch,h,_⟩
  .exact .inl ⟨rv,h⟩
  .exact .inr ⟨_,h⟩
 obtain⟨ν,g,gs,v,e0,e1,_⟩:=inv (n+1) T λj _ i hi=>hT j i hi;obtain⟨hle,_⟩:=before c1 mV e1;omega
end
end Go.aC
namespace Go.aC
open Go.Conc
open Go.ConcN (upd upd_same upd_ne sumTo sumTo_upd sumTo_congr le_sumTo sumTo_le)
variable {b:Frame} {bs:List Frame} {m m':Machine} {t:Trace}
def ox (P:Program) (b:Frame) (bs:List Frame) (Fin:oe) (m:Machine) (t:Trace):Prop:=
 ∃N v w3 eS bt ff gT t' q',runNT P N m t=(.next (crowd ff w3 gT),t')/\Fin eS bt v w3/\ff[0]?=some (iz (b.finish v) bs)/\cR P ff q'/\Co (λg=>g=0) (λ_=>eS) (λ_=>bt) w3.heap.size t'
theorem ox.step {P:Program} {Fin:oe} {ops:Array MemOp} (h:stepT P m=(.next m',ops)) (k:ox P b bs Fin m' (t++ops)):ox P b bs Fin m t:=by
 obtain⟨N,v,w3,eS,bt,ff,gT,t',q',h1,h2⟩:=k;exact⟨N+1,v,w3,eS,bt,ff,gT,t',q',by simp only[runNT,h];exact h1,h2⟩
theorem ox.steps {P:Program} {Fin:oe} {t':Trace} {N:Nat} (h:runNT P N m t=(.next m',t')) (k:ox P b bs Fin m' t'):ox P b bs Fin m t:=by
 obtain⟨M,v,w3,eS,bt,ff,gT,t',q',h1,h2⟩:=k;exact⟨N+M,v,w3,eS,bt,ff,gT,t',q',by rw[runNT_add,h];exact h1,h2⟩
section
variable {P:Program} {Fin:oe} {HA:kV} {HP:dS} {b0:Frame} {Cv:List Frame}
theorem Cx (Cn:wZ P HA HP) (IN:∀kn own f w d,HA kn own f (World.at w d)->HA kn own f w) (Vz:∀kn own f w d v w3 eS bt,HP kn own f w v w3 eS bt->HP kn own f (World.at w d) v w3 eS bt)
 {kn own:Nat->Prop} {f:Frame} {top:List Frame} {w:World} (h:CT P true (b0::Cv) Fin HA HP kn own f top w):
 ∀gs w1 sl t q,Env kn w w1->gs[0]?=some (iz f (top++b0::Cv))->cR P gs q->Co (λg=>g=0) (λ_=>kn) (λ_=>own) w1.heap.size t->ox P b0 Cv Fin (crowd gs w1 sl) t:=by
 refine CT.ind (I:=λkn own f top w=>∀gs w1 sl t q,Env kn w w1->gs[0]?=some (iz f (top++b0::Cv))->cR P gs q->Co (λg=>g=0) (λ_=>kn) (λ_=>own) w1.heap.size t->ox P b0 Cv Fin (crowd gs w1 sl) t) ?_ h;intro kn own f top w jV
 have key:∀n gs w1 sl t q,sumTo gs.size q=n->Env kn w w1->gs[0]?=some (iz f (top++b0::Cv))->cR P gs q->Co (λg=>g=0) (λ_=>kn) (λ_=>own) w1.heap.size t->ox P b0 Cv Fin (crowd gs w1 sl) t:=by
  intro n;induction n using Nat.strongRecOn with
  |ind n ih=>
   intro gs w1 sl t q hn he h0 hq lE
   have pay:HA kn own f w1->∀c rest,top=c::rest->(∀v w3 eS bt,HP kn own f w1 v w3 eS bt->(∀gs w1 sl t q,Env eS w3 w1->gs[0]?=some (iz (c.finish v) (rest++b0::Cv))->cR P gs q->Co (λg=>g=0) (λ_=>eS) (λ_=>bt) w1.heap.size t->ox P b0 Cv Fin (crowd gs w1 sl) t))->ox P b0 Cv Fin (crowd gs w1 sl) t:=by
    intro hA c rest re hc;subst re;obtain⟨N,v,w3,eS,bt,ff,gT,t',q',p1,p2,p3,p4,p5⟩:=Cn kn own f c (rest++b0::Cv) w1 gs sl t q h0 hq lE hA;exact(hc v w3 eS bt p2 ff w3 gT t' q' (Env.refl _ _) p3 p4 p5).steps p1
   have aw:∀g∈gs,Conc.awake g:=by
    intro g hg;obtain⟨j,hj,rfl⟩:=zCH.1 hg;have yP:=zAG hj;rcases zBT j with rfl|gi
    .rw[h0]at yP;rw[<-zAY yP];exact awake_of (.inl rfl)
    .exact awake_of ((hq j _ gi yP).status.imp id .inr)
   obtain⟨i,g,d,gT,hi,hg,bK⟩:=crowd_pick (P:=P) (w:=w1) (sl:=sl) aw ⟨0,_,h0,rfl⟩;rcases zBT i with rfl|gi
   .obtain rfl:g=iz f (top++b0::Cv):=by rw[h0]at hi;exact(zAY hi).symm
    have bW:0<gs.size:=(zAD.1 h0).1;rcases jV (w1.at d) (he.trans (iJ _ _ _))with⟨w3,es,f2,og,h1,h2,h3⟩|⟨w3,es,v,b,bs,zf,h1,h2,h3⟩|⟨w3,es,v,zf,h1,h2,h3⟩|⟨h1,c,rest,re,h2⟩
    .have aW:=runT_crowd_go (P:=P) (sl:=gT) (i:=0) h0 (show stepG P (0==0) (iz f (top++b0::Cv)) (w1.at d)=_ from h1);rw[hq.woken h0 rfl]at aW;refine ox.step (bK.trans aW) (h3.1 _ w3 gT _ q (Env.refl _ _) (aP _ bW) (λj x hj hx=>?_) ?_)
     .rw[aH _ (by omega)]at hx;exact hq j x hj hx
     .exact(lE.step (w:=w1.at d) (g:=0) rfl rfl h2 _ _).lone (upd_same ..) (upd_same ..)
    .obtain⟨rfl,rfl⟩:b0=b/\Cv=bs:=by simpa using zf
     have aW:=runT_crowd_go (P:=P) (sl:=gT) (i:=0) h0 (show stepG P (0==0) (iz f (top++b0::Cv)) (w1.at d)=_ from h1);rw[hq.woken h0 rfl]at aW;refine ox.step (bK.trans aW) ⟨0,v,w3,_,_,_,gT,_,q,rfl,h3,aP _ bW,λj x hj hx=>?_,(lE.step (w:=w1.at d) (g:=0) rfl rfl h2 _ _).lone (upd_same ..) (upd_same ..)⟩;rw[aH _ (by omega)]at hx;exact hq j x hj hx
    .cases zf
    .exact pay (IN _ _ _ _ _ h1) c rest re λv w3 eS bt hp=>(h2 v w3 eS bt (Vz _ _ _ _ _ _ _ _ _ hp)).1
   .have yR:=hq i g gi hi;have wX:(i==0)=false:=by simp;omega
    have az:i<gs.size:=(zAD.1 hi).1;cases hk:q i with
    |zero=>rw[hk]at yR;rw[show g.status=.finished from yR]at hg;cases hg
    |succ k=>
     rw[hk]at yR;rcases yR with hf|⟨_,g',hs,uT⟩
     .rw[hf]at hg;cases hg
     have aW:=runT_crowd_go (P:=P) (sl:=gT) hi (by rw[wX];exact hs (w1.at d));rw[hq.woken h0 rfl]at aW;have e0:t++MemOp.ofEvents i g.frame.fn g.frame.place #[]=t:=by simp[MemOp.ofEvents]
     refine ox.step (bK.trans aW) ?_;rw[e0];refine ih (sumTo gs.size (upd q i k)) ?_ _ (w1.at d) gT t (upd q i k) (by simp) (he.trans (iJ _ _ _)) ?_ (λj x hj hx=>?_) lE
     .rw[<-hn];refine kh az ?_ λj hj=>upd_ne _ _ hj;rw[upd_same,hk];omega
     .rw[aH _ (by omega)];exact h0
     .by_cases e:j=i
      .subst e;rw[aP _ az]at hx;rw[upd_same,<-zAY hx];exact uT
      .rw[aH _ e]at hx;rw[upd_ne _ _ e];exact hq j x hj hx
 intro gs w1 sl t q he h0 hq lE;exact key _ gs w1 sl t q rfl he h0 hq lE
end
end Go.aC
namespace Go.aC
theorem CT.VF {P:Program} {main:Bool} {base:List Frame} {Fin:oe} {e:FuncId} (X:Nat->Prop) {kn own:Nat->Prop} {f:Frame} {top:List Frame} {w:World}
 (h:CT P main base Fin (Uo P e) vk kn own f top w) (hX:∀r,X r->r<w.heap.size) (hd:∀r,own r->¬X r):
 CT P main base (λ_ own v w'=>(∃LT,Fin LT own v w')/\Env X w w') (λkn own f w1=>Uo P e kn own f w1/\(∀r,X r->kn r)/\Env X w w1) vk (λr=>kn r\/X r) own f top w:=by
 have key:=CT.ind (I:=λkn own f top w1=>(∀r,own r->¬X r)->Env X w w1->CT P main base (λ_ own v w'=>(∃LT,Fin LT own v w')/\Env X w w') (λkn own f w1=>Uo P e kn own f w1/\(∀r,X r->kn r)/\Env X w w1) vk (λr=>kn r\/X r) own f top w1) ?_ h
 .exact key hd (Env.refl _ _)
 intro kn own f top w1 hb Ee FX
 have keep:∀{w2 w3:World} {es:Array Event},Env (λr=>kn r\/X r) w1 w2->Fair kn own w2 w3 es->Env X w w3/\∀r,aG own w2 w3 r->¬X r:=λ{w2 w3 es} he hf=>by
  have zc:Env X w w2:=FX.trans (he.mono λr h=>.inr h);have az:∀r,X r->r<w2.heap.size:=λr hr=>zAV (hX r hr) zc.1;refine⟨zc.trans ⟨hf.size,λr hr=>hf.others r (az r hr) λho=>Ee r ho hr,hf.os,hf.out⟩,λr hr hx=>?_⟩;rcases hr with hr|hr
  .exact Ee r hr hx
  .have:=az r hx;have:=hr.1;omega
 refine CT.mk λw2 he=>?_;rcases hb w2 (he.mono λr h=>.inl h)with⟨w3,es,f2,og,h1,h2,h3⟩|⟨w3,es,v,b',wN,h0,h1,h2,h3⟩|⟨w3,es,v,h0,h1,h2,h3⟩|⟨h1,c,rest,h2,h3⟩
 .refine .inl ⟨w3,es,f2,og,h1,h2.mono (λr h=>.inl h) (λr h=>h),?_⟩;rw[jW];obtain⟨k1,k2⟩:=keep he h2;exact h3.1 k2 k1
 .exact .inr (.inl ⟨w3,es,v,b',wN,h0,h1,h2.mono (λr h=>.inl h) (λr h=>h),⟨_,h3⟩,(keep he h2).1⟩)
 .exact .inr (.inr (.inl ⟨w3,es,v,h0,h1,h2.mono (λr h=>.inl h) (λr h=>h),⟨_,h3⟩,(keep he h2).1⟩))
 .have zc:Env X w w2:=FX.trans (he.mono λr h=>.inr h);refine .inr (.inr (.inr ⟨⟨h1,λr hr=>.inr hr,zc⟩,c,rest,h2,λv w3 eS bt hp=>?_⟩));obtain⟨rfl,q2,rfl,rfl⟩:=hp;exact(h3 (.bool true) w3 kn bt ⟨rfl,q2.mono λr h=>.inl h,rfl,rfl⟩).1 Ee (zc.trans (q2.mono λr h=>.inr h))
def rowsOf (w:World):Pi:=⟨λr r'=>r=r'/\∃c e fz,w.heap[r]?=some (.cells c e fz),λ_ _=>False,false⟩
open Classical in
theorem MT {S:Nat->Bool} (hJ:S JK=true) (p:Pi) (hl:p.l=false):∀(n:Nat) (v':Value),SizeOf.sizeOf v'<n->∃v,VR S p v v'/\(VR S p v' v'->v=v'):=by
 intro n;induction n with
 |zero=>intro v' h;omega
 |succ n ih=>
  intro v' hn;by_cases hs:VR S p v' v'
  .exact⟨v',hs,λ_=>rfl⟩
  have bT:∀xs:Array Value,SizeOf.sizeOf xs<n->∃ys:Array Value,AR S p ys xs:=by
   intro xs hx
   have hm:∀x∈xs,∃v,VR S p v x:=λx ux=>by
    have:=Array.sizeOf_lt_of_mem ux;obtain⟨v,h,_⟩:=ih x (by omega);exact⟨v,h⟩
   let g:Value->Value:=λx=>if h:∃v,VR S p v x then h.choose else x
   refine⟨xs.map g,by simp,λi a b ha hb=>?_⟩;rw[zCM,hb]at ha;simp only[zBJ,zAA]at ha;subst ha;have h:=hm b (zDN hb);show VR S p (if h:∃v,VR S p v b then h.choose else b) b;rw[dif_pos h];exact h.choose_spec
  cases hj:Pb v' with
  |true=>exact⟨.tuple #[],.pn hl hJ hj,λh=>absurd h hs⟩
  |false=>
   cases v' with
   |bool b=>exact absurd (.bool b) hs
   |int k n=>exact absurd (.int k n) hs
   |string s=>exact absurd (.string s) hs
   |chan c=>exact absurd (.chan c) hs
   |nilFunc=>exact absurd .nilFunc hs
   |nilIface=>exact absurd .nilIface hs
   |pointer a=>cases a with
    |none=>exact absurd .ui hs
    |some a=>cases hj
   |slice a l c=>cases a with
    |none=>exact absurd (.de l c) hs
    |some a=>cases hj
   |map a=>cases a with
    |none=>exact absurd .uj hs
    |some a=>cases hj
   |func f xs ys=>cases f with
    |method n=>exact⟨MF,.BN hl hJ n xs ys,λh=>absurd h hs⟩
    |_=>cases hj
   |agg xs=>
    obtain⟨ys,hy⟩:=bT xs (by simp only[Value.agg.sizeOf_spec]at hn;omega);exact⟨_,hy.agg,λh=>absurd h hs⟩
   |tuple xs=>
    obtain⟨ys,hy⟩:=bT xs (by simp only[Value.tuple.sizeOf_spec]at hn;omega);exact⟨_,hy.tuple,λh=>absurd h hs⟩
   |_=>cases hj
open Classical in
noncomputable def dz (S:Nat->Bool) (p:Pi) (v':Value):Value:=if h:∃v,VR S p v v'/\(VR S p v' v'->v=v')then h.choose else v'
theorem Ep {S:Nat->Bool} (hJ:S JK=true) (p:Pi) (hl:p.l=false) (v':Value):VR S p (dz S p v') v'/\(VR S p v' v'->dz S p v'=v'):=by
 have h:=MT hJ p hl (SizeOf.sizeOf v'+1) v' (by omega);unfold dz;rw[dif_pos h];exact h.choose_spec
noncomputable def zbe (S:Nat->Bool) (p:Pi):Obj->Obj
 |.cells c e _=>.cells (c.map (dz S p)) e (0,c.size)
 |o=>o
noncomputable def ja (S:Nat->Bool) (w:World):World:={w with heap:=w.heap.map (zbe S (rowsOf w))}
section
variable {P:Program} {S:Nat->Bool} {w:World}
theorem zD:(ja S w).heap.size=w.heap.size:=by show(w.heap.map _).size=_;simp
theorem xg {r:Nat} {c:Array Value} {e:TypeId} {fz:Nat×Nat} (h:w.heap[r]?=some (.cells c e fz)):(ja S w).heap[r]?=some (.cells (c.map (dz S (rowsOf w))) e (0,c.size)):=by
 show(w.heap.map _)[r]?=_;rw[zCM,h];rfl
theorem Rt (hJ:S JK=true) (hg:P.globals.size<=w.heap.size):WR P S (KS P S) w.heap.size (rowsOf w) (ja S w) w:=by
 refine⟨λr r' s s' x y=>by rw[<-x.1,<-y.1],λr r' x=>?_,by rw[zD];exact zAC _,λr r' x=>by rw[x.1],by rw[zD];exact hg,hg,rfl,λ_ _ h=>h⟩;obtain⟨rfl,c,e,fz,h⟩:=x;refine⟨_,_,xg h,h,.inl ⟨(zAD.1 h).1,c.map (dz S (rowsOf w)),c,e,fz,by simp,rfl,by simp,λi a b ha hb=>?_⟩⟩;rw[zCM,hb]at ha;simp only[zBJ,zAA]at ha;subst ha;exact(Ep hJ _ rfl b).1
theorem lF (hJ:S JK=true) {a:Addr} {v:Value} (h:w.cell? a=some v) (hv:VR S (rowsOf w) v v):(ja S w).cell? a=some v:=by
 unfold World.cell? at h⊢;split at h
 .rename_i c e fz hx;rw[xg hx];simp only;split at h
  .cases h
  .rename_i kJ;rw[zAH kJ,zCM,h];simp only[zBJ,zAA];exact(Ep hJ _ rfl v).2 hv
 .cases h
end
end Go.aC
