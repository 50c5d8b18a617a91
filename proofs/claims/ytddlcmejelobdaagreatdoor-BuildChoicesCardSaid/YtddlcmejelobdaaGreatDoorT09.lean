/- A part. Conditions: none. -/
import Derived.Test.YtddlcmejelobdaaGreatDoorT08
import Derived.ChangeMade
set_option linter.all false
noncomputable section
namespace Go.aD
open Go.Made
variable {P:un} {i:TypeInfo} {info:a00->Option TypeInfo} {v:fu}
def flat (v:fu):Prop:=∀x∈v.cells,plain 5 x=true
def FI:∀(n:Nat) (v:fu),plain n v=true->plain (n+1) v=true:=by
 intro n;induction n with
 |zero=>
  intro v h;cases v;case pointer a=>cases a<;>first|rfl|(simp[aD.plain]at h;done)
  case slice a l c=>cases a<;>first|rfl|(simp[aD.plain]at h;done)
  case map a=>cases a<;>first|rfl|(simp[aD.plain]at h;done)
  case chan a=>cases a<;>first|rfl|(simp[aD.plain]at h;done)
  all_goals first|rfl|(simp[aD.plain]at h;done)
 |succ n ih=>
  intro v h;cases v;case pointer a=>cases a<;>first|rfl|(simp[aD.plain]at h;done)
  case slice a l c=>cases a<;>first|rfl|(simp[aD.plain]at h;done)
  case map a=>cases a<;>first|rfl|(simp[aD.plain]at h;done)
  case chan a=>cases a<;>first|rfl|(simp[aD.plain]at h;done)
  case iface t v=>exact ih v h
  case agg xs=>
   have h:=h;show xs.all (aD.plain (n+1))=true;exact zBP.2 λi hi=>ih _ (zBP.1 h i hi)
  case tuple xs=>
   have h:=h;show xs.all (aD.plain (n+1))=true;exact zBP.2 λi hi=>ih _ (zBP.1 h i hi)
  all_goals first|rfl|(simp[aD.plain]at h;done)
def vF {n m:Nat} (PS:n<=m) (h:plain n v=true):plain m v=true:=by
 induction PS with
 |refl=>exact h
 |step _ ih=>exact FI _ _ ih
def flat.plain (h:flat v):plain 50 v=true:=by
 unfold flat at h;cases v with
 |agg xs=>
  show xs.all (aD.plain 49)=true;exact zBP.2 λi hi=>vF (by omega) (h _ (zEL hi))
 |_=>exact vF (by omega) (h _ (by simp[Value.cells]))
def JR {α β:Type} (f:α->β->Option (ForInStep β)) (I:β->Prop) (hf:∀a b r,I b->f a b=some r->I (match r with|.yield b=>b|.done b=>b)):∀(l:List α) (b r:β),I b->forIn l b f=some r->I r:=by
 intro l;induction l with
 |nil=>intro b r hb h;simp only[List.forIn_nil,pure,zAB]at h;exact h▸hb
 |cons a l ih=>
  intro b r hb h;simp only[zGB,bind,zBH]at h;obtain⟨s,hs,h⟩:=h;have:=hf a b s hb hs;cases s with
  |done b'=>simp only[pure,zAB]at h;exact h▸this
  |yield b'=>exact ih b' r this h
def MM (info:a00->Option TypeInfo):Prop:=∀t i v,info t=some i->i.zero=some v->flat v
def qT (hi:MM info) {fs:Array Field} (h:reckonStruct info fs=some i) (hv:i.zero=some v):flat v:=by
 unfold reckonStruct at h;simp only[bind,zBH,pure]at h;obtain⟨a,ha,h⟩:=h;rw[<-zED]at ha;have key:=JR _ (λs:Array Field×Nat×Nat×Nat×Nat×Bool×Bool×Option (Array fu)×String=>∀z,s.2.2.2.2.2.2.2.1=some z->∀x∈z,aD.plain 5 x=true) ?_ _ _ _ ?_ ha
 .split at h
  all_goals
   simp only[zAB]at h;subst h;simp only[zEC]at hv;obtain⟨z,hz,rfl⟩:=hv;exact key z hz
 .intro f b r hb hr;simp only[zBH]at hr;obtain⟨j,hj,hr⟩:=hr
  have fin:∀z,(b.2.2.2.2.2.2.2.1.bind λz0=>j.zero.bind λz1=>some (z0++z1.cells))=some z->∀x∈z,aD.plain 5 x=true:=by
   intro z hz;simp only[zBH,zAB]at hz;obtain⟨z0,h0,z1,h1,rfl⟩:=hz;intro x hx;rcases zEA.1 hx with hx|hx
   .exact hb z0 h0 x hx
   .exact hi _ _ _ hj h1 x hx
  repeat' split at hr
  all_goals(try(simp only[Option.bind_none,reduceCtorEq]at hr;done))
  all_goals(try simp only[zBH]at hr)
  all_goals(obtain⟨_,_,hr⟩:=hr;simp only[zAB]at hr;subst hr;intro z hz;first|(cases hz;done)|exact fin z hz)
 .intro z hz;simp only[zAB]at hz;subst hz;simp
def CA (hi:MM info) {d:TypeDesc} (h:reckon info d=some i) (hv:i.zero=some v):flat v:=by
 have one:∀u:fu,aD.plain 0 u=true->flat u:=λu hu x hx=>by
  cases u<;>first|(simp only[Value.cells,zFX,zBU]at hx;subst hx;exact vF (zAJ _) hu)|(cases hu;done)
 cases d with
 |struct fs=>exact qT hi h hv
 |array n e=>
  simp only[reckon,bind,zBH,pure,zAB]at h;obtain⟨j,hj,s,_,rfl⟩:=h;simp only at hv;split at hv
  .cases hv
  .split at hv
   .simp only[zAB]at hv;subst hv;intro x hx;simp[Value.cells]at hx
   .simp only[zEC]at hv;obtain⟨z,hz,rfl⟩:=hv;intro x hx;simp only[Value.cells,Array.mem_flatten,Array.mem_replicate]at hx;obtain⟨y,⟨_,rfl⟩,hx⟩:=hx;exact hi _ _ _ hj hz x hx
 |pointer e=>
  simp only[reckon,bind,zBH,pure]at h;obtain⟨j,hj,h⟩:=h;repeat' split at h
  all_goals(try(cases h;done))
  all_goals(simp only[zBH,zAB]at h;obtain⟨_,_,rfl⟩:=h;simp only[word,zAB]at hv;subst hv;exact one _ rfl)
 |_=>
  first
  |(simp only[reckon,reduceCtorEq]at h;done)
  |(simp only[reckon,bind,zBH,pure,zAB]at h;obtain⟨_,_,_,_,rfl⟩:=h;simp only[word,zAB]at hv;subst hv;exact one _ rfl)
  |(simp only[reckon,bind,zBH,pure,zAB]at h;obtain⟨_,_,_,_,_,_,_,_,rfl⟩:=h;simp only[word,zAB]at hv;subst hv;exact one _ rfl)
  |(simp only[reckon,bind,zBH,pure,zAB]at h;obtain⟨_,_,rfl⟩:=h;simp only[word,zAB]at hv;subst hv;exact one _ rfl)
def yB (T:Tables):Bool:=T.types.all λi=>match i.zero with|some v=>v.cells.all (aD.plain 5)|none=>true
def CB {T:Tables} (h:yB T=true):∀f,MM (infoAt T f):=by
 have low:∀(t:Nat) (i:TypeInfo) (v:fu),T.types[t]?=some i->i.zero=some v->flat v:=by
  intro t i v ht hv;obtain⟨au,he⟩:=zAC.1 ht;have:=zBP.1 h t au;rw[he]at this;simp only[hv]at this;intro x hx;obtain⟨k,hk,rfl⟩:=zCJ.1 hx;exact zBP.1 this k hk
 intro f;induction f with
 |zero=>intro t i v ht;cases ht
 |succ f ih=>
  intro t i v ht hv;unfold infoAt at ht;split at ht
  .exact low t i v ht hv
  .simp only[zBH]at ht;obtain⟨d,_,ht⟩:=ht;exact CA ih ht hv
def MN (h:yB P.toTables=true):bC P:=by
 intro t i v ht hv;have ht:=ht
 have:infoAt P.toTables depth t=some i:=by
  unfold Tables.info? at ht;split at ht
  .unfold depth infoAt;rw[zAE (by assumption)];exact ht
  .exact ht
 exact(CB h depth t i v this hv).plain
def FJ (T:Tables):Bool:=T.types.all fun i=>match i.desc with|.named n _=>!(n== "sync.copyChecker")|_=>true
def FK (h:FJ P.toTables=true):aN P:=by
 intro t i u ht hd;have ht:=ht;by_cases au:t<P.types.size
 .unfold Tables.info? at ht;rw[zAE au]at ht;obtain⟨au,he⟩:=zAC.1 ht;have:=zBP.1 h t au;rw[he,hd]at this;simp at this
 .have:=Tables.info?_beyond au ht;rw[hd]at this;cases this
end Go.aD
namespace Go.aD
open Go.Conc
variable {P:un} {d r t:Nat} {e:a00} {fz:Nat×Nat} {i:TypeInfo} {o:Oper} {ops:Array Oper} {u:fu} {w:nq}
def LS (m:Region.Mode) (ops:Array Oper) (listed:Array Bool):List Nat:=
 (List.range ops.size).filter λi=>!listed.getD i true&&((ops[i]?).map (·.after.all λe=>!Region.binds m e||listed.getD e.on false)).getD false
inductive Tx (m:Region.Mode) (ops:Array Oper):Nat->Array Bool->List Nat->Prop
 |stop {n:Nat} {listed:Array Bool} (h:n=0\/LS m ops listed=[]):Tx m ops n listed []
 |next {n i:Nat} {listed:Array Bool} {l:List Nat} (h:i∈LS m ops listed) (t:Tx m ops n (listed.setIfInBounds i true) l):Tx m ops (n+1) listed (i::l)
def VB (m:Region.Mode) (ops:Array Oper):∀(n t:Nat) (listed:Array Bool) (acc:List Nat),∃l,Region.linearise.go m ops n t listed acc=acc.reverse++l/\Tx m ops n listed l:=by
 intro n;induction n with
 |zero=>intro t listed acc;exact⟨[],by simp[Region.linearise.go],.stop (.inl rfl)⟩
 |succ n ih=>
  intro t listed acc;unfold Region.linearise.go;have e:((List.range ops.size).filter λi=>!listed.getD i true&&((ops[i]?).map (·.after.all λe=>!Region.binds m e||listed.getD e.on false)).getD false)=LS m ops listed:=rfl;simp only[e];cases hi:(LS m ops listed)[t%(LS m ops listed).length]? with
  |none=>
   refine⟨[],by simp,.stop (.inr ?_)⟩;cases hr:LS m ops listed with
   |nil=>rfl
   |cons a l=>
    rw[hr]at hi;have:t%(a::l).length<(a::l).length:=zGC _ (by simp);rw[zAI this]at hi;cases hi
  |some i=>
   obtain⟨l,h1,h2⟩:=ih (t/(LS m ops listed).length) (listed.setIfInBounds i true) (i::acc);exact⟨i::l,by simp only[];rw[h1];simp,.next (zAT hi) h2⟩
def FM (m:Region.Mode) (ops:Array Oper) (t:Nat):Tx m ops ops.size (Array.replicate ops.size false) (Region.linearise m ops t):=by
 obtain⟨l,h1,h2⟩:=VB m ops ops.size t (Array.replicate ops.size false) [];unfold Region.linearise;rw[h1];exact h2
def mg (m:Region.Mode) (ops:Array Oper):Nat->Array Bool->List (List Nat)
 |0,_=>[[]]
 |n+1,listed=>if(LS m ops listed).isEmpty then [[]]else(LS m ops listed).flatMap λi=>(mg m ops n (listed.setIfInBounds i true)).map (i::·)
def sX {m:Region.Mode} {n:Nat} {listed:Array Bool} {l:List Nat} (h:Tx m ops n listed l):l∈mg m ops n listed:=by
 induction h with
 | @stop n listed h=>
   cases n with
   |zero=>simp[mg]
   |succ n=>
    rcases h with h|h
    .omega
    .simp[mg,h]
 | @next n i listed l h _ ih=>
   simp only[mg];split
   .rename_i he;rw[List.isEmpty_iff]at he;rw[he]at h;cases h
   .simp only[zEO,zBY];exact⟨_,h,_,ih,rfl⟩
structure Il (P:un) (o:Oper) (d:Nat) (v:Nat->fu) (x:Obj):Prop where
 dst:o.dst=some d
 guard:o.guard=none
 run:∀(a:Act) (w:nq),(execOp a.eval o).run P w=.ok (.value (v w.heap.size)) (w.alloc x)
 ev:∀(a:Act) (w:nq),(execOp a.eval o).events P w #[]=#[]
structure Made (ops:Array Oper) (d:Nat->Nat) (v:Nat->Nat->fu) (x:Nat->Obj) (is:List Nat) (kn own:Nat->Prop) (tm:Array fu) (w:nq) (pos:Nat->Nat) (jg fB:Nat->Prop) (bV:Array fu) (w':nq):Prop where
 size:bV.size=tm.size
 slot:∀i∈is,d i<tm.size->bV.getD (d i) undef=v i (pos i)
 others:∀j,(∀i∈is,d i≠j)->bV.getD j undef=tm.getD j undef
 new:∀i∈is,w.heap.size<=pos i/\pos i<w'.heap.size
 inj:∀i∈is,∀j∈is,pos i=pos j->i=j
 heap:∀i∈is,w'.heap[pos i]?=some (x i)
 env:Env kn w w'
 knw:∀r,jg r↔kn r\/∃i∈is,r=pos i
 Qr:∀r,fB r↔own r\/∃i∈is,r=pos i
def am (a:Array fu) (i:Nat) (v u:fu) (h:i<a.size):(a.setIfInBounds i v).getD i u=v:=by
 rw[zBA,aV _ h];rfl
def getD_set_ne (a:Array fu) {i j:Nat} (v u:fu) (h:j≠i):(a.setIfInBounds i v).getD j u=a.getD j u:=by
 rw[zBA,zBA,aK _ h]
def Tree.makes {main:Bool} {K:pM} (T:Tree P main K) {b:Frame} {k:List Item} {cs:List Frame} {rest:List Nat} (hk:b.kind≠ .early) {d:Nat->Nat} {v:Nat->Nat->fu} {x:Nat->Obj}:
 ∀(is:List Nat),is.Nodup->(∀i∈is,∃o,ops[i]?=some o/\Il P o (d i) (v i) (x i))->(∀i∈is,∀j∈is,d i=d j->i=j)->∀(kn own:Nat->Prop) (tm:Array fu) (ds:List Deferred) (w:nq),(∀r,kn r->r<w.heap.size)->
  (∀pos jg fB bV w',Made ops d v x is kn own tm w pos jg fB bV w'->K jg fB (G (b.at ⟨bV,ds⟩ (.inRegion ops rest::k)) cs) w')->
  K kn own (G (b.at ⟨tm,ds⟩ (.inRegion ops (is++rest)::k)) cs) w:=by
 intro is;induction is with
 |nil=>
  intro _ _ _ kn own tm ds w _ h;exact h (λ_=>0) kn own tm w ⟨rfl,λi hi=>by simp at hi,λ_ _=>rfl,λi hi=>by simp at hi,λi hi=>by simp at hi,λi hi=>by simp at hi,Env.refl _ _,λr=>by simp,λr=>by simp⟩
 |cons i is ih=>
  intro JF cn Yd kn own tm ds w au h;obtain⟨o,ho,hm⟩:=cn i (by simp);rw[List.nodup_cons]at JF;refine T.op (i:=i) (rest:=is++rest) ho (by unfold Region.wanted;rw[hm.guard]) hk λw2 he=>⟨_,_,hm.run _ w2,by rw[hm.ev];exact Fair.alloc _,?_⟩
  rw[kq,kq];have hs:(w2.alloc (x i)).heap.size=w2.heap.size+1:=by show(w2.heap.push (x i)).size=_;simp
  have Z5:(w2.alloc (x i)).heap[w2.heap.size]?=some (x i):=by show(w2.heap.push (x i))[w2.heap.size]?=_;simp
  have hold:∀r,r<w2.heap.size->(w2.alloc (x i)).heap[r]?=w2.heap[r]?:=λr hr=>by
   show(w2.heap.push (x i))[r]?=_;simp[zBK,zEN hr]
  have Qs:Act.put ⟨tm,ds⟩ o.dst (v i w2.heap.size)=⟨tm.setIfInBounds (d i) (v i w2.heap.size),ds⟩:=by rw[hm.dst];rfl
  rw[Qs];refine ih JF.2 (λj hj=>cn j (by simp[hj])) (λa ha c hc=>Yd a (by simp[ha]) c (by simp[hc])) _ _ _ ds _ (λr hr=>?_) λpos jg fB bV w' hM=>?_
  .rw[hs];rcases hr with hr|hr
   .have:=zAZ (au r hr) he.1;omega
   .omega
  .have hpi:∀j∈is,w2.heap.size+1<=pos j:=λj hj=>by have:=(hM.new j hj).1;omega
   have bu:∀j∈is,j≠i:=λj hj e=>JF.1 (e▸hj);refine h (λj=>if j=i then w2.heap.size else pos j) jg fB bV w' ⟨?_,?_,?_,?_,?_,?_,?_,?_,?_⟩
   .rw[hM.size];simp
   .intro j hj hd;rcases zAQ.1 hj with rfl|hj
    .rw[zAE rfl,hM.others (d j) (λc hc e=>bu c hc (Yd c (by simp[hc]) j (by simp) e)),am _ _ _ _ hd]
    .rw[zAG (bu j hj)];exact hM.slot j hj (by simpa using hd)
   .intro j hj;rw[hM.others j (λc hc=>hj c (by simp[hc])),getD_set_ne _ _ _ (Ne.symm (hj i (by simp)))]
   .intro j hj;have Ty:=hM.env.1;rcases zAQ.1 hj with rfl|hj
    .rw[zAE rfl];have:=he.1;omega
    .rw[zAG (bu j hj)];have:=hM.new j hj;have:=he.1;omega
   .intro a ha c hc e;rcases zAQ.1 ha with ea|ha<;>rcases zAQ.1 hc with ec|hc
    .rw[ea,ec]
    .rw[ea,zAE rfl,zAG (bu c hc)]at e;have:=hpi c hc;omega
    .rw[ec,zAE rfl,zAG (bu a ha)]at e;have:=hpi a ha;omega
    .rw[zAG (bu a ha),zAG (bu c hc)]at e;exact hM.inj a ha c hc e
   .intro j hj;rcases zAQ.1 hj with rfl|hj
    .rw[zAE rfl,hM.env.2 _ (.inr rfl),Z5]
    .rw[zAG (bu j hj)];exact hM.heap j hj
   .refine⟨zAM he.1 (by have:=hM.env.1;omega),λr hr=>?_,hM.env.os.trans he.os,hM.env.out.trans he.out⟩;rw[hM.env.2 r (.inl hr),hold r (zAZ (au r hr) he.1),he.2 r hr]
   .intro r;rw[hM.knw r];constructor
    .rintro((h|h)|⟨j,hj,h⟩)
     .exact .inl h
     .exact .inr ⟨i,by simp,by rw[zAE rfl];exact h⟩
     .exact .inr ⟨j,by simp[hj],by rw[zAG (bu j hj)];exact h⟩
    .rintro(h|⟨j,hj,h⟩)
     .exact .inl (.inl h)
     .rcases zAQ.1 hj with rfl|hj
      .rw[zAE rfl]at h;exact .inl (.inr h)
      .rw[zAG (bu j hj)]at h;exact .inr ⟨j,hj,h⟩
   .intro r;rw[hM.Qr r];constructor
    .rintro((h|h)|⟨j,hj,h⟩)
     .exact .inl h
     .exact .inr ⟨i,by simp,by rw[zAE rfl];exact h⟩
     .exact .inr ⟨j,by simp[hj],by rw[zAG (bu j hj)];exact h⟩
    .rintro(h|⟨j,hj,h⟩)
     .exact .inl (.inl h)
     .rcases zAQ.1 hj with rfl|hj
      .rw[zAE rfl]at h;exact .inl (.inr h)
      .rw[zAG (bu j hj)]at h;exact .inr ⟨j,hj,h⟩
def vG {e:Nat} {dir:ChanDir} (ho:o.op=.makeChan t (.const (.int .i64 0))) (hd:o.dst=some d) (hg:o.guard=none) (ht:P.underlying t=some (.chan dir e)) (hi:P.info? e=some i):
 Il P o d (λr=>.chan (some r)) (.chan 0 #[] false 0 0 false):=by
 obtain⟨dst,op,ty,pos,af,gd⟩:=o;simp only at ho hd hg;subst ho;subst hd;subst hg;refine⟨rfl,rfl,λa w=>?_,λa w=>?_⟩
 .have:=run_makeChan (P:=P) (w:=w) ht hi .i64 0 (by decide) (by simp);show(Instr.makeChan t (.int .i64 0)>>=λv=>pure (Next.value v)).run P w=_;have this:(Instr.makeChan t (.int .i64 0)).run P w=.ok (.chan (some w.heap.size)) (w.alloc (.chan 0 #[] false 0 0 false)):=this;simp[this]
 .have h1:=run_makeChan (P:=P) (w:=w) ht hi .i64 0 (by decide) (by simp);have h2:=events_makeChan (P:=P) (w:=w) ht hi .i64 0 (by decide) (by simp) #[];have h1:(Instr.makeChan t (.int .i64 0)).run P w=.ok (.chan (some w.heap.size)) (w.alloc (.chan 0 #[] false 0 0 false)):=h1;have h2:(Instr.makeChan t (.int .i64 0)).events P w #[]=#[]:=h2;show(Instr.makeChan t (.int .i64 0)>>=λv=>pure (Next.value v)).events P w #[]=_;simp[h1,h2]
def kr {z:fu} (ho:o.op=.alloc t) (hd:o.dst=some d) (hg:o.guard=none) (hi:P.info? t=some i) (hz:i.zero=some z):
 Il P o d (λr=>.pointer (some ⟨r,0,none⟩)) (.cells z.cells t):=by
 obtain⟨dst,op,ty,pos,af,gd⟩:=o;simp only at ho hd hg;subst ho;subst hd;subst hg;have U7:∀w,(zeroValue t).run P w=.ok z w:=λw=>by simp[zeroValue,typeInfo,hi,hz]
 refine⟨rfl,rfl,λa w=>?_,λa w=>?_⟩
 .simp[execOp,Instr.alloc,U7,newVar,newRow]
 .simp[execOp,Instr.alloc,U7,newVar,newRow]
def gD (w:nq) (a:Addr) (v:fu) (h:r≠a.block):(w.setCell a v).heap[r]?=w.heap[r]?:=by
 simp[World.setCell,zBS,Ne.symm h]
def kv {v:fu} (h:w.heap[r]?=some (.cells #[u] e fz)):(w.setCell ⟨r,0,none⟩ v).heap[r]?=some (.cells #[v] e fz):=by
 simp[World.setCell,zBS,h]
def dP (h:w.heap[r]?=some (.cells #[u] e fz)):w.cell? ⟨r,0,none⟩=some u:=by simp[World.cell?,h]
def fC (h:w.heap[r]?=some (.cells #[u] e (0,0))):w.frozen? ⟨r,0,none⟩=false:=by simp[World.frozen?,h]
def i6 {kn:Nat->Prop} (a:Addr) (v:fu) (h:¬kn a.block):Env kn w (w.setCell a v):=
 ⟨by simp[World.setCell],λr hr=>gD w a v λe=>h (e▸hr),rfl,rfl⟩
end Go.aD
namespace Go.aD
open Go.Conc
open Go.ConcN (upd upd_same upd_ne sumTo)
variable {P:un} {kn own:Nat->Prop} {t:Trace} {w:nq}
structure oC (P:un) (gs:Array Goroutine) (g:Goroutine) (kn own:Nat->Prop) (w:nq) (t:Trace):Prop where
 at0:gs[0]?=some g
 run:g.status=.running
 quit:∃q,dm P gs q
 co:Co (λg=>g=0) (λ_=>kn) (λ_=>own) w.heap.size t
def Qt {At:pM} (zZ:∀kn own g w d,At kn own g (World.at w d)->At kn own g w) {g:Goroutine} (h:kY P At kn own g w):
 ∀gs w1 sl t,Env kn w w1->oC P gs g kn own w1 t->∃N jg fB g' w' fT iW t',runNT P N (crowd gs w1 sl) t=(.next (crowd fT w' iW),t')/\At jg fB g' w'/\oC P fT g' jg fB w' t':=by
 induction h with
 | @mk kn own g w ok go ih=>
   have key:∀n gs w1 sl t q,sumTo gs.size q=n->Env kn w w1->gs[0]?=some g->g.status=.running->dm P gs q->Co (λg=>g=0) (λ_=>kn) (λ_=>own) w1.heap.size t->
    ∃N jg fB g' w' fT iW t',runNT P N (crowd gs w1 sl) t=(.next (crowd fT w' iW),t')/\At jg fB g' w'/\oC P fT g' jg fB w' t':=by
    intro n;induction n using Nat.strongRecOn with
    |ind n ihn=>
     intro gs w1 sl t q hn he h0 hr hq nD;by_cases hA:At kn own g w1
     .exact⟨0,kn,own,g,w1,gs,sl,t,rfl,hA,h0,hr,⟨q,hq⟩,nD⟩
     have aw:∀x∈gs,Conc.awake x:=by
      intro x hx;obtain⟨j,hj,rfl⟩:=zCJ.1 hx;have BH:=zAK hj;rcases zCB j with rfl|gC
      .rw[h0]at BH;rw[<-zAW BH];exact awake_of (.inl hr)
      .exact awake_of ((hq j _ gC BH).status.imp id .inr)
     obtain⟨i,x,d,iW,hi,hx,cD⟩:=crowd_pick (P:=P) (w:=w1) (sl:=sl) aw ⟨0,_,h0,hr⟩;rcases zCB i with rfl|gC
     .obtain rfl:x=g:=by rw[h0]at hi;exact(zAW hi).symm
      have cB:0<gs.size:=(zAC.1 h0).1;have cL:¬At kn own x (w1.at d):=λh=>hA (zZ _ _ _ _ _ h);rcases ok (w1.at d) (he.trans (jL _ _ _))with h|⟨g2,w3,es,h1,h2,h3⟩
      .exact absurd h cL
      have bh:=runT_crowd_go (P:=P) (sl:=iW) (i:=0) h0 (show stepG P (0==0) x (w1.at d)=_ from h1);rw[hq.woken h0 hr]at bh
      obtain⟨N,jg,fB,g',w',fT,Qq,t',k1,k2,k3⟩:=ih (w1.at d) g2 w3 es (he.trans (jL _ _ _)) cL h1 (gs.setIfInBounds 0 g2) w3 iW (t++MemOp.ofEvents 0 x.frame.fn x.frame.place es) (Env.refl _ _)
       ⟨aV _ cB,h2,⟨q,λj y hj hy=>by rw[aK _ (by omega)]at hy;exact hq j y hj hy⟩,(nD.step (w:=w1.at d) (g:=0) rfl rfl h3 _ _).lone (upd_same ..) (upd_same ..)⟩
      exact⟨N+1,jg,fB,g',w',fT,Qq,t',by simp only[runNT,cD.trans bh];exact k1,k2,k3⟩
     .have BJ:=hq i x gC hi;have xg:(i==0)=false:=by simp;omega
      have au:i<gs.size:=(zAC.1 hi).1;cases hk:q i with
      |zero=>rw[hk]at BJ;rw[show x.status=.finished from BJ]at hx;cases hx
      |succ k=>
       rw[hk]at BJ;rcases BJ with hf|⟨_,g',hs,sN⟩
       .rw[hf]at hx;cases hx
       have bh:=runT_crowd_go (P:=P) (sl:=iW) hi (by rw[xg];exact hs (w1.at d));rw[hq.woken h0 hr]at bh;have e0:t++MemOp.ofEvents i x.frame.fn x.frame.place #[]=t:=by simp[MemOp.ofEvents]
       obtain⟨N,jg,fB,g2,w',fT,Qq,t',k1,k2,k3⟩:=ihn (sumTo gs.size (upd q i k)) (by
        rw[<-hn];refine me au ?_ λj hj=>upd_ne _ _ hj
        rw[upd_same,hk];omega) (gs.setIfInBounds i g') (w1.at d) iW t (upd q i k) (by simp) (he.trans (jL _ _ _)) (by rw[aK _ (by omega)];exact h0) hr (λj y hj hy=>by
         by_cases e:j=i
         .subst e;rw[aV _ au]at hy;rw[upd_same,<-zAW hy];exact sN
         .rw[aK _ e]at hy;rw[upd_ne _ _ e];exact hq j y hj hy) nD
       refine⟨N+1,jg,fB,g2,w',fT,Qq,t',?_,k2,k3⟩;have:=cD.trans bh;simp only[runNT,this];rw[e0];exact k1
   intro gs w1 sl t he ha;obtain⟨q,hq⟩:=ha.quit;exact key _ gs w1 sl t q rfl he ha.at0 ha.run hq ha.co
def Co.grow {jg fB:Nat->Prop} {B:Nat} (h:Co (λg=>g=0) (λ_=>kn) (λ_=>own) B t) (hk:∀r,jg r->r<B) (ho:∀r,fB r->jg r):Co (λg=>g=0) (λ_=>jg) (λ_=>fB) B t:=by
 have all:∀i a r,touchAt t i=some a->mQ a.loc r->Knows t 0 i:=λi a r hi hr=>by
  have hm:a.loc.isMemory=true:=by rcases hr with⟨x,e,_⟩|e<;>rw[e]<;>rfl
  rcases h.ho i a hi hm with h1|⟨g,h1,h2,_⟩
  .exact h1
  .exact absurd h2 h1
 exact⟨h.clean,h.calm,λ_ _=>ho,λ_ _=>hk,λg k hg BC bu=>absurd (hg.trans BC.symm) bu,λg hg i a r hi hr _ _=>hg▸all i a r hi hr,λg hg i a r hi hr _=>hg▸all i a r hi hr,h.ho,h.low⟩
def Inv.Qu {G:jK P} {b:Nat} {S:St} {gs:Array Goroutine} (h:Inv G b S gs w t) (ho:mS G S w):oC P gs S.mn.g S.mn.kn S.mn.own w t:=by
 obtain⟨h1,h2,h3,h4,_⟩:=h.ZX ho;exact⟨h1,h2,⟨S.q,h3⟩,h4⟩
end Go.aD
namespace Go.aD
variable {f lf:Frame} {p:Pi} {top:List Frame} {w:nq}
def Leaves (X:Nat->Prop) (HA:m6) (HP:eG):Prop:=
 (∀kn own f w,HA kn own f w->HA (λr=>kn r\/X r) own f w)/\
 ∀kn own f w v w3 fH bQ,HP (λr=>kn r\/X r) own f w v w3 fH bQ->∃kn4,HP kn own f w v w3 kn4 bQ/\fH=(λr=>kn4 r\/X r)/\Env X w w3/\∀r,bQ r->own r\/¬X r
def CT.keep {P:un} {main:Bool} {base:List Frame} {Fin:qO} {HA:m6} {HP:eG} (X:Nat->Prop) (hl:Leaves X HA HP) {kn own:Nat->Prop}
 (h:CT P main base Fin HA HP kn own f top w) (hX:∀r,X r->r<w.heap.size) (hd:∀r,own r->¬X r):
 CT P main base (λ_ own v w'=>(∃Pr,Fin Pr own v w')/\Env X w w') HA HP (λr=>kn r\/X r) own f top w:=by
 have key:=CT.ind (I:=λkn own f top w1=>(∀r,own r->¬X r)->Env X w w1->CT P main base (λ_ own v w'=>(∃Pr,Fin Pr own v w')/\Env X w w') HA HP (λr=>kn r\/X r) own f top w1) ?_ h
 .exact key hd (Env.refl _ _)
 intro kn own f top w1 hb Ic Fg
 have keep:∀{w2 w3:nq} {es:Array Event},Env (λr=>kn r\/X r) w1 w2->Fair kn own w2 w3 es->Env X w w3/\∀r,aJ own w2 w3 r->¬X r:=λ{w2 w3 es} he hf=>by
  have MK:=Fg.trans (he.mono λr h=>.inr h);have au:∀r,X r->r<w2.heap.size:=λr hr=>zAZ (hX r hr) MK.1;refine⟨MK.trans ⟨hf.size,λr hr=>hf.others r (au r hr) λho=>Ic r ho hr,hf.os,hf.out⟩,λr hr hx=>?_⟩;rcases hr with hr|hr
  .exact Ic r hr hx
  .have:=au r hx;have:=hr.1;omega
 refine CT.mk λw2 he=>?_;rcases hb w2 (he.mono λr h=>.inl h)with⟨w3,es,f2,qP,h1,h2,h3⟩|⟨w3,es,v,b',zL,h0,h1,h2,h3⟩|⟨w3,es,v,h0,h1,h2,h3⟩|⟨h1,c,rest,h2,h3⟩
 .refine .inl ⟨w3,es,f2,qP,h1,h2.mono (λr h=>.inl h) (λr h=>h),?_⟩;rw[lz];obtain⟨k1,k2⟩:=keep he h2;exact h3.1 k2 k1
 .exact .inr (.inl ⟨w3,es,v,b',zL,h0,h1,h2.mono (λr h=>.inl h) (λr h=>h),⟨_,h3⟩,(keep he h2).1⟩)
 .exact .inr (.inr (.inl ⟨w3,es,v,h0,h1,h2.mono (λr h=>.inl h) (λr h=>h),⟨_,h3⟩,(keep he h2).1⟩))
 .refine .inr (.inr (.inr ⟨hl.1 _ _ _ _ h1,c,rest,h2,λv w3 fH bQ hp=>?_⟩));obtain⟨kn4,q1,rfl,q3,q4⟩:=hl.2 _ _ _ _ _ _ _ _ hp;refine(h3 v w3 kn4 bQ q1).1 (λr hr=>?_) ((Fg.trans (he.mono λr h=>.inr h)).trans q3);rcases q4 r hr with x|x
  .exact Ic r x
  .exact x
structure TA (P:un) (F:Array Func) (S:Nat->Bool) (e:FuncId):Prop where
 marked:S (P.funcs.size+P.globals.size)=false
 lone:∀(lf:Frame) (cs:List Frame) (v:nq),ny S lf->lf.kind=.normal->∃n,1<=n/\runN P n (lone lf cs v)=.next (lone (lf.finish (.bool true)) cs v)
 comp:∀(main:Bool) (f:Frame) (cs:List Frame) (w:nq),ny S f->f.kind=.normal->stepG (ai P F) main (jx f cs) w=.go (jx (Frame.enter (ai P F) e #[] .normal) (f::cs)) w #[]
def EQ (Q:un) (e:FuncId):m6:=λ_ _ f _=>f=Frame.enter Q e #[] .normal
def z7:eG:=λkn own _ w v w3 fH bQ=>v=.bool true/\Env kn w w3/\fH=kn/\bQ=own
section
variable {P:un} {F:Array Func} {S:Nat->Bool} {N:Nat} {e:FuncId}
def ny.lone (h:mZ P S Pq p lf f) (hh:ny S f):ny S lf:=by
 obtain⟨hm,o,ops,i,is,k,h1,h2,h3,h4⟩:=hh;have kX:=h.mode;rw[hm]at kX;have bh:lf.mode=.run:=by generalize lf.mode=x at kX;cases kX;rfl
 have JH:=h.todo;rw[h1]at JH;generalize h5:lf.todo=t at JH;cases JH with
 |cons hi JH=>
  cases hi with
  |inRegion _ _=>
   refine⟨bh,o,ops,i,is,_,h5,h2,h3,?_⟩;rw[<-h4];congr 1;exact funext λj=>sS ops h.tmps j
section
variable (Q:un) (S:Nat->Bool) (N:Nat) (main:Bool) (base:List Frame) (Fin:qO) (HA:m6) (HP:eG)
def Nd.Qv (x:Nd) (w2 w3:nq):Prop:=Env (lp x.p) w2 w3/\¬CT Q main base Fin HA HP (lp x.p) (cJ N x.p) (x.f.finish (.bool true)) x.top w3
open Classical in
def Nd.Im (x:Nd):nq:=if h:∃w3,x.Qv Q N main base Fin HA HP (x.pick Q N main base Fin HA HP) w3 then h.choose else x.w
def Nd.FN (x:Nd) (h:∃w3,x.Qv Q N main base Fin HA HP (x.pick Q N main base Fin HA HP) w3):x.Qv Q N main base Fin HA HP (x.pick Q N main base Fin HA HP) (x.Im Q N main base Fin HA HP):=by
 unfold Nd.Im;rw[dif_pos h];exact h.choose_spec
open Classical in
def Nd.Z6 (x:Nd):Nd:=
 if ny S x.f then⟨x.p,x.L,x.f.finish (.bool true),x.top,x.Im Q N main base Fin HA HP⟩
 else match x.step Q main base (x.pick Q N main base Fin HA HP)with
 |.go g w3 _=>⟨ext x.p x.L (x.pick Q N main base Fin HA HP).heap.size (w3.heap.size-(x.pick Q N main base Fin HA HP).heap.size),x.L+(w3.heap.size-(x.pick Q N main base Fin HA HP).heap.size),
    g.frame,g.callers.take (g.callers.length-base.length),w3⟩
 |_=>x
def Nd.TB (x:Nd):Nat->Nd
 |0=>x
 |k+1=>(Nd.TB x k).Z6 Q S N main base Fin HA HP
open Classical in
def Nd.MO (x:Nd):Nat:=
 if ny S x.f then 0 else(gw (x.step Q main base (x.pick Q N main base Fin HA HP))).drawn-(x.pick Q N main base Fin HA HP).drawn
def Nd.MP (x:Nd) (i:Nat):Question->Nat:=(x.pick Q N main base Fin HA HP).tape ((x.pick Q N main base Fin HA HP).drawn+i)
end
def CD (hc:Closed P F S Pq) (hg:jJ P S p) {vu:List Frame} {lw:nq} (hw:WR P S (KS P S) N p lw w)
 (hf:FL P S Pq p (lf::vu) (f::top)) {R:fu->nq->Prop} (hl:TA P F S e) (JI:Bar P lf vu lw R λ_ _=>False) (main:Bool) (base:List Frame) (hb:Vc P S main base):
 CT (ai P F) main base (vv P S N p R) (EQ (ai P F) e) z7 (lp p) (cJ N p) f top w:=by
 refine zBF λhct=>?_;let Fin:=vv P S N p R
 let HA:=EQ (ai P F) e
 let x0:Nd:=⟨p,lw.heap.size,f,top,w⟩
 have BA:=hct;let X:=λk=>Nd.TB (ai P F) S N main base Fin HA z7 x0 k
 let pk:=λk=>(X k).pick (ai P F) N main base Fin HA z7
 let m:=λk=>(X k).MO (ai P F) S N main base Fin HA z7
 let D:=λk=>iG m lw.drawn k
 let start:=λT:Nat->Question->Nat=>Go.lone lf (vu++[Base P]) {lw with tape:=T}
 have inv:∀k (T:Nat->Question->Nat),(∀j,j<k->∀i,i<m j->T (D j+i)=(X j).MP (ai P F) N main base Fin HA z7 i)->∃ν g gs v,k<=ν/\runN P ν (start T)=.next (Go.lone g (gs++[Base P]) v)/\WR P S (KS P S) N (X k).p v (X k).w/\
  FL P S Pq (X k).p (g::gs) ((X k).f::(X k).top)/\jJ P S (X k).p/\v.tape=T/\v.drawn=D k/\v.heap.size=(X k).L/\(¬(X k).ct (ai P F) N main base Fin HA z7)/\Le p (X k).p:=by
  intro k;induction k with
  |zero=>intro T _;exact⟨0,lf,vu,{lw with tape:=T},zAA _,rfl,hw.tape T lw.drawn,hf,hg,rfl,rfl,rfl,BA,Le.refl p⟩
  |succ k ih=>
   intro T hT;obtain⟨ν,g,gs,v,e0,e1,e2,e3,e4,e5,e6,e7,e8,e9⟩:=ih T λj hj i hi=>hT j (by omega) i hi;obtain⟨zR,vr⟩:=(X k).yr (ai P F) N main base Fin HA z7 e8;have zS:=e2.env zR;obtain⟨n,fr,w1,c1,c2⟩:=JI T
   have pq:Ends P fr w1:=by
    rcases c2 with⟨rv,h,_⟩|⟨e,ch,h,_⟩
    .exact .inl ⟨rv,h⟩
    .exact .inr ⟨_,h⟩
   obtain⟨hle,sV⟩:=before c1 pq e1;by_cases m7:ny S (X k).f
   ·
    have xC:m k=0:=by show Nd.MO _ _ _ _ _ _ _ _ (X k)=_;unfold Nd.MO;rw[zAE m7]
    have JJ:∃w3,(X k).Qv (ai P F) N main base Fin HA z7 (pk k) w3:=by
     refine zBF λje=>vr (.inl ⟨pk k,#[],Frame.enter (ai P F) e #[] .normal,(X k).f::(X k).top,?_,Fair.refl (λe h=>by simp at h),?_⟩)
     .exact hl.comp main (X k).f ((X k).top++base) (pk k) m7 e3.head.mO
     .rw[aQ,aQ];refine CT.mk λw2 he=>.inr (.inr (.inr ⟨rfl,(X k).f,(X k).top,rfl,λv' w3 fH bQ hp=>?_⟩));obtain⟨rfl,CE,rfl,rfl⟩:=hp;exact zBF λhx=>je ⟨w3,he.trans CE,hx⟩
    obtain⟨Z7,Vj⟩:=(X k).FN (ai P F) N main base Fin HA z7 JJ;obtain⟨nn,p0,p1⟩:=hl.lone g (gs++[Base P]) v (ny.lone e3.head m7) e3.head.kind
    have EP:X (k+1)=⟨(X k).p,(X k).L,(X k).f.finish (.bool true),(X k).top,(X k).Im (ai P F) N main base Fin HA z7⟩:=by
     show(X k).Z6 (ai P F) S N main base Fin HA z7=_;unfold Nd.Z6;rw[zAE m7]
    rw[EP];refine⟨ν+nn,g.finish (.bool true),gs,v,by omega,by rw[runN_add,e1];exact p1,zS.env Z7,e3.top (e3.head.finish (.bool true) λ_=>(ny.U9 (ny.lone e3.head m7)).fits _) (eF _ _),e4,e5,?_,e7,Vj,e9⟩;rw[e6];show D k=iG m lw.drawn k+m k;rw[xC];rfl
   ·
    have xC:m k=(gw ((X k).step (ai P F) main base (pk k))).drawn-(pk k).drawn:=by show Nd.MO _ _ _ _ _ _ _ _ (X k)=_;unfold Nd.MO;rw[zAG m7]
    have Fr:mP (m k) v (pk k):=λj hj q=>by
     have:=hT k (by omega) j hj;rw[e5,e6,this];rfl
    have hd:(gw (stepG (ai P F) main {frame:=(X k).f,callers:=(X k).top++base,status:=.running,dying:=none} (pk k))).drawn<=(pk k).drawn+m k:=by
     rw[xC];show(gw ((X k).step (ai P F) main base (pk k))).drawn<=(pk k).drawn+((gw ((X k).step (ai P F) main base (pk k))).drawn-(pk k).drawn)
     omega
    have Vk:=dW.step (b:=Base P) (bs:=[]) (aU:=base) hc zS e4 e3 (λ_ _ _ _ _ _ _ h=>h) m7 true main hb Fr hd;rcases Vk with⟨o,w3,es,hs⟩|⟨q,ch,Yf,w3,es,Ib,hs⟩|⟨c,nn,v1,w3,es,dJ,hm,ZJ,lq⟩
    .exact(zQ sV pq (step_lone_ended (o:=o) (w':=w3) (by rw[hs];rfl))).elim
    .exfalso;have cu:=step_lone_go (by rw[hs];rfl);obtain⟨_,hσ⟩:=zP sV cu (gp P ch w3);rw[hσ]at cu;rcases c2 with⟨rv,h,_⟩|⟨e,Ie,h,hF,Yi⟩
     .rw[step_leave_returned h]at cu;simp only[Stepped.next.injEq]at cu;have q1:=(fX cu).1;rw[eB]at q1;have:=zBE (λf:Frame=>f.mode) q1;simp[Base,Frame.raise]at this
     .exact hF
    .obtain⟨vz,uz,uA⟩:=cY.fair zS hm ZJ;rcases lq with⟨f2,Qk,t2,Ql,Fq,hs,xe⟩|⟨ZK,Fs,hv,hs,xe⟩
     .have cu:=step_lone_go (by rw[hs];rfl);have oT:=vn P ν _ _ e1;rw[cu]at oT;have ng:(X k).step (ai P F) main base (pk k)=.go (jx Qk (Ql++base)) w3 dJ:=xe
      have EP:X (k+1)=⟨ext (X k).p (X k).L (pk k).heap.size c,(X k).L+c,Qk,Ql,w3⟩:=by
       show(X k).Z6 (ai P F) S N main base Fin HA z7=_;unfold Nd.Z6;rw[zAG m7];have If:(X k).step (ai P F) main base ((X k).pick (ai P F) N main base Fin HA z7)=.go (jx Qk (Ql++base)) w3 dJ:=xe;rw[If]
       have cB:w3.heap.size-((X k).pick (ai P F) N main base Fin HA z7).heap.size=c:=by
        have h6:=hm.nh;show w3.heap.size-(pk k).heap.size=c;rw[h6,zDG]
       simp only[cB];congr 1;rw[zAV,zFN];exact List.take_left
      rw[EP];have hrel:=hm.rel;rw[e7]at hrel Fq uz uA;have JL:=fS (X k).p (X k).L (pk k).heap.size c;refine⟨ν+1,f2,t2,v1,by omega,oT,hrel,Fq,e4.mono JL,hm.tape.trans e5,?_,by rw[hm.size,e7],?_,e9.trans JL⟩
      .rw[hm.drawn,e6]
       have:m k=nn:=by
        rw[xC,ng];have h5:=hm.ni;show w3.drawn-(pk k).drawn=nn;rw[h5,zDG]
       show D k+nn=iG m lw.drawn k+m k;rw[this]
      .intro Fu;refine vr (.inl ⟨w3,dJ,Qk,Ql,ng,vz,?_⟩);unfold Nd.ct at Fu;rw[uz,uA]at Fu;exact Fu
     .exfalso;have cu:=step_lone_go (by rw[hs];rfl);obtain⟨_,hσ⟩:=zP sV cu (iF P ZK v1);rw[hσ]at cu;rcases c2 with⟨rv,h,hR⟩|⟨e,Ie,h,hF,_⟩
      .rw[step_leave_returned h]at cu;simp only[Stepped.next.injEq]at cu;obtain⟨q1,_,q3⟩:=fX cu;rw[eB,eB]at q1
       have BF:rv=ZK:=by
        have:=zBE (λf:Frame=>f.tmps) q1;simpa using this
       subst BF;subst q3;have pK:Fin (aJ (lp (X k).p) (pk k) w3) (aJ (cJ N (X k).p) (pk k) w3) Fs w3:=⟨_,rv,w1,hR,hv,hm.rel,e9.trans (fS _ _ _ _),uz.symm,uA.symm⟩
       rcases xe with⟨b',zL,ls,xe⟩|⟨ls,xe⟩
       .exact vr (.inr (.inl ⟨w3,dJ,Fs,b',zL,ls,xe,vz,pK⟩))
       .exact vr (.inr (.inr (.inl ⟨w3,dJ,Fs,ls,xe,vz,pK⟩)))
      .exact hF
 obtain⟨T,hT⟩:=splice m (λk j=>(X k).MP (ai P F) N main base Fin HA z7 j) lw.drawn;obtain⟨n,fr,w1,c1,c2⟩:=JI T
 have pq:Ends P fr w1:=by
  rcases c2 with⟨rv,h,_⟩|⟨e,ch,h,_⟩
  .exact .inl ⟨rv,h⟩
  .exact .inr ⟨_,h⟩
 obtain⟨ν,g,gs,v,e0,e1,_⟩:=inv (n+1) T λj _ i hi=>hT j i hi;obtain⟨hle,_⟩:=before c1 pq e1;omega
end
end Go.aD
namespace Go.aD
open Go.Conc
open Go.ConcN (upd upd_same upd_ne sumTo sumTo_upd sumTo_congr le_sumTo sumTo_le)
variable {b:Frame} {bs:List Frame} {m m':Machine} {t:Trace}
def qU (P:un) (b:Frame) (bs:List Frame) (Fin:qO) (m:Machine) (t:Trace):Prop:=
 ∃N v w3 fH bQ fT iW t' q',runNT P N m t=(.next (crowd fT w3 iW),t')/\Fin fH bQ v w3/\fT[0]?=some (jx (b.finish v) bs)/\dm P fT q'/\Co (λg=>g=0) (λ_=>fH) (λ_=>bQ) w3.heap.size t'
def qU.step {P:un} {Fin:qO} {ops:Array MemOp} (h:stepT P m=(.next m',ops)) (k:qU P b bs Fin m' (t++ops)):qU P b bs Fin m t:=by
 obtain⟨N,v,w3,fH,bQ,fT,iW,t',q',h1,h2⟩:=k;exact⟨N+1,v,w3,fH,bQ,fT,iW,t',q',by simp only[runNT,h];exact h1,h2⟩
def qU.steps {P:un} {Fin:qO} {t':Trace} {N:Nat} (h:runNT P N m t=(.next m',t')) (k:qU P b bs Fin m' t'):qU P b bs Fin m t:=by
 obtain⟨M,v,w3,fH,bQ,fT,iW,t',q',h1,h2⟩:=k;exact⟨N+M,v,w3,fH,bQ,fT,iW,t',q',by rw[runNT_add,h];exact h1,h2⟩
section
variable {P:un} {Fin:qO} {HA:m6} {HP:eG} {b0:Frame} {FO:List Frame}
def FP (FG:zX P HA HP) (zZ:∀kn own f w d,HA kn own f (World.at w d)->HA kn own f w) (ZY:∀kn own f w d v w3 fH bQ,HP kn own f w v w3 fH bQ->HP kn own f (World.at w d) v w3 fH bQ)
 {kn own:Nat->Prop} {f:Frame} {top:List Frame} {w:nq} (h:CT P true (b0::FO) Fin HA HP kn own f top w):
 ∀gs w1 sl t q,Env kn w w1->gs[0]?=some (jx f (top++b0::FO))->dm P gs q->Co (λg=>g=0) (λ_=>kn) (λ_=>own) w1.heap.size t->qU P b0 FO Fin (crowd gs w1 sl) t:=by
 refine CT.ind (I:=λkn own f top w=>∀gs w1 sl t q,Env kn w w1->gs[0]?=some (jx f (top++b0::FO))->dm P gs q->Co (λg=>g=0) (λ_=>kn) (λ_=>own) w1.heap.size t->qU P b0 FO Fin (crowd gs w1 sl) t) ?_ h;intro kn own f top w ly
 have key:∀n gs w1 sl t q,sumTo gs.size q=n->Env kn w w1->gs[0]?=some (jx f (top++b0::FO))->dm P gs q->Co (λg=>g=0) (λ_=>kn) (λ_=>own) w1.heap.size t->qU P b0 FO Fin (crowd gs w1 sl) t:=by
  intro n;induction n using Nat.strongRecOn with
  |ind n ih=>
   intro gs w1 sl t q hn he h0 hq nD
   have pay:HA kn own f w1->∀c rest,top=c::rest->(∀v w3 fH bQ,HP kn own f w1 v w3 fH bQ->(∀gs w1 sl t q,Env fH w3 w1->gs[0]?=some (jx (c.finish v) (rest++b0::FO))->dm P gs q->Co (λg=>g=0) (λ_=>fH) (λ_=>bQ) w1.heap.size t->qU P b0 FO Fin (crowd gs w1 sl) t))->qU P b0 FO Fin (crowd gs w1 sl) t:=by
    intro hA c rest t6 hc;subst t6;obtain⟨N,v,w3,fH,bQ,fT,iW,t',q',p1,p2,p3,p4,p5⟩:=FG kn own f c (rest++b0::FO) w1 gs sl t q h0 hq nD hA;exact(hc v w3 fH bQ p2 fT w3 iW t' q' (Env.refl _ _) p3 p4 p5).steps p1
   have aw:∀g∈gs,Conc.awake g:=by
    intro g hg;obtain⟨j,hj,rfl⟩:=zCJ.1 hg;have BH:=zAK hj;rcases zCB j with rfl|gC
    .rw[h0]at BH;rw[<-zAW BH];exact awake_of (.inl rfl)
    .exact awake_of ((hq j _ gC BH).status.imp id .inr)
   obtain⟨i,g,d,iW,hi,hg,cD⟩:=crowd_pick (P:=P) (w:=w1) (sl:=sl) aw ⟨0,_,h0,rfl⟩;rcases zCB i with rfl|gC
   .obtain rfl:g=jx f (top++b0::FO):=by rw[h0]at hi;exact(zAW hi).symm
    have cB:0<gs.size:=(zAC.1 h0).1;rcases ly (w1.at d) (he.trans (jL _ _ _))with⟨w3,es,f2,qP,h1,h2,h3⟩|⟨w3,es,v,b,bs,Cf,h1,h2,h3⟩|⟨w3,es,v,Cf,h1,h2,h3⟩|⟨h1,c,rest,t6,h2⟩
    .have bh:=runT_crowd_go (P:=P) (sl:=iW) (i:=0) h0 (show stepG P (0==0) (jx f (top++b0::FO)) (w1.at d)=_ from h1);rw[hq.woken h0 rfl]at bh;refine qU.step (cD.trans bh) (h3.1 _ w3 iW _ q (Env.refl _ _) (aV _ cB) (λj x hj hx=>?_) ?_)
     .rw[aK _ (by omega)]at hx;exact hq j x hj hx
     .exact(nD.step (w:=w1.at d) (g:=0) rfl rfl h2 _ _).lone (upd_same ..) (upd_same ..)
    .obtain⟨rfl,rfl⟩:b0=b/\FO=bs:=by simpa using Cf
     have bh:=runT_crowd_go (P:=P) (sl:=iW) (i:=0) h0 (show stepG P (0==0) (jx f (top++b0::FO)) (w1.at d)=_ from h1);rw[hq.woken h0 rfl]at bh;refine qU.step (cD.trans bh) ⟨0,v,w3,_,_,_,iW,_,q,rfl,h3,aV _ cB,λj x hj hx=>?_,(nD.step (w:=w1.at d) (g:=0) rfl rfl h2 _ _).lone (upd_same ..) (upd_same ..)⟩;rw[aK _ (by omega)]at hx;exact hq j x hj hx
    .cases Cf
    .exact pay (zZ _ _ _ _ _ h1) c rest t6 λv w3 fH bQ hp=>(h2 v w3 fH bQ (ZY _ _ _ _ _ _ _ _ _ hp)).1
   .have BJ:=hq i g gC hi;have xg:(i==0)=false:=by simp;omega
    have au:i<gs.size:=(zAC.1 hi).1;cases hk:q i with
    |zero=>rw[hk]at BJ;rw[show g.status=.finished from BJ]at hg;cases hg
    |succ k=>
     rw[hk]at BJ;rcases BJ with hf|⟨_,g',hs,sN⟩
     .rw[hf]at hg;cases hg
     have bh:=runT_crowd_go (P:=P) (sl:=iW) hi (by rw[xg];exact hs (w1.at d));rw[hq.woken h0 rfl]at bh;have e0:t++MemOp.ofEvents i g.frame.fn g.frame.place #[]=t:=by simp[MemOp.ofEvents]
     refine qU.step (cD.trans bh) ?_;rw[e0];refine ih (sumTo gs.size (upd q i k)) ?_ _ (w1.at d) iW t (upd q i k) (by simp) (he.trans (jL _ _ _)) ?_ (λj x hj hx=>?_) nD
     .rw[<-hn];refine me au ?_ λj hj=>upd_ne _ _ hj;rw[upd_same,hk];omega
     .rw[aK _ (by omega)];exact h0
     .by_cases e:j=i
      .subst e;rw[aV _ au]at hx;rw[upd_same,<-zAW hx];exact sN
      .rw[aK _ e]at hx;rw[upd_ne _ _ e];exact hq j x hj hx
 intro gs w1 sl t q he h0 hq nD;exact key _ gs w1 sl t q rfl he h0 hq nD
end
end Go.aD
namespace Go.aD
def CT.Z8 {P:un} {main:Bool} {base:List Frame} {Fin:qO} {e:FuncId} (X:Nat->Prop) {kn own:Nat->Prop} {f:Frame} {top:List Frame} {w:nq}
 (h:CT P main base Fin (EQ P e) z7 kn own f top w) (hX:∀r,X r->r<w.heap.size) (hd:∀r,own r->¬X r):
 CT P main base (λ_ own v w'=>(∃Pr,Fin Pr own v w')/\Env X w w') (λkn own f w1=>EQ P e kn own f w1/\(∀r,X r->kn r)/\Env X w w1) z7 (λr=>kn r\/X r) own f top w:=by
 have key:=CT.ind (I:=λkn own f top w1=>(∀r,own r->¬X r)->Env X w w1->CT P main base (λ_ own v w'=>(∃Pr,Fin Pr own v w')/\Env X w w') (λkn own f w1=>EQ P e kn own f w1/\(∀r,X r->kn r)/\Env X w w1) z7 (λr=>kn r\/X r) own f top w1) ?_ h
 .exact key hd (Env.refl _ _)
 intro kn own f top w1 hb Ic Fg
 have keep:∀{w2 w3:nq} {es:Array Event},Env (λr=>kn r\/X r) w1 w2->Fair kn own w2 w3 es->Env X w w3/\∀r,aJ own w2 w3 r->¬X r:=λ{w2 w3 es} he hf=>by
  have MK:=Fg.trans (he.mono λr h=>.inr h);have au:∀r,X r->r<w2.heap.size:=λr hr=>zAZ (hX r hr) MK.1;refine⟨MK.trans ⟨hf.size,λr hr=>hf.others r (au r hr) λho=>Ic r ho hr,hf.os,hf.out⟩,λr hr hx=>?_⟩;rcases hr with hr|hr
  .exact Ic r hr hx
  .have:=au r hx;have:=hr.1;omega
 refine CT.mk λw2 he=>?_;rcases hb w2 (he.mono λr h=>.inl h)with⟨w3,es,f2,qP,h1,h2,h3⟩|⟨w3,es,v,b',zL,h0,h1,h2,h3⟩|⟨w3,es,v,h0,h1,h2,h3⟩|⟨h1,c,rest,h2,h3⟩
 .refine .inl ⟨w3,es,f2,qP,h1,h2.mono (λr h=>.inl h) (λr h=>h),?_⟩;rw[lz];obtain⟨k1,k2⟩:=keep he h2;exact h3.1 k2 k1
 .exact .inr (.inl ⟨w3,es,v,b',zL,h0,h1,h2.mono (λr h=>.inl h) (λr h=>h),⟨_,h3⟩,(keep he h2).1⟩)
 .exact .inr (.inr (.inl ⟨w3,es,v,h0,h1,h2.mono (λr h=>.inl h) (λr h=>h),⟨_,h3⟩,(keep he h2).1⟩))
 .have MK:=Fg.trans (he.mono λr h=>.inr h);refine .inr (.inr (.inr ⟨⟨h1,λr hr=>.inr hr,MK⟩,c,rest,h2,λv w3 fH bQ hp=>?_⟩));obtain⟨rfl,q2,rfl,rfl⟩:=hp;exact(h3 (.bool true) w3 kn bQ ⟨rfl,q2.mono λr h=>.inl h,rfl,rfl⟩).1 Ic (MK.trans (q2.mono λr h=>.inr h))
def rowsOf (w:nq):Pi:=⟨λr r'=>r=r'/\∃c e fz,w.heap[r]?=some (.cells c e fz),λ_ _=>False,false⟩
open Classical in
def Qw {S:Nat->Bool} (hJ:S JK=true) (p:Pi) (hl:p.l=false):∀(n:Nat) (v':fu),SizeOf.sizeOf v'<n->∃v,VR S p v v'/\(VR S p v' v'->v=v'):=by
 intro n;induction n with
 |zero=>intro v' h;omega
 |succ n ih=>
  intro v' hn;by_cases hs:VR S p v' v'
  .exact⟨v',hs,λ_=>rfl⟩
  have cn:∀xs:Array fu,SizeOf.sizeOf xs<n->∃ys:Array fu,AR S p ys xs:=by
   intro xs hx
   have hm:∀x∈xs,∃v,VR S p v x:=λx hxm=>by
    have:=Array.sizeOf_lt_of_mem hxm;obtain⟨v,h,_⟩:=ih x (by omega);exact⟨v,h⟩
   let g:fu->fu:=λx=>if h:∃v,VR S p v x then h.choose else x
   refine⟨xs.map g,by simp,λi a b ha hb=>?_⟩;rw[zCP,hb]at ha;simp only[zBJ,zAB]at ha;subst ha;have h:=hm b (zDN hb);show VR S p (if h:∃v,VR S p v b then h.choose else b) b;rw[dif_pos h];exact h.choose_spec
  cases hj:S7 v' with
  |true=>exact⟨.tuple #[],.rV hl hJ hj,λh=>absurd h hs⟩
  |false=>
   cases v' with
   |bool b=>exact absurd (.bool b) hs
   |int k n=>exact absurd (.int k n) hs
   |string s=>exact absurd (.string s) hs
   |chan c=>exact absurd (.chan c) hs
   |nilFunc=>exact absurd .nilFunc hs
   |nilIface=>exact absurd .nilIface hs
   |pointer a=>cases a with
    |none=>exact absurd .xt hs
    |some a=>cases hj
   |slice a l c=>cases a with
    |none=>exact absurd (.dH l c) hs
    |some a=>cases hj
   |map a=>cases a with
    |none=>exact absurd .xu hs
    |some a=>cases hj
   |func f xs ys=>cases f with
    |method n=>exact⟨MF,.E6 hl hJ n xs ys,λh=>absurd h hs⟩
    |_=>cases hj
   |agg xs=>
    obtain⟨ys,hy⟩:=cn xs (by simp only[Value.agg.sizeOf_spec]at hn;omega);exact⟨_,hy.agg,λh=>absurd h hs⟩
   |tuple xs=>
    obtain⟨ys,hy⟩:=cn xs (by simp only[Value.tuple.sizeOf_spec]at hn;omega);exact⟨_,hy.tuple,λh=>absurd h hs⟩
   |_=>cases hj
open Classical in
def dz (S:Nat->Bool) (p:Pi) (v':fu):fu:=if h:∃v,VR S p v v'/\(VR S p v' v'->v=v')then h.choose else v'
def In {S:Nat->Bool} (hJ:S JK=true) (p:Pi) (hl:p.l=false) (v':fu):VR S p (dz S p v') v'/\(VR S p v' v'->dz S p v'=v'):=by
 have h:=Qw hJ p hl (SizeOf.sizeOf v'+1) v' (by omega);unfold dz;rw[dif_pos h];exact h.choose_spec
def zeS (S:Nat->Bool) (p:Pi):Obj->Obj
 |.cells c e _=>.cells (c.map (dz S p)) e (0,c.size)
 |o=>o
def kz (S:Nat->Bool) (w:nq):nq:={w with heap:=w.heap.map (zeS S (rowsOf w))}
section
variable {P:un} {S:Nat->Bool} {w:nq}
def CF:(kz S w).heap.size=w.heap.size:=by show(w.heap.map _).size=_;simp
def z8 {r:Nat} {c:Array fu} {e:a00} {fz:Nat×Nat} (h:w.heap[r]?=some (.cells c e fz)):(kz S w).heap[r]?=some (.cells (c.map (dz S (rowsOf w))) e (0,c.size)):=by
 show(w.heap.map _)[r]?=_;rw[zCP,h];rfl
def VC (hJ:S JK=true) (hg:P.globals.size<=w.heap.size):WR P S (KS P S) w.heap.size (rowsOf w) (kz S w) w:=by
 refine⟨λr r' s s' x y=>by rw[<-x.1,<-y.1],λr r' x=>?_,by rw[CF];exact zAA _,λr r' x=>by rw[x.1],by rw[CF];exact hg,hg,rfl,λ_ _ h=>h⟩;obtain⟨rfl,c,e,fz,h⟩:=x;refine⟨_,_,z8 h,h,.inl ⟨(zAC.1 h).1,c.map (dz S (rowsOf w)),c,e,fz,by simp,rfl,by simp,λi a b ha hb=>?_⟩⟩;rw[zCP,hb]at ha;simp only[zBJ,zAB]at ha;subst ha;exact(In hJ _ rfl b).1
def nE (hJ:S JK=true) {a:Addr} {v:fu} (h:w.cell? a=some v) (hv:VR S (rowsOf w) v v):(kz S w).cell? a=some v:=by
 unfold World.cell? at h⊢;split at h
 .rename_i c e fz hx;rw[z8 hx];simp only;split at h
  .cases h
  .rename_i oR;rw[zAG oR,zCP,h];simp only[zBJ,zAB];exact(In hJ _ rfl v).2 hv
 .cases h
end
end Go.aD
end
