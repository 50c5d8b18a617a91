/- A part. Conditions: none. -/
import Derived.Test.YtddlcmejelobdaaGreatDoorT06
import Derived.ChangeMade
set_option linter.all false
noncomputable section
namespace Go.aC
open Go.Made
variable {P:un} {i:TypeInfo} {info:a00->Option TypeInfo} {v:fu}
def flat (v:fu):Prop:=∀x∈v.cells,plain 5 x=true
def Fd:∀(n:Nat) (v:fu),plain n v=true->plain (n+1) v=true:=by
 intro n;induction n with
 |zero=>
  intro v h;cases v;case pointer a=>cases a<;>first|rfl|(simp[aC.plain]at h;done)
  case slice a l c=>cases a<;>first|rfl|(simp[aC.plain]at h;done)
  case map a=>cases a<;>first|rfl|(simp[aC.plain]at h;done)
  case chan a=>cases a<;>first|rfl|(simp[aC.plain]at h;done)
  all_goals first|rfl|(simp[aC.plain]at h;done)
 |succ n ih=>
  intro v h;cases v;case pointer a=>cases a<;>first|rfl|(simp[aC.plain]at h;done)
  case slice a l c=>cases a<;>first|rfl|(simp[aC.plain]at h;done)
  case map a=>cases a<;>first|rfl|(simp[aC.plain]at h;done)
  case chan a=>cases a<;>first|rfl|(simp[aC.plain]at h;done)
  case iface t v=>exact ih v h
  case agg xs=>
   have h:xs.all (aC.plain n)=true:=h;show xs.all (aC.plain (n+1))=true;exact zBQ.2 λi hi=>ih _ (zBQ.1 h i hi)
  case tuple xs=>
   have h:xs.all (aC.plain n)=true:=h;show xs.all (aC.plain (n+1))=true;exact zBQ.2 λi hi=>ih _ (zBQ.1 h i hi)
  all_goals first|rfl|(simp[aC.plain]at h;done)
def uH {n m:Nat} (OQ:n<=m) (h:plain n v=true):plain m v=true:=by
 induction OQ with
 |refl=>exact h
 |step _ ih=>exact Fd _ _ ih
def flat.plain (h:flat v):plain 50 v=true:=by
 unfold flat at h;cases v with
 |agg xs=>
  show xs.all (aC.plain 49)=true;exact zBQ.2 λi hi=>uH (by omega) (h _ (zEL hi))
 |_=>exact uH (by omega) (h _ (by simp[Value.cells]))
def Ju {α β:Type} (f:α->β->Option (ForInStep β)) (I:β->Prop) (hf:∀a b r,I b->f a b=some r->I (match r with|.yield b=>b|.done b=>b)):∀(l:List α) (b r:β),I b->forIn l b f=some r->I r:=by
 intro l;induction l with
 |nil=>intro b r hb h;simp only[List.forIn_nil,pure,zAA]at h;exact h▸hb
 |cons a l ih=>
  intro b r hb h;simp only[zGF,bind,zBE]at h;obtain⟨s,hs,h⟩:=h;have:=hf a b s hb hs;cases s with
  |done b'=>simp only[pure,zAA]at h;exact h▸this
  |yield b'=>exact ih b' r this h
def L3 (info:a00->Option TypeInfo):Prop:=∀t i v,info t=some i->i.zero=some v->flat v
def pY (hi:L3 info) {fs:Array Field} (h:reckonStruct info fs=some i) (hv:i.zero=some v):flat v:=by
 unfold reckonStruct at h;simp only[bind,zBE,pure]at h;obtain⟨a,ha,h⟩:=h;rw[<-zEE]at ha;have key:=Ju _ (λs:Array Field×Nat×Nat×Nat×Nat×Bool×Bool×Option (Array fu)×String=>∀z,s.2.2.2.2.2.2.2.1=some z->∀x∈z,aC.plain 5 x=true) ?_ _ _ _ ?_ ha
 .split at h
  all_goals
   simp only[zAA]at h;subst h;simp only[zDB]at hv;obtain⟨z,hz,rfl⟩:=hv;exact key z hz
 .intro f b r hb hr;simp only[zBE]at hr;obtain⟨j,hj,hr⟩:=hr
  have fin:∀z,(b.2.2.2.2.2.2.2.1.bind λz0=>j.zero.bind λz1=>some (z0++z1.cells))=some z->∀x∈z,aC.plain 5 x=true:=by
   intro z hz;simp only[zBE,zAA]at hz;obtain⟨z0,h0,z1,h1,rfl⟩:=hz;intro x hx;rcases zER.1 hx with hx|hx
   .exact hb z0 h0 x hx
   .exact hi _ _ _ hj h1 x hx
  repeat' split at hr
  all_goals(try(simp only[Option.bind_none,reduceCtorEq]at hr;done))
  all_goals(try simp only[zBE]at hr)
  all_goals(obtain⟨_,_,hr⟩:=hr;simp only[zAA]at hr;subst hr;intro z hz;first|(cases hz;done)|exact fin z hz)
 .intro z hz;simp only[zAA]at hz;subst hz;simp
def Cc (hi:L3 info) {d:TypeDesc} (h:reckon info d=some i) (hv:i.zero=some v):flat v:=by
 have one:∀u:fu,aC.plain 0 u=true->flat u:=λu hu x hx=>by
  cases u<;>first|(simp only[Value.cells,zFZ,zCF]at hx;subst hx;exact uH (zAM _) hu)|(cases hu;done)
 cases d with
 |struct fs=>exact pY hi h hv
 |array n e=>
  simp only[reckon,bind,zBE,pure,zAA]at h;obtain⟨j,hj,s,_,rfl⟩:=h;simp only at hv;split at hv
  .cases hv
  .split at hv
   .simp only[zAA]at hv;subst hv;intro x hx;simp[Value.cells]at hx
   .simp only[zDB]at hv;obtain⟨z,hz,rfl⟩:=hv;intro x hx;simp only[Value.cells,Array.mem_flatten,Array.mem_replicate]at hx;obtain⟨y,⟨_,rfl⟩,hx⟩:=hx;exact hi _ _ _ hj hz x hx
 |pointer e=>
  simp only[reckon,bind,zBE,pure]at h;obtain⟨j,hj,h⟩:=h;repeat' split at h
  all_goals(try(cases h;done))
  all_goals(simp only[zBE,zAA]at h;obtain⟨_,_,rfl⟩:=h;simp only[word,zAA]at hv;subst hv;exact one _ rfl)
 |_=>
  first
  |(simp only[reckon,reduceCtorEq]at h;done)
  |(simp only[reckon,bind,zBE,pure,zAA]at h;obtain⟨_,_,_,_,rfl⟩:=h;simp only[word,zAA]at hv;subst hv;exact one _ rfl)
  |(simp only[reckon,bind,zBE,pure,zAA]at h;obtain⟨_,_,_,_,_,_,_,_,rfl⟩:=h;simp only[word,zAA]at hv;subst hv;exact one _ rfl)
  |(simp only[reckon,bind,zBE,pure,zAA]at h;obtain⟨_,_,rfl⟩:=h;simp only[word,zAA]at hv;subst hv;exact one _ rfl)
def xS (T:Tables):Bool:=T.types.all λi=>match i.zero with|some v=>v.cells.all (aC.plain 5)|none=>true
def Cd {T:Tables} (h:xS T=true):∀f,L3 (infoAt T f):=by
 have low:∀(t:Nat) (i:TypeInfo) (v:fu),T.types[t]?=some i->i.zero=some v->flat v:=by
  intro t i v ht hv;obtain⟨av,he⟩:=zAD.1 ht;have:=zBQ.1 h t av;rw[he]at this;simp only[hv]at this;intro x hx;obtain⟨k,hk,rfl⟩:=zCI.1 hx;exact zBQ.1 this k hk
 intro f;induction f with
 |zero=>intro t i v ht;cases ht
 |succ f ih=>
  intro t i v ht hv;unfold infoAt at ht;split at ht
  .exact low t i v ht hv
  .simp only[zBE]at ht;obtain⟨d,_,ht⟩:=ht;exact Cc ih ht hv
def L5 (h:xS P.toTables=true):bz P:=by
 intro t i v ht hv;have ht:Tables.info? P.toTables t=some i:=ht
 have:infoAt P.toTables depth t=some i:=by
  unfold Tables.info? at ht;split at ht
  .unfold depth infoAt;rw[zAF (by assumption)];exact ht
  .exact ht
 exact(Cd h depth t i v this hv).plain
def Fe (T:Tables):Bool:=T.types.all fun i=>match i.desc with|.named n _=>!(n== "sync.copyChecker")|_=>true
def Ff (h:Fe P.toTables=true):aS P:=by
 intro t i u ht hd;have ht:Tables.info? P.toTables t=some i:=ht;by_cases av:t<P.types.size
 .unfold Tables.info? at ht;rw[zAF av]at ht;obtain⟨av,he⟩:=zAD.1 ht;have:=zBQ.1 h t av;rw[he,hd]at this;simp at this
 .have:=Tables.info?_beyond av ht;rw[hd]at this;cases this
end Go.aC
namespace Go.aC
open Go.Conc
variable {P:un} {d r t:Nat} {e:a00} {fz:Nat×Nat} {i:TypeInfo} {o:Oper} {ops:Array Oper} {u:fu} {w:nq}
def Lq (m:Region.Mode) (ops:Array Oper) (listed:Array Bool):List Nat:=
 (List.range ops.size).filter λi=>!listed.getD i true&&((ops[i]?).map (·.after.all λe=>!Region.binds m e||listed.getD e.on false)).getD false
inductive Te (m:Region.Mode) (ops:Array Oper):Nat->Array Bool->List Nat->Prop
 |stop {n:Nat} {listed:Array Bool} (h:n=0\/Lq m ops listed=[]):Te m ops n listed []
 |next {n i:Nat} {listed:Array Bool} {l:List Nat} (h:i∈Lq m ops listed) (t:Te m ops n (listed.setIfInBounds i true) l):Te m ops (n+1) listed (i::l)
def Ve (m:Region.Mode) (ops:Array Oper):∀(n t:Nat) (listed:Array Bool) (acc:List Nat),∃l,Region.linearise.go m ops n t listed acc=acc.reverse++l/\Te m ops n listed l:=by
 intro n;induction n with
 |zero=>intro t listed acc;exact⟨[],by simp[Region.linearise.go],.stop (.inl rfl)⟩
 |succ n ih=>
  intro t listed acc;unfold Region.linearise.go;have e:((List.range ops.size).filter λi=>!listed.getD i true&&((ops[i]?).map (·.after.all λe=>!Region.binds m e||listed.getD e.on false)).getD false)=Lq m ops listed:=rfl;simp only[e];cases hi:(Lq m ops listed)[t%(Lq m ops listed).length]? with
  |none=>
   refine⟨[],by simp,.stop (.inr ?_)⟩;cases hr:Lq m ops listed with
   |nil=>rfl
   |cons a l=>
    rw[hr]at hi;have:t%(a::l).length<(a::l).length:=zGH _ (by simp);rw[zAJ this]at hi;cases hi
  |some i=>
   obtain⟨l,h1,h2⟩:=ih (t/(Lq m ops listed).length) (listed.setIfInBounds i true) (i::acc);exact⟨i::l,by simp only[];rw[h1];simp,.next (zBI hi) h2⟩
def Fg (m:Region.Mode) (ops:Array Oper) (t:Nat):Te m ops ops.size (Array.replicate ops.size false) (Region.linearise m ops t):=by
 obtain⟨l,h1,h2⟩:=Ve m ops ops.size t (Array.replicate ops.size false) [];unfold Region.linearise;rw[h1];exact h2
def lj (m:Region.Mode) (ops:Array Oper):Nat->Array Bool->List (List Nat)
 |0,_=>[[]]
 |n+1,listed=>if(Lq m ops listed).isEmpty then [[]]else(Lq m ops listed).flatMap λi=>(lj m ops n (listed.setIfInBounds i true)).map (i::·)
def su {m:Region.Mode} {n:Nat} {listed:Array Bool} {l:List Nat} (h:Te m ops n listed l):l∈lj m ops n listed:=by
 induction h with
 | @stop n listed h=>
   cases n with
   |zero=>simp[lj]
   |succ n=>
    rcases h with h|h
    .omega
    .simp[lj,h]
 | @next n i listed l h _ ih=>
   simp only[lj];split
   .rename_i he;rw[List.isEmpty_iff]at he;rw[he]at h;cases h
   .simp only[zDF,zBO];exact⟨_,h,_,ih,rfl⟩
structure Hn (P:un) (o:Oper) (d:Nat) (v:Nat->fu) (x:Obj):Prop where
 dst:o.dst=some d
 guard:o.guard=none
 run:∀(a:Act) (w:nq),(execOp a.eval o).run P w=.ok (.value (v w.heap.size)) (w.alloc x)
 ev:∀(a:Act) (w:nq),(execOp a.eval o).events P w #[]=#[]
structure Made (ops:Array Oper) (d:Nat->Nat) (v:Nat->Nat->fu) (x:Nat->Obj) (is:List Nat) (kn own:Nat->Prop) (tm:Array fu) (w:nq) (pos:Nat->Nat) (iR eZ:Nat->Prop) (bR:Array fu) (w':nq):Prop where
 size:bR.size=tm.size
 slot:∀i∈is,d i<tm.size->bR.getD (d i) undef=v i (pos i)
 others:∀j,(∀i∈is,d i≠j)->bR.getD j undef=tm.getD j undef
 new:∀i∈is,w.heap.size<=pos i/\pos i<w'.heap.size
 inj:∀i∈is,∀j∈is,pos i=pos j->i=j
 heap:∀i∈is,w'.heap[pos i]?=some (x i)
 env:Env kn w w'
 knw:∀r,iR r↔kn r\/∃i∈is,r=pos i
 PW:∀r,eZ r↔own r\/∃i∈is,r=pos i
def ai (a:Array fu) (i:Nat) (v u:fu) (h:i<a.size):(a.setIfInBounds i v).getD i u=v:=by
 rw[zAX,ba _ h];rfl
def getD_set_ne (a:Array fu) {i j:Nat} (v u:fu) (h:j≠i):(a.setIfInBounds i v).getD j u=a.getD j u:=by
 rw[zAX,zAX,aO _ h]
def Tree.makes {main:Bool} {K:oL} (T:Tree P main K) {b:Frame} {k:List Item} {cs:List Frame} {rest:List Nat} (hk:b.kind≠ .early) {d:Nat->Nat} {v:Nat->Nat->fu} {x:Nat->Obj}:
 ∀(is:List Nat),is.Nodup->(∀i∈is,∃o,ops[i]?=some o/\Hn P o (d i) (v i) (x i))->(∀i∈is,∀j∈is,d i=d j->i=j)->∀(kn own:Nat->Prop) (tm:Array fu) (ds:List Deferred) (w:nq),(∀r,kn r->r<w.heap.size)->
  (∀pos iR eZ bR w',Made ops d v x is kn own tm w pos iR eZ bR w'->K iR eZ (G (b.at ⟨bR,ds⟩ (.inRegion ops rest::k)) cs) w')->
  K kn own (G (b.at ⟨tm,ds⟩ (.inRegion ops (is++rest)::k)) cs) w:=by
 intro is;induction is with
 |nil=>
  intro _ _ _ kn own tm ds w _ h;exact h (λ_=>0) kn own tm w ⟨rfl,λi hi=>by simp at hi,λ_ _=>rfl,λi hi=>by simp at hi,λi hi=>by simp at hi,λi hi=>by simp at hi,Env.refl _ _,λr=>by simp,λr=>by simp⟩
 |cons i is ih=>
  intro Jh cg XM kn own tm ds w av h;obtain⟨o,ho,hm⟩:=cg i (by simp);rw[List.nodup_cons]at Jh;refine T.op (i:=i) (rest:=is++rest) ho (by unfold Region.wanted;rw[hm.guard]) hk λw2 he=>⟨_,_,hm.run _ w2,by rw[hm.ev];exact Fair.alloc _,?_⟩
  rw[jM,jM];have hs:(w2.alloc (x i)).heap.size=w2.heap.size+1:=by show(w2.heap.push (x i)).size=_;simp
  have Zj:(w2.alloc (x i)).heap[w2.heap.size]?=some (x i):=by show(w2.heap.push (x i))[w2.heap.size]?=_;simp
  have hold:∀r,r<w2.heap.size->(w2.alloc (x i)).heap[r]?=w2.heap[r]?:=λr hr=>by
   show(w2.heap.push (x i))[r]?=_;simp[zBS,zGI hr]
  have PX:Act.put ⟨tm,ds⟩ o.dst (v i w2.heap.size)=⟨tm.setIfInBounds (d i) (v i w2.heap.size),ds⟩:=by rw[hm.dst];rfl
  rw[PX];refine ih Jh.2 (λj hj=>cg j (by simp[hj])) (λa ha c hc=>XM a (by simp[ha]) c (by simp[hc])) _ _ _ ds _ (λr hr=>?_) λpos iR eZ bR w' hM=>?_
  .rw[hs];rcases hr with hr|hr
   .have:=zAY (av r hr) he.1;omega
   .omega
  .have hpi:∀j∈is,w2.heap.size+1<=pos j:=λj hj=>by have:=(hM.new j hj).1;omega
   have bC:∀j∈is,j≠i:=λj hj e=>Jh.1 (e▸hj);refine h (λj=>if j=i then w2.heap.size else pos j) iR eZ bR w' ⟨?_,?_,?_,?_,?_,?_,?_,?_,?_⟩
   .rw[hM.size];simp
   .intro j hj hd;rcases zAL.1 hj with rfl|hj
    .rw[zAF rfl,hM.others (d j) (λc hc e=>bC c hc (XM c (by simp[hc]) j (by simp) e)),ai _ _ _ _ hd]
    .rw[zAG (bC j hj)];exact hM.slot j hj (by simpa using hd)
   .intro j hj;rw[hM.others j (λc hc=>hj c (by simp[hc])),getD_set_ne _ _ _ (Ne.symm (hj i (by simp)))]
   .intro j hj;have Tf:=hM.env.1;rcases zAL.1 hj with rfl|hj
    .rw[zAF rfl];have:=he.1;omega
    .rw[zAG (bC j hj)];have:=hM.new j hj;have:=he.1;omega
   .intro a ha c hc e;rcases zAL.1 ha with ea|ha<;>rcases zAL.1 hc with ec|hc
    .rw[ea,ec]
    .rw[ea,zAF rfl,zAG (bC c hc)]at e;have:=hpi c hc;omega
    .rw[ec,zAF rfl,zAG (bC a ha)]at e;have:=hpi a ha;omega
    .rw[zAG (bC a ha),zAG (bC c hc)]at e;exact hM.inj a ha c hc e
   .intro j hj;rcases zAL.1 hj with rfl|hj
    .rw[zAF rfl,hM.env.2 _ (.inr rfl),Zj]
    .rw[zAG (bC j hj)];exact hM.heap j hj
   .refine⟨zAP he.1 (by have:=hM.env.1;omega),λr hr=>?_,hM.env.os.trans he.os,hM.env.out.trans he.out⟩;rw[hM.env.2 r (.inl hr),hold r (zAY (av r hr) he.1),he.2 r hr]
   .intro r;rw[hM.knw r];constructor
    .rintro((h|h)|⟨j,hj,h⟩)
     .exact .inl h
     .exact .inr ⟨i,by simp,by rw[zAF rfl];exact h⟩
     .exact .inr ⟨j,by simp[hj],by rw[zAG (bC j hj)];exact h⟩
    .rintro(h|⟨j,hj,h⟩)
     .exact .inl (.inl h)
     .rcases zAL.1 hj with rfl|hj
      .rw[zAF rfl]at h;exact .inl (.inr h)
      .rw[zAG (bC j hj)]at h;exact .inr ⟨j,hj,h⟩
   .intro r;rw[hM.PW r];constructor
    .rintro((h|h)|⟨j,hj,h⟩)
     .exact .inl h
     .exact .inr ⟨i,by simp,by rw[zAF rfl];exact h⟩
     .exact .inr ⟨j,by simp[hj],by rw[zAG (bC j hj)];exact h⟩
    .rintro(h|⟨j,hj,h⟩)
     .exact .inl (.inl h)
     .rcases zAL.1 hj with rfl|hj
      .rw[zAF rfl]at h;exact .inl (.inr h)
      .rw[zAG (bC j hj)]at h;exact .inr ⟨j,hj,h⟩
def uI {e:Nat} {dir:ChanDir} (ho:o.op=.makeChan t (.const (.int .i64 0))) (hd:o.dst=some d) (hg:o.guard=none) (ht:P.underlying t=some (.chan dir e)) (hi:P.info? e=some i):
 Hn P o d (λr=>.chan (some r)) (.chan 0 #[] false 0 0 false):=by
 obtain⟨dst,op,ty,pos,af,gd⟩:=o;simp only at ho hd hg;subst ho;subst hd;subst hg;refine⟨rfl,rfl,λa w=>?_,λa w=>?_⟩
 .have:=run_makeChan (P:=P) (w:=w) ht hi .i64 0 (by decide) (by simp);show(Instr.makeChan t (.int .i64 0)>>=λv=>pure (Next.value v)).run P w=_;have this:(Instr.makeChan t (.int .i64 0)).run P w=.ok (.chan (some w.heap.size)) (w.alloc (.chan 0 #[] false 0 0 false)):=this;simp[this]
 .have h1:=run_makeChan (P:=P) (w:=w) ht hi .i64 0 (by decide) (by simp);have h2:=events_makeChan (P:=P) (w:=w) ht hi .i64 0 (by decide) (by simp) #[];have h1:(Instr.makeChan t (.int .i64 0)).run P w=.ok (.chan (some w.heap.size)) (w.alloc (.chan 0 #[] false 0 0 false)):=h1;have h2:(Instr.makeChan t (.int .i64 0)).events P w #[]=#[]:=h2;show(Instr.makeChan t (.int .i64 0)>>=λv=>pure (Next.value v)).events P w #[]=_;simp[h1,h2]
def jN {z:fu} (ho:o.op=.alloc t) (hd:o.dst=some d) (hg:o.guard=none) (hi:P.info? t=some i) (hz:i.zero=some z):
 Hn P o d (λr=>.pointer (some ⟨r,0,none⟩)) (.cells z.cells t):=by
 obtain⟨dst,op,ty,pos,af,gd⟩:=o;simp only at ho hd hg;subst ho;subst hd;subst hg;have UI:∀w,(zeroValue t).run P w=.ok z w:=λw=>by simp[zeroValue,typeInfo,hi,hz]
 refine⟨rfl,rfl,λa w=>?_,λa w=>?_⟩
 .simp[execOp,Instr.alloc,UI,newVar,newRow]
 .simp[execOp,Instr.alloc,UI,newVar,newRow]
def fW (w:nq) (a:Addr) (v:fu) (h:r≠a.block):(w.setCell a v).heap[r]?=w.heap[r]?:=by
 simp[World.setCell,zDD,Ne.symm h]
def jO {v:fu} (h:w.heap[r]?=some (.cells #[u] e fz)):(w.setCell ⟨r,0,none⟩ v).heap[r]?=some (.cells #[v] e fz):=by
 simp[World.setCell,zDD,h]
def dw (h:w.heap[r]?=some (.cells #[u] e fz)):w.cell? ⟨r,0,none⟩=some u:=by simp[World.cell?,h]
def ff (h:w.heap[r]?=some (.cells #[u] e (0,0))):w.frozen? ⟨r,0,none⟩=false:=by simp[World.frozen?,h]
def iD {kn:Nat->Prop} (a:Addr) (v:fu) (h:¬kn a.block):Env kn w (w.setCell a v):=
 ⟨by simp[World.setCell],λr hr=>fW w a v λe=>h (e▸hr),rfl,rfl⟩
end Go.aC
namespace Go.aC
open Go.Conc
open Go.ConcN (upd upd_same upd_ne sumTo)
variable {P:un} {kn own:Nat->Prop} {t:Trace} {w:nq}
structure nC (P:un) (gs:Array Goroutine) (g:Goroutine) (kn own:Nat->Prop) (w:nq) (t:Trace):Prop where
 at0:gs[0]?=some g
 run:g.status=.running
 quit:∃q,da P gs q
 co:Co (λg=>g=0) (λ_=>kn) (λ_=>own) w.heap.size t
def PY {At:oL} (zO:∀kn own g w d,At kn own g (World.at w d)->At kn own g w) {g:Goroutine} (h:jK P At kn own g w):
 ∀gs w1 sl t,Env kn w w1->nC P gs g kn own w1 t->∃N iR eZ g' w' fH iz t',runNT P N (crowd gs w1 sl) t=(.next (crowd fH w' iz),t')/\At iR eZ g' w'/\nC P fH g' iR eZ w' t':=by
 induction h with
 | @mk kn own g w ok go ih=>
   have key:∀n gs w1 sl t q,sumTo gs.size q=n->Env kn w w1->gs[0]?=some g->g.status=.running->da P gs q->Co (λg=>g=0) (λ_=>kn) (λ_=>own) w1.heap.size t->
    ∃N iR eZ g' w' fH iz t',runNT P N (crowd gs w1 sl) t=(.next (crowd fH w' iz),t')/\At iR eZ g' w'/\nC P fH g' iR eZ w' t':=by
    intro n;induction n using Nat.strongRecOn with
    |ind n ihn=>
     intro gs w1 sl t q hn he h0 hr hq mM;by_cases hA:At kn own g w1
     .exact⟨0,kn,own,g,w1,gs,sl,t,rfl,hA,h0,hr,⟨q,hq⟩,mM⟩
     have aw:∀x∈gs,Conc.awake x:=by
      intro x hx;obtain⟨j,hj,rfl⟩:=zCI.1 hx;have Bl:=zAI hj;rcases zBY j with rfl|gU
      .rw[h0]at Bl;rw[<-zAV Bl];exact awake_of (.inl hr)
      .exact awake_of ((hq j _ gU Bl).status.imp id .inr)
     obtain⟨i,x,d,iz,hi,hx,cu⟩:=crowd_pick (P:=P) (w:=w1) (sl:=sl) aw ⟨0,_,h0,hr⟩;rcases zBY i with rfl|gU
     .obtain rfl:x=g:=by rw[h0]at hi;exact(zAV hi).symm
      have cr:0<gs.size:=(zAD.1 h0).1;have bL:¬At kn own x (w1.at d):=λh=>hA (zO _ _ _ _ _ h);rcases ok (w1.at d) (he.trans (jn _ _ _))with h|⟨g2,w3,es,h1,h2,h3⟩
      .exact absurd h bL
      have bp:=runT_crowd_go (P:=P) (sl:=iz) (i:=0) h0 (show stepG P (0==0) x (w1.at d)=_ from h1);rw[hq.woken h0 hr]at bp
      obtain⟨N,iR,eZ,g',w',fH,PV,t',k1,k2,k3⟩:=ih (w1.at d) g2 w3 es (he.trans (jn _ _ _)) bL h1 (gs.setIfInBounds 0 g2) w3 iz (t++MemOp.ofEvents 0 x.frame.fn x.frame.place es) (Env.refl _ _)
       ⟨ba _ cr,h2,⟨q,λj y hj hy=>by rw[aO _ (by omega)]at hy;exact hq j y hj hy⟩,(mM.step (w:=w1.at d) (g:=0) rfl rfl h3 _ _).lone (upd_same ..) (upd_same ..)⟩
      exact⟨N+1,iR,eZ,g',w',fH,PV,t',by simp only[runNT,cu.trans bp];exact k1,k2,k3⟩
     .have Bo:=hq i x gU hi;have EY:(i==0)=false:=by simp;omega
      have av:i<gs.size:=(zAD.1 hi).1;cases hk:q i with
      |zero=>rw[hk]at Bo;rw[show x.status=.finished from Bo]at hx;cases hx
      |succ k=>
       rw[hk]at Bo;rcases Bo with hf|⟨_,g',hs,xD⟩
       .rw[hf]at hx;cases hx
       have bp:=runT_crowd_go (P:=P) (sl:=iz) hi (by rw[EY];exact hs (w1.at d));rw[hq.woken h0 hr]at bp;have e0:t++MemOp.ofEvents i x.frame.fn x.frame.place #[]=t:=by simp[MemOp.ofEvents]
       obtain⟨N,iR,eZ,g2,w',fH,PV,t',k1,k2,k3⟩:=ihn (sumTo gs.size (upd q i k)) (by
        rw[<-hn];refine li av ?_ λj hj=>upd_ne _ _ hj
        rw[upd_same,hk];omega) (gs.setIfInBounds i g') (w1.at d) iz t (upd q i k) (by simp) (he.trans (jn _ _ _)) (by rw[aO _ (by omega)];exact h0) hr (λj y hj hy=>by
         by_cases e:j=i
         .subst e;rw[ba _ av]at hy;rw[upd_same,<-zAV hy];exact xD
         .rw[aO _ e]at hy;rw[upd_ne _ _ e];exact hq j y hj hy) mM
       refine⟨N+1,iR,eZ,g2,w',fH,PV,t',?_,k2,k3⟩;have:=cu.trans bp;simp only[runNT,this];rw[e0];exact k1
   intro gs w1 sl t he ha;obtain⟨q,hq⟩:=ha.quit;exact key _ gs w1 sl t q rfl he ha.at0 ha.run hq ha.co
def Co.grow {iR eZ:Nat->Prop} {B:Nat} (h:Co (λg=>g=0) (λ_=>kn) (λ_=>own) B t) (hk:∀r,iR r->r<B) (ho:∀r,eZ r->iR r):Co (λg=>g=0) (λ_=>iR) (λ_=>eZ) B t:=by
 have all:∀i a r,touchAt t i=some a->lT a.loc r->Knows t 0 i:=λi a r hi hr=>by
  have hm:a.loc.isMemory=true:=by rcases hr with⟨x,e,_⟩|e<;>rw[e]<;>rfl
  rcases h.ho i a hi hm with h1|⟨g,h1,h2,_⟩
  .exact h1
  .exact absurd h2 h1
 exact⟨h.clean,h.calm,λ_ _=>ho,λ_ _=>hk,λg k hg Bg bC=>absurd (hg.trans Bg.symm) bC,λg hg i a r hi hr _ _=>hg▸all i a r hi hr,λg hg i a r hi hr _=>hg▸all i a r hi hr,h.ho,h.low⟩
def Inv.PZ {G:jm P} {b:Nat} {S:St} {gs:Array Goroutine} (h:Inv G b S gs w t) (ho:lU G S w):nC P gs S.mn.g S.mn.kn S.mn.own w t:=by
 obtain⟨h1,h2,h3,h4,_⟩:=h.Zg ho;exact⟨h1,h2,⟨S.q,h3⟩,h4⟩
end Go.aC
namespace Go.aC
variable {f lf:Frame} {p:Pi} {top:List Frame} {w:nq}
def Leaves (X:Nat->Prop) (HA:me) (HP:ep):Prop:=
 (∀kn own f w,HA kn own f w->HA (λr=>kn r\/X r) own f w)/\
 ∀kn own f w v w3 fx bI,HP (λr=>kn r\/X r) own f w v w3 fx bI->∃kn4,HP kn own f w v w3 kn4 bI/\fx=(λr=>kn4 r\/X r)/\Env X w w3/\∀r,bI r->own r\/¬X r
def CT.keep {P:un} {main:Bool} {base:List Frame} {Fin:pS} {HA:me} {HP:ep} (X:Nat->Prop) (hl:Leaves X HA HP) {kn own:Nat->Prop}
 (h:CT P main base Fin HA HP kn own f top w) (hX:∀r,X r->r<w.heap.size) (hd:∀r,own r->¬X r):
 CT P main base (λ_ own v w'=>(∃OW,Fin OW own v w')/\Env X w w') HA HP (λr=>kn r\/X r) own f top w:=by
 have key:=CT.ind (I:=λkn own f top w1=>(∀r,own r->¬X r)->Env X w w1->CT P main base (λ_ own v w'=>(∃OW,Fin OW own v w')/\Env X w w') HA HP (λr=>kn r\/X r) own f top w1) ?_ h
 .exact key hd (Env.refl _ _)
 intro kn own f top w1 hb Ji EI
 have keep:∀{w2 w3:nq} {es:Array Event},Env (λr=>kn r\/X r) w1 w2->Fair kn own w2 w3 es->Env X w w3/\∀r,aN own w2 w3 r->¬X r:=λ{w2 w3 es} he hf=>by
  have L0:Env X w w2:=EI.trans (he.mono λr h=>.inr h);have av:∀r,X r->r<w2.heap.size:=λr hr=>zAY (hX r hr) L0.1;refine⟨L0.trans ⟨hf.size,λr hr=>hf.others r (av r hr) λho=>Ji r ho hr,hf.os,hf.out⟩,λr hr hx=>?_⟩;rcases hr with hr|hr
  .exact Ji r hr hx
  .have:=av r hx;have:=hr.1;omega
 refine CT.mk λw2 he=>?_;rcases hb w2 (he.mono λr h=>.inl h)with⟨w3,es,f2,pT,h1,h2,h3⟩|⟨w3,es,v,b',zx,h0,h1,h2,h3⟩|⟨w3,es,v,h0,h1,h2,h3⟩|⟨h1,c,rest,h2,h3⟩
 .refine .inl ⟨w3,es,f2,pT,h1,h2.mono (λr h=>.inl h) (λr h=>h),?_⟩;rw[kF];obtain⟨k1,k2⟩:=keep he h2;exact h3.1 k2 k1
 .exact .inr (.inl ⟨w3,es,v,b',zx,h0,h1,h2.mono (λr h=>.inl h) (λr h=>h),⟨_,h3⟩,(keep he h2).1⟩)
 .exact .inr (.inr (.inl ⟨w3,es,v,h0,h1,h2.mono (λr h=>.inl h) (λr h=>h),⟨_,h3⟩,(keep he h2).1⟩))
 .refine .inr (.inr (.inr ⟨hl.1 _ _ _ _ h1,c,rest,h2,λv w3 fx bI hp=>?_⟩));obtain⟨kn4,q1,rfl,q3,q4⟩:=hl.2 _ _ _ _ _ _ _ _ hp;refine(h3 v w3 kn4 bI q1).1 (λr hr=>?_) ((EI.trans (he.mono λr h=>.inr h)).trans q3);rcases q4 r hr with x|x
  .exact Ji r x
  .exact x
structure Tg (P:un) (F:Array Func) (S:Nat->Bool) (e:FuncId):Prop where
 marked:S (P.funcs.size+P.globals.size)=false
 lone:∀(lf:Frame) (cs:List Frame) (v:nq),mG S lf->lf.kind=.normal->∃n,1<=n/\runN P n (lone lf cs v)=.next (lone (lf.finish (.bool true)) cs v)
 comp:∀(main:Bool) (f:Frame) (cs:List Frame) (w:nq),mG S f->f.kind=.normal->stepG (ae P F) main (jc f cs) w=.go (jc (Frame.enter (ae P F) e #[] .normal) (f::cs)) w #[]
def Jv (Q:un) (e:FuncId):me:=λ_ _ f _=>f=Frame.enter Q e #[] .normal
def xU:ep:=λkn own _ w v w3 fx bI=>v=.bool true/\Env kn w w3/\fx=kn/\bI=own
section
variable {P:un} {F:Array Func} {S:Nat->Bool} {N:Nat} {e:FuncId}
def mG.lone (h:lZ P S OU p lf f) (hh:mG S f):mG S lf:=by
 obtain⟨hm,o,ops,i,is,k,h1,h2,h3,h4⟩:=hh;have j7:=h.mode;rw[hm]at j7;have bp:lf.mode=.run:=by generalize lf.mode=x at j7;cases j7;rfl
 have Jk:=h.todo;rw[h1]at Jk;generalize h5:lf.todo=t at Jk;cases Jk with
 |cons hi Jk=>
  cases hi with
  |inRegion _ _=>
   refine⟨bp,o,ops,i,is,_,h5,h2,h3,?_⟩;rw[<-h4];congr 1;exact funext λj=>sj ops h.tmps j
section
variable (Q:un) (S:Nat->Bool) (N:Nat) (main:Bool) (base:List Frame) (Fin:pS) (HA:me) (HP:ep)
def Nd.P0 (x:Nd) (w2 w3:nq):Prop:=Env (kB x.p) w2 w3/\¬CT Q main base Fin HA HP (kB x.p) (cz N x.p) (x.f.finish (.bool true)) x.top w3
open Classical in
def Nd.Ho (x:Nd):nq:=if h:∃w3,x.P0 Q N main base Fin HA HP (x.pick Q N main base Fin HA HP) w3 then h.choose else x.w
def Nd.Fh (x:Nd) (h:∃w3,x.P0 Q N main base Fin HA HP (x.pick Q N main base Fin HA HP) w3):x.P0 Q N main base Fin HA HP (x.pick Q N main base Fin HA HP) (x.Ho Q N main base Fin HA HP):=by
 unfold Nd.Ho;rw[dif_pos h];exact h.choose_spec
open Classical in
def Nd.Zk (x:Nd):Nd:=
 if mG S x.f then⟨x.p,x.L,x.f.finish (.bool true),x.top,x.Ho Q N main base Fin HA HP⟩
 else match x.step Q main base (x.pick Q N main base Fin HA HP)with
 |.go g w3 _=>⟨ext x.p x.L (x.pick Q N main base Fin HA HP).heap.size (w3.heap.size-(x.pick Q N main base Fin HA HP).heap.size),x.L+(w3.heap.size-(x.pick Q N main base Fin HA HP).heap.size),
    g.frame,g.callers.take (g.callers.length-base.length),w3⟩
 |_=>x
def Nd.Th (x:Nd):Nat->Nd
 |0=>x
 |k+1=>(Nd.Th x k).Zk Q S N main base Fin HA HP
open Classical in
def Nd.L6 (x:Nd):Nat:=
 if mG S x.f then 0 else(gw (x.step Q main base (x.pick Q N main base Fin HA HP))).drawn-(x.pick Q N main base Fin HA HP).drawn
def Nd.L7 (x:Nd) (i:Nat):Question->Nat:=(x.pick Q N main base Fin HA HP).tape ((x.pick Q N main base Fin HA HP).drawn+i)
end
def Ce (hc:Closed P F S OU) (hg:jl P S p) {uv:List Frame} {lw:nq} (hw:WR P S (KS P S) N p lw w)
 (hf:FL P S OU p (lf::uv) (f::top)) {R:fu->nq->Prop} (hl:Tg P F S e) (Jl:Bar P lf uv lw R λ_ _=>False) (main:Bool) (base:List Frame) (hb:UO P S main base):
 CT (ae P F) main base (uw P S N p R) (Jv (ae P F) e) xU (kB p) (cz N p) f top w:=by
 refine zBK λhct=>?_;let Fin:=uw P S N p R
 let HA:=Jv (ae P F) e
 let x0:Nd:=⟨p,lw.heap.size,f,top,w⟩
 have xE:¬x0.ct (ae P F) N main base Fin HA xU:=hct;let X:=λk=>Nd.Th (ae P F) S N main base Fin HA xU x0 k
 let pk:=λk=>(X k).pick (ae P F) N main base Fin HA xU
 let m:=λk=>(X k).L6 (ae P F) S N main base Fin HA xU
 let D:=λk=>ia m lw.drawn k
 let start:=λT:Nat->Question->Nat=>Go.lone lf (uv++[Base P]) {lw with tape:=T}
 have inv:∀k (T:Nat->Question->Nat),(∀j,j<k->∀i,i<m j->T (D j+i)=(X j).L7 (ae P F) N main base Fin HA xU i)->∃ν g gs v,k<=ν/\runN P ν (start T)=.next (Go.lone g (gs++[Base P]) v)/\WR P S (KS P S) N (X k).p v (X k).w/\
  FL P S OU (X k).p (g::gs) ((X k).f::(X k).top)/\jl P S (X k).p/\v.tape=T/\v.drawn=D k/\v.heap.size=(X k).L/\(¬(X k).ct (ae P F) N main base Fin HA xU)/\Le p (X k).p:=by
  intro k;induction k with
  |zero=>intro T _;exact⟨0,lf,uv,{lw with tape:=T},zAB _,rfl,hw.tape T lw.drawn,hf,hg,rfl,rfl,rfl,xE,Le.refl p⟩
  |succ k ih=>
   intro T hT;obtain⟨ν,g,gs,v,e0,e1,e2,e3,e4,e5,e6,e7,e8,e9⟩:=ih T λj hj i hi=>hT j (by omega) i hi;obtain⟨zE,uu⟩:=(X k).xL (ae P F) N main base Fin HA xU e8;have zF:WR P S (KS P S) N (X k).p v (pk k):=e2.env zE;obtain⟨n,fr,w1,c1,c2⟩:=Jl T
   have og:Ends P fr w1:=by
    rcases c2 with⟨rv,h,_⟩|⟨e,ch,h,_⟩
    .exact .inl ⟨rv,h⟩
    .exact .inr ⟨_,h⟩
   obtain⟨hle,sm⟩:=before c1 og e1;by_cases mg:mG S (X k).f
   ·
    have wM:m k=0:=by show Nd.L6 _ _ _ _ _ _ _ _ (X k)=_;unfold Nd.L6;rw[zAF mg]
    have Jn:∃w3,(X k).P0 (ae P F) N main base Fin HA xU (pk k) w3:=by
     refine zBK λiP=>uu (.inl ⟨pk k,#[],Frame.enter (ae P F) e #[] .normal,(X k).f::(X k).top,?_,Fair.refl (λe h=>by simp at h),?_⟩)
     .exact hl.comp main (X k).f ((X k).top++base) (pk k) mg e3.head.lQ
     .rw[aY,aY];refine CT.mk λw2 he=>.inr (.inr (.inr ⟨rfl,(X k).f,(X k).top,rfl,λv' w3 fx bI hp=>?_⟩));obtain⟨rfl,Cf,rfl,rfl⟩:=hp;exact zBK λhx=>iP ⟨w3,he.trans Cf,hx⟩
    obtain⟨Zl,UV⟩:=(X k).Fh (ae P F) N main base Fin HA xU Jn;obtain⟨nn,p0,p1⟩:=hl.lone g (gs++[Base P]) v (mG.lone e3.head mg) e3.head.kind
    have Lp:X (k+1)=⟨(X k).p,(X k).L,(X k).f.finish (.bool true),(X k).top,(X k).Ho (ae P F) N main base Fin HA xU⟩:=by
     show(X k).Zk (ae P F) S N main base Fin HA xU=_;unfold Nd.Zk;rw[zAF mg]
    rw[Lp];refine⟨ν+nn,g.finish (.bool true),gs,v,by omega,by rw[runN_add,e1];exact p1,zF.env Zl,e3.top (e3.head.finish (.bool true) λ_=>(mG.UL (mG.lone e3.head mg)).fits _) (ei _ _),e4,e5,?_,e7,UV,e9⟩;rw[e6];show D k=ia m lw.drawn k+m k;rw[wM];rfl
   ·
    have wM:m k=(gw ((X k).step (ae P F) main base (pk k))).drawn-(pk k).drawn:=by show Nd.L6 _ _ _ _ _ _ _ _ (X k)=_;unfold Nd.L6;rw[zAG mg]
    have ES:lS (m k) v (pk k):=λj hj q=>by
     have:=hT k (by omega) j hj;rw[e5,e6,this];rfl
    have hd:(gw (stepG (ae P F) main {frame:=(X k).f,callers:=(X k).top++base,status:=.running,dying:=none} (pk k))).drawn<=(pk k).drawn+m k:=by
     rw[wM];show(gw ((X k).step (ae P F) main base (pk k))).drawn<=(pk k).drawn+((gw ((X k).step (ae P F) main base (pk k))).drawn-(pk k).drawn)
     omega
    have UW:=dH.step (b:=Base P) (bs:=[]) (aZ:=base) hc zF e4 e3 (λ_ _ _ _ _ _ _ h=>h) mg true main hb ES hd;rcases UW with⟨o,w3,es,hs⟩|⟨q,ch,XN,w3,es,G9,hs⟩|⟨c,nn,v1,w3,es,dk,hm,Y7,kC⟩
    .exact(zD sm og (step_lone_ended (o:=o) (w':=w3) (by rw[hs];rfl))).elim
    .exfalso;have cn:step P (Go.lone g (gs++[Base P]) v)=.next (Go.lone ((Base P).raise ch) [] w3):=step_lone_go (by rw[hs];rfl);obtain⟨_,hσ⟩:=zC sm cn (fO P ch w3);rw[hσ]at cn;rcases c2 with⟨rv,h,_⟩|⟨e,Hg,h,hF,hnv⟩
     .rw[step_leave_returned h]at cn;simp only[Stepped.next.injEq]at cn;have q1:=(fJ cn).1;rw[d8]at q1;have:=zBB (λf:Frame=>f.mode) q1;simp[Base,Frame.raise]at this
     .exact hF
    .obtain⟨uA,sn,qT⟩:=cQ.fair zF hm Y7;rcases kC with⟨f2,PP,t2,PQ,Jm,hs,wA⟩|⟨UX,ET,hv,hs,wA⟩
     .have cn:step P (Go.lone g (gs++[Base P]) v)=.next (Go.lone f2 (t2++[Base P]) v1):=step_lone_go (by rw[hs];rfl);have nS:=us P ν _ _ e1;rw[cn]at nS;have j8:(X k).step (ae P F) main base (pk k)=.go (jc PP (PQ++base)) w3 dk:=wA
      have Lp:X (k+1)=⟨ext (X k).p (X k).L (pk k).heap.size c,(X k).L+c,PP,PQ,w3⟩:=by
       show(X k).Zk (ae P F) S N main base Fin HA xU=_;unfold Nd.Zk;rw[zAG mg];have zH:(X k).step (ae P F) main base ((X k).pick (ae P F) N main base Fin HA xU)=.go (jc PP (PQ++base)) w3 dk:=wA;rw[zH]
       have cr:w3.heap.size-((X k).pick (ae P F) N main base Fin HA xU).heap.size=c:=by
        have h6:w3.heap.size=(pk k).heap.size+c:=hm.my;show w3.heap.size-(pk k).heap.size=c;rw[h6,zCT]
       simp only[cr];congr 1;rw[zAZ,Nat.add_sub_cancel];exact List.take_left
      rw[Lp];have hrel:=hm.rel;rw[e7]at hrel Jm sn qT;have Jo:=fG (X k).p (X k).L (pk k).heap.size c;refine⟨ν+1,f2,t2,v1,by omega,nS,hrel,Jm,e4.mono Jo,hm.tape.trans e5,?_,by rw[hm.size,e7],?_,e9.trans Jo⟩
      .rw[hm.drawn,e6]
       have:m k=nn:=by
        rw[wM,j8];have h5:w3.drawn=(pk k).drawn+nn:=hm.mz;show w3.drawn-(pk k).drawn=nn;rw[h5,zCT]
       show D k+nn=ia m lw.drawn k+m k;rw[this]
      .intro EU;refine uu (.inl ⟨w3,dk,PP,PQ,j8,uA,?_⟩);unfold Nd.ct at EU;rw[sn,qT]at EU;exact EU
     .exfalso;have cn:step P (Go.lone g (gs++[Base P]) v)=.next (Go.lone ((Base P).finish UX) [] v1):=step_lone_go (by rw[hs];rfl);obtain⟨_,hσ⟩:=zC sm cn (hU P UX v1);rw[hσ]at cn;rcases c2 with⟨rv,h,hR⟩|⟨e,Hg,h,hF,_⟩
      .rw[step_leave_returned h]at cn;simp only[Stepped.next.injEq]at cn;obtain⟨q1,_,q3⟩:=fJ cn;rw[d8,d8]at q1
       have Bj:rv=UX:=by
        have:=zBB (λf:Frame=>f.tmps) q1;simpa using this
       subst Bj;subst q3;have uB:Fin (aN (kB (X k).p) (pk k) w3) (aN (cz N (X k).p) (pk k) w3) ET w3:=⟨_,rv,w1,hR,hv,hm.rel,e9.trans (fG _ _ _ _),sn.symm,qT.symm⟩
       rcases wA with⟨b',zx,mK,wA⟩|⟨mK,wA⟩
       .exact uu (.inr (.inl ⟨w3,dk,ET,b',zx,mK,wA,uA,uB⟩))
       .exact uu (.inr (.inr (.inl ⟨w3,dk,ET,mK,wA,uA,uB⟩)))
      .exact hF
 obtain⟨T,hT⟩:=splice m (λk j=>(X k).L7 (ae P F) N main base Fin HA xU j) lw.drawn;obtain⟨n,fr,w1,c1,c2⟩:=Jl T
 have og:Ends P fr w1:=by
  rcases c2 with⟨rv,h,_⟩|⟨e,ch,h,_⟩
  .exact .inl ⟨rv,h⟩
  .exact .inr ⟨_,h⟩
 obtain⟨ν,g,gs,v,e0,e1,_⟩:=inv (n+1) T λj _ i hi=>hT j i hi;obtain⟨hle,_⟩:=before c1 og e1;omega
end
end Go.aC
namespace Go.aC
open Go.Conc
open Go.ConcN (upd upd_same upd_ne sumTo sumTo_upd sumTo_congr le_sumTo sumTo_le)
variable {b:Frame} {bs:List Frame} {m m':Machine} {t:Trace}
def pZ (P:un) (b:Frame) (bs:List Frame) (Fin:pS) (m:Machine) (t:Trace):Prop:=
 ∃N v w3 fx bI fH iz t' q',runNT P N m t=(.next (crowd fH w3 iz),t')/\Fin fx bI v w3/\fH[0]?=some (jc (b.finish v) bs)/\da P fH q'/\Co (λg=>g=0) (λ_=>fx) (λ_=>bI) w3.heap.size t'
def pZ.step {P:un} {Fin:pS} {ops:Array MemOp} (h:stepT P m=(.next m',ops)) (k:pZ P b bs Fin m' (t++ops)):pZ P b bs Fin m t:=by
 obtain⟨N,v,w3,fx,bI,fH,iz,t',q',h1,h2⟩:=k;exact⟨N+1,v,w3,fx,bI,fH,iz,t',q',by simp only[runNT,h];exact h1,h2⟩
def pZ.steps {P:un} {Fin:pS} {t':Trace} {N:Nat} (h:runNT P N m t=(.next m',t')) (k:pZ P b bs Fin m' t'):pZ P b bs Fin m t:=by
 obtain⟨M,v,w3,fx,bI,fH,iz,t',q',h1,h2⟩:=k;exact⟨N+M,v,w3,fx,bI,fH,iz,t',q',by rw[runNT_add,h];exact h1,h2⟩
section
variable {P:un} {Fin:pS} {HA:me} {HP:ep} {b0:Frame} {Fi:List Frame}
def Fj (Fb:zM P HA HP) (zO:∀kn own f w d,HA kn own f (World.at w d)->HA kn own f w) (Zh:∀kn own f w d v w3 fx bI,HP kn own f w v w3 fx bI->HP kn own f (World.at w d) v w3 fx bI)
 {kn own:Nat->Prop} {f:Frame} {top:List Frame} {w:nq} (h:CT P true (b0::Fi) Fin HA HP kn own f top w):
 ∀gs w1 sl t q,Env kn w w1->gs[0]?=some (jc f (top++b0::Fi))->da P gs q->Co (λg=>g=0) (λ_=>kn) (λ_=>own) w1.heap.size t->pZ P b0 Fi Fin (crowd gs w1 sl) t:=by
 refine CT.ind (I:=λkn own f top w=>∀gs w1 sl t q,Env kn w w1->gs[0]?=some (jc f (top++b0::Fi))->da P gs q->Co (λg=>g=0) (λ_=>kn) (λ_=>own) w1.heap.size t->pZ P b0 Fi Fin (crowd gs w1 sl) t) ?_ h;intro kn own f top w kE
 have key:∀n gs w1 sl t q,sumTo gs.size q=n->Env kn w w1->gs[0]?=some (jc f (top++b0::Fi))->da P gs q->Co (λg=>g=0) (λ_=>kn) (λ_=>own) w1.heap.size t->pZ P b0 Fi Fin (crowd gs w1 sl) t:=by
  intro n;induction n using Nat.strongRecOn with
  |ind n ih=>
   intro gs w1 sl t q hn he h0 hq mM
   have pay:HA kn own f w1->∀c rest,top=c::rest->(∀v w3 fx bI,HP kn own f w1 v w3 fx bI->(∀gs w1 sl t q,Env fx w3 w1->gs[0]?=some (jc (c.finish v) (rest++b0::Fi))->da P gs q->Co (λg=>g=0) (λ_=>fx) (λ_=>bI) w1.heap.size t->pZ P b0 Fi Fin (crowd gs w1 sl) t))->pZ P b0 Fi Fin (crowd gs w1 sl) t:=by
    intro hA c rest lh hc;subst lh;obtain⟨N,v,w3,fx,bI,fH,iz,t',q',p1,p2,p3,p4,p5⟩:=Fb kn own f c (rest++b0::Fi) w1 gs sl t q h0 hq mM hA;exact(hc v w3 fx bI p2 fH w3 iz t' q' (Env.refl _ _) p3 p4 p5).steps p1
   have aw:∀g∈gs,Conc.awake g:=by
    intro g hg;obtain⟨j,hj,rfl⟩:=zCI.1 hg;have Bl:=zAI hj;rcases zBY j with rfl|gU
    .rw[h0]at Bl;rw[<-zAV Bl];exact awake_of (.inl rfl)
    .exact awake_of ((hq j _ gU Bl).status.imp id .inr)
   obtain⟨i,g,d,iz,hi,hg,cu⟩:=crowd_pick (P:=P) (w:=w1) (sl:=sl) aw ⟨0,_,h0,rfl⟩;rcases zBY i with rfl|gU
   .obtain rfl:g=jc f (top++b0::Fi):=by rw[h0]at hi;exact(zAV hi).symm
    have cr:0<gs.size:=(zAD.1 h0).1;rcases kE (w1.at d) (he.trans (jn _ _ _))with⟨w3,es,f2,pT,h1,h2,h3⟩|⟨w3,es,v,b,bs,BE,h1,h2,h3⟩|⟨w3,es,v,BE,h1,h2,h3⟩|⟨h1,c,rest,lh,h2⟩
    .have bp:=runT_crowd_go (P:=P) (sl:=iz) (i:=0) h0 (show stepG P (0==0) (jc f (top++b0::Fi)) (w1.at d)=_ from h1);rw[hq.woken h0 rfl]at bp;refine pZ.step (cu.trans bp) (h3.1 _ w3 iz _ q (Env.refl _ _) (ba _ cr) (λj x hj hx=>?_) ?_)
     .rw[aO _ (by omega)]at hx;exact hq j x hj hx
     .exact(mM.step (w:=w1.at d) (g:=0) rfl rfl h2 _ _).lone (upd_same ..) (upd_same ..)
    .obtain⟨rfl,rfl⟩:b0=b/\Fi=bs:=by simpa using BE
     have bp:=runT_crowd_go (P:=P) (sl:=iz) (i:=0) h0 (show stepG P (0==0) (jc f (top++b0::Fi)) (w1.at d)=_ from h1);rw[hq.woken h0 rfl]at bp;refine pZ.step (cu.trans bp) ⟨0,v,w3,_,_,_,iz,_,q,rfl,h3,ba _ cr,λj x hj hx=>?_,(mM.step (w:=w1.at d) (g:=0) rfl rfl h2 _ _).lone (upd_same ..) (upd_same ..)⟩;rw[aO _ (by omega)]at hx;exact hq j x hj hx
    .cases BE
    .exact pay (zO _ _ _ _ _ h1) c rest lh λv w3 fx bI hp=>(h2 v w3 fx bI (Zh _ _ _ _ _ _ _ _ _ hp)).1
   .have Bo:=hq i g gU hi;have EY:(i==0)=false:=by simp;omega
    have av:i<gs.size:=(zAD.1 hi).1;cases hk:q i with
    |zero=>rw[hk]at Bo;rw[show g.status=.finished from Bo]at hg;cases hg
    |succ k=>
     rw[hk]at Bo;rcases Bo with hf|⟨_,g',hs,xD⟩
     .rw[hf]at hg;cases hg
     have bp:=runT_crowd_go (P:=P) (sl:=iz) hi (by rw[EY];exact hs (w1.at d));rw[hq.woken h0 rfl]at bp;have e0:t++MemOp.ofEvents i g.frame.fn g.frame.place #[]=t:=by simp[MemOp.ofEvents]
     refine pZ.step (cu.trans bp) ?_;rw[e0];refine ih (sumTo gs.size (upd q i k)) ?_ _ (w1.at d) iz t (upd q i k) (by simp) (he.trans (jn _ _ _)) ?_ (λj x hj hx=>?_) mM
     .rw[<-hn];refine li av ?_ λj hj=>upd_ne _ _ hj;rw[upd_same,hk];omega
     .rw[aO _ (by omega)];exact h0
     .by_cases e:j=i
      .subst e;rw[ba _ av]at hx;rw[upd_same,<-zAV hx];exact xD
      .rw[aO _ e]at hx;rw[upd_ne _ _ e];exact hq j x hj hx
 intro gs w1 sl t q he h0 hq mM;exact key _ gs w1 sl t q rfl he h0 hq mM
end
end Go.aC
namespace Go.aC
def CT.Zm {P:un} {main:Bool} {base:List Frame} {Fin:pS} {e:FuncId} (X:Nat->Prop) {kn own:Nat->Prop} {f:Frame} {top:List Frame} {w:nq}
 (h:CT P main base Fin (Jv P e) xU kn own f top w) (hX:∀r,X r->r<w.heap.size) (hd:∀r,own r->¬X r):
 CT P main base (λ_ own v w'=>(∃OW,Fin OW own v w')/\Env X w w') (λkn own f w1=>Jv P e kn own f w1/\(∀r,X r->kn r)/\Env X w w1) xU (λr=>kn r\/X r) own f top w:=by
 have key:=CT.ind (I:=λkn own f top w1=>(∀r,own r->¬X r)->Env X w w1->CT P main base (λ_ own v w'=>(∃OW,Fin OW own v w')/\Env X w w') (λkn own f w1=>Jv P e kn own f w1/\(∀r,X r->kn r)/\Env X w w1) xU (λr=>kn r\/X r) own f top w1) ?_ h
 .exact key hd (Env.refl _ _)
 intro kn own f top w1 hb Ji EI
 have keep:∀{w2 w3:nq} {es:Array Event},Env (λr=>kn r\/X r) w1 w2->Fair kn own w2 w3 es->Env X w w3/\∀r,aN own w2 w3 r->¬X r:=λ{w2 w3 es} he hf=>by
  have L0:Env X w w2:=EI.trans (he.mono λr h=>.inr h);have av:∀r,X r->r<w2.heap.size:=λr hr=>zAY (hX r hr) L0.1;refine⟨L0.trans ⟨hf.size,λr hr=>hf.others r (av r hr) λho=>Ji r ho hr,hf.os,hf.out⟩,λr hr hx=>?_⟩;rcases hr with hr|hr
  .exact Ji r hr hx
  .have:=av r hx;have:=hr.1;omega
 refine CT.mk λw2 he=>?_;rcases hb w2 (he.mono λr h=>.inl h)with⟨w3,es,f2,pT,h1,h2,h3⟩|⟨w3,es,v,b',zx,h0,h1,h2,h3⟩|⟨w3,es,v,h0,h1,h2,h3⟩|⟨h1,c,rest,h2,h3⟩
 .refine .inl ⟨w3,es,f2,pT,h1,h2.mono (λr h=>.inl h) (λr h=>h),?_⟩;rw[kF];obtain⟨k1,k2⟩:=keep he h2;exact h3.1 k2 k1
 .exact .inr (.inl ⟨w3,es,v,b',zx,h0,h1,h2.mono (λr h=>.inl h) (λr h=>h),⟨_,h3⟩,(keep he h2).1⟩)
 .exact .inr (.inr (.inl ⟨w3,es,v,h0,h1,h2.mono (λr h=>.inl h) (λr h=>h),⟨_,h3⟩,(keep he h2).1⟩))
 .have L0:Env X w w2:=EI.trans (he.mono λr h=>.inr h);refine .inr (.inr (.inr ⟨⟨h1,λr hr=>.inr hr,L0⟩,c,rest,h2,λv w3 fx bI hp=>?_⟩));obtain⟨rfl,q2,rfl,rfl⟩:=hp;exact(h3 (.bool true) w3 kn bI ⟨rfl,q2.mono λr h=>.inl h,rfl,rfl⟩).1 Ji (L0.trans (q2.mono λr h=>.inr h))
def rowsOf (w:nq):Pi:=⟨λr r'=>r=r'/\∃c e fz,w.heap[r]?=some (.cells c e fz),λ_ _=>False,false⟩
open Classical in
def P1 {S:Nat->Bool} (hJ:S JK=true) (p:Pi) (hl:p.l=false):∀(n:Nat) (v':fu),SizeOf.sizeOf v'<n->∃v,VR S p v v'/\(VR S p v' v'->v=v'):=by
 intro n;induction n with
 |zero=>intro v' h;omega
 |succ n ih=>
  intro v' hn;by_cases hs:VR S p v' v'
  .exact⟨v',hs,λ_=>rfl⟩
  have cg:∀xs:Array fu,SizeOf.sizeOf xs<n->∃ys:Array fu,AR S p ys xs:=by
   intro xs hx
   have hm:∀x∈xs,∃v,VR S p v x:=λx wP=>by
    have:=Array.sizeOf_lt_of_mem wP;obtain⟨v,h,_⟩:=ih x (by omega);exact⟨v,h⟩
   let g:fu->fu:=λx=>if h:∃v,VR S p v x then h.choose else x
   refine⟨xs.map g,by simp,λi a b ha hb=>?_⟩;rw[zCN,hb]at ha;simp only[zBA,zAA]at ha;subst ha;have h:=hm b (zDE hb);show VR S p (if h:∃v,VR S p v b then h.choose else b) b;rw[dif_pos h];exact h.choose_spec
  cases hj:SO v' with
  |true=>exact⟨.tuple #[],.qX hl hJ hj,λh=>absurd h hs⟩
  |false=>
   cases v' with
   |bool b=>exact absurd (.bool b) hs
   |int k n=>exact absurd (.int k n) hs
   |string s=>exact absurd (.string s) hs
   |chan c=>exact absurd (.chan c) hs
   |nilFunc=>exact absurd .nilFunc hs
   |nilIface=>exact absurd .nilIface hs
   |pointer a=>cases a with
    |none=>exact absurd .wE hs
    |some a=>cases hj
   |slice a l c=>cases a with
    |none=>exact absurd (.dn l c) hs
    |some a=>cases hj
   |map a=>cases a with
    |none=>exact absurd .wF hs
    |some a=>cases hj
   |func f xs ys=>cases f with
    |method n=>exact⟨MF,.EA hl hJ n xs ys,λh=>absurd h hs⟩
    |_=>cases hj
   |agg xs=>
    obtain⟨ys,hy⟩:=cg xs (by simp only[Value.agg.sizeOf_spec]at hn;omega);exact⟨_,hy.agg,λh=>absurd h hs⟩
   |tuple xs=>
    obtain⟨ys,hy⟩:=cg xs (by simp only[Value.tuple.sizeOf_spec]at hn;omega);exact⟨_,hy.tuple,λh=>absurd h hs⟩
   |_=>cases hj
open Classical in
def dz (S:Nat->Bool) (p:Pi) (v':fu):fu:=if h:∃v,VR S p v v'/\(VR S p v' v'->v=v')then h.choose else v'
def Hq {S:Nat->Bool} (hJ:S JK=true) (p:Pi) (hl:p.l=false) (v':fu):VR S p (dz S p v') v'/\(VR S p v' v'->dz S p v'=v'):=by
 have h:=P1 hJ p hl (SizeOf.sizeOf v'+1) v' (by omega);unfold dz;rw[dif_pos h];exact h.choose_spec
def zdT (S:Nat->Bool) (p:Pi):Obj->Obj
 |.cells c e _=>.cells (c.map (dz S p)) e (0,c.size)
 |o=>o
def jP (S:Nat->Bool) (w:nq):nq:={w with heap:=w.heap.map (zdT S (rowsOf w))}
section
variable {P:un} {S:Nat->Bool} {w:nq}
def Cg:(jP S w).heap.size=w.heap.size:=by show(w.heap.map _).size=_;simp
def zQ {r:Nat} {c:Array fu} {e:a00} {fz:Nat×Nat} (h:w.heap[r]?=some (.cells c e fz)):(jP S w).heap[r]?=some (.cells (c.map (dz S (rowsOf w))) e (0,c.size)):=by
 show(w.heap.map _)[r]?=_;rw[zCN,h];rfl
def Vf (hJ:S JK=true) (hg:P.globals.size<=w.heap.size):WR P S (KS P S) w.heap.size (rowsOf w) (jP S w) w:=by
 refine⟨λr r' s s' x y=>by rw[<-x.1,<-y.1],λr r' x=>?_,by rw[Cg];exact zAB _,λr r' x=>by rw[x.1],by rw[Cg];exact hg,hg,rfl,λ_ _ h=>h⟩;obtain⟨rfl,c,e,fz,h⟩:=x;refine⟨_,_,zQ h,h,.inl ⟨(zAD.1 h).1,c.map (dz S (rowsOf w)),c,e,fz,by simp,rfl,by simp,λi a b ha hb=>?_⟩⟩;rw[zCN,hb]at ha;simp only[zBA,zAA]at ha;subst ha;exact(Hq hJ _ rfl b).1
def mN (hJ:S JK=true) {a:Addr} {v:fu} (h:w.cell? a=some v) (hv:VR S (rowsOf w) v v):(jP S w).cell? a=some v:=by
 unfold World.cell? at h⊢;split at h
 .rename_i c e fz hx;rw[zQ hx];simp only;split at h
  .cases h
  .rename_i mt;rw[zAG mt,zCN,h];simp only[zBA,zAA];exact(Hq hJ _ rfl v).2 hv
 .cases h
end
end Go.aC
end
