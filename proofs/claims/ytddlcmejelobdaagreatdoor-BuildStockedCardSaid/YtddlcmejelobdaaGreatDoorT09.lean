/- A part. Conditions: none. -/
import Derived.Test.YtddlcmejelobdaaGreatDoorT07
import Derived.Test.YtddlcmejelobdaaGreatDoorT08
import Derived.Orders
set_option linter.all false
namespace Go.aq
variable {D:Nat->Bool} {Fp:Nat->Prop} {Hs:Nat->Hp} {T T1:List Value} {Ts:Nat->List Value} {b:Frame} {ds:List Deferred} {i j:Nat} {ops:Array Oper} {p:Pi} {r':Operand->Value} {tm:Array Value} {τ:Nat->Value}
def bB:List Value->Nat->Value
 | [],_=>undef
 |x::_,0=>x
 |_::l,n+1=>bB l n
def kY:List Value->Nat->Value->List Value
 | [],_,_=>[]
 |_::l,0,v=>v::l
 |x::l,n+1,v=>x::kY l n v
theorem iY:∀(l:List Value) (n:Nat) (v:Value),(kY l n v).length=l.length
 | [],_,_=>rfl
 |_::_,0,_=>rfl
 |_::l,n+1,v=>by simp[kY,iY l n v]
theorem uv:∀(l:List Value) (n:Nat) (v:Value) (m:Nat),bB (kY l n v) m=if m=n/\n<l.length then v else bB l m
 | [],n,v,m=>by simp[kY,bB]
 |x::l,0,v,0=>by simp[kY,bB]
 |x::l,0,v,m+1=>by simp[kY,bB]
 |x::l,n+1,v,0=>by simp[kY,bB]
 |x::l,n+1,v,m+1=>by simp[kY,bB,uv l n v m]
def yR (τ:Nat->Value):Operand->Value
 |.tmp t=>τ t
 |.const v=>v
 |.global g=>.pointer (some ⟨g,0,none⟩)
 |.func f=>.func (.func f) #[] #[]
def qy (T:List Value) (dst:Option Tmp) (v:Value):List Value:=match dst with
 |some d=>kY T d v
 |none=>T
def di (P:Program) (ce:Next->Hp->Rs Value) (r:Operand->Value) (o:Oper) (H:Hp):Rs Value:=
 match kX P r o H with
 |some (.value v,H1,R,W)=>some (v,H1,R,W)
 |some (.skip,H1,R,W)=>some (undef,H1,R,W)
 |some (nx,H1,R,W)=>match ce nx H1 with
  |some (v,H2,R2,W2)=>some (v,H2,R|||R2,W|||W2)
  |none=>none
 |none=>none
def yS (P:Program) (S:Nat->Bool) (p:Pi):Prop:=∀g,g<P.globals.size->S (P.funcs.size+g)=true->p g g
theorem yS.mono {P:Program} {S:Nat->Bool} {q:Pi} (h:yS P S p) (hq:Le p q):yS P S q:=fun g a b=>hq _ _ (h g a b)
def gX (P:Program) (nS:List PanicEntry->World->Prop) (b:Frame) (ds:List Deferred) (cs:List Frame) (m:Machine):Prop:=
 ∃tm todo chain w1,Steps P m (lone ((bh b tm ds todo).raise chain) cs w1)/\nS chain w1
theorem gX.of_steps {P:Program} {nS:List PanicEntry->World->Prop} {cs:List Frame} {m m':Machine} (h:Steps P m m') (t:gX P nS b ds cs m'):gX P nS b ds cs m:=
 let⟨tm,todo,chain,w1,a,e⟩:=t;⟨tm,todo,chain,w1,h.trans a,e⟩
structure jh (P:Program) (S:Nat->Bool) (K:Kz) (nS:List PanicEntry->World->Prop) (ce:Next->Hp->Rs Value):Prop where
 ft:∀nx H v H1 R W,ce nx H=some (v,H1,R,W)->Ft H R W H1
 run:∀nx H v H1 R W,ce nx H=some (v,H1,R,W)->∀(p:Pi) (Fp:Nat->Prop) (w:World) (th:Next) (fr:Frame) (cs:List Frame),NX S K p nx th->Rl P S K p H.get Fp w->yS P S p->P.globals.size<=H.n->
  (∀r,H.n<=r->r<H1.n->∀r',¬p r r')->(∀r,(R.testBit r=true\/W.testBit r=true)->Fp r)->
  (Ui P th fr cs w fun v' w1=>∃q,VR S q v v'/\Mv (fun r=>W.testBit r=true) p H.n w q H1.n w1/\Rl P S K q H1.get (fun r=>Fp r\/(H.n<=r/\r<H1.n)) w1)\/
  ∃g chain w1,pa P th=some g/\Steps P (lone g (fr::cs) w) (lone (fr.raise chain) cs w1)/\nS chain w1
section
variable {P:Program} {S:Nat->Bool} {K:Kz} {nS:List PanicEntry->World->Prop} {ce:Next->Hp->Rs Value} {r:Operand->Value} {o:Oper} {H:Hp} {v:Value} {H1:Hp} {R W:Nat}
theorem uw (e:di P ce r o H=some (v,H1,R,W)):
 kX P r o H=some (.value v,H1,R,W)\/(kX P r o H=some (.skip,H1,R,W)/\v=undef)\/
 ∃nx Ha Ra Wa Rb Wb,kX P r o H=some (nx,Ha,Ra,Wa)/\ce nx Ha=some (v,H1,Rb,Wb)/\R=Ra|||Rb/\W=Wa|||Wb:=by
 unfold di at e;split at e
 .rename_i h;simp only[Option.some.injEq,Prod.mk.injEq]at e;obtain⟨rfl,rfl,rfl,rfl⟩:=e;exact .inl h
 .rename_i h;simp only[Option.some.injEq,Prod.mk.injEq]at e;obtain⟨rfl,rfl,rfl,rfl⟩:=e;exact .inr (.inl ⟨h,rfl⟩)
 .rename_i h;split at e<;>try(cases e;done)
  rename_i h2;simp only[Option.some.injEq,Prod.mk.injEq]at e;obtain⟨rfl,rfl,rfl,rfl⟩:=e;exact .inr (.inr ⟨_,_,_,_,_,_,h,h2,rfl,rfl⟩)
 .cases e
theorem Il (fQ:jh P S K nS ce) (e:di P ce r o H=some (v,H1,R,W)):Ft H R W H1:=by
 rcases uw e with h|⟨h,_⟩|⟨nx,Ha,Ra,Wa,Rb,Wb,h,h2,rfl,rfl⟩
 .exact qO h
 .exact qO h
 .exact(qO h).trans (fQ.ft _ _ _ _ _ _ h2)
theorem BD {r:Operand->Value} (ho:iX P S o.op=true) (h:∀x∈o.op.operands,r x=r' x):kX P r o H=kX P r' o H:=by
 have hs:∀cs b,o.op≠ .select cs b:=fun cs b e=>by
  rw[e]at ho;simp[iX,nE]at ho
 have e1:execOp r o=execOp r' o:=execOp_congr o hs h
 have e2:kg r o.op=kg r' o.op:=by
  unfold kg;split
  .rename_i b as ts bJ;split
   .rename_i x hx;rw[h x (by rw[bJ];simp only[Op.operands,Call.operands];exact Array.mem_append_right _ (Array.mem_of_getElem? hx))]
   .rfl
  .rename_i t x lo hi mx bJ;rw[h x (by rw[bJ];simp[Op.operands])]
  .rfl
 unfold kX;rw[e1,e2];cases kg r' o.op<;>simp only[cond_true,cond_false];split
 .rename_i t x lo hi mx bJ;rw[h x (by rw[bJ];simp[Op.operands])]
 .rename_i as ts bJ;have:as.map r=as.map r':=Array.map_congr_left fun x hx=>h x (by rw[bJ];simp[Op.operands,Call.operands,hx]);rw[this]
 .rename_i s d x bJ;rw[h x (by rw[bJ];simp[Op.operands])]
 .rfl
theorem yT {r:Operand->Value} (ho:iX P S o.op=true) (h:∀x∈o.op.operands,r x=r' x):di P ce r o H=di P ce r' o H:=by
 unfold di;rw[BD ho h]
theorem PY (hG:yS P S p) {k:List Item} (hT:∀t,VR S p (τ t) (tm.getD t undef)):qs P S p (yR τ) (bh b tm ds k).eval:=
 ⟨fun t=>hT t,fun v=>⟨rfl,rfl⟩,fun g a c=>.ptr 0 none (hG g a c),fun f=>⟨rfl,rfl⟩⟩
theorem yU (ho:iX P S o.op=true):nR o.op=true:=by
 cases h:o.op<;>first|rfl|(rw[h]at ho;simp[iX,nE]at ho)
theorem LN (hk:Ok P P.funcs S) (hZ:SD P K) (fQ:jh P S K nS ce) {w:World} (ho:ops[i]?=some o) (nk:iX P S o.op=true) (hw:Region.wanted o (yielded ops tm)=true)
 (hT:∀t,VR S p (τ t) (tm.getD t undef)) (e:di P ce (yR τ) o H=some (v,H1,R,W)) (hr:Rl P S K p H.get Fp w) (hG:yS P S p) (hg:P.globals.size<=H.n)
 (hn:∀r,H.n<=r->r<H1.n->∀r',¬p r r') (hF:∀r,(R.testBit r=true\/W.testBit r=true)->Fp r) (b:Frame) (ds:List Deferred) (rest:List Nat) (k:List Item) (cs:List Frame):
 (∃v' w1 q,Steps P (lone (bh b tm ds (.inRegion ops (i::rest)::k)) cs w) (lone (bh b (iz tm o.dst v') ds (.inRegion ops rest::k)) cs w1)/\VR S q v v'/\Mv (fun r=>W.testBit r=true) p H.n w q H1.n w1/\Rl P S K q H1.get (fun r=>Fp r\/(H.n<=r/\r<H1.n)) w1)\/
 gX P nS b ds cs (lone (bh b tm ds (.inRegion ops (i::rest)::k)) cs w):=by
 have hwf:ac P P.funcs=P:=rfl;have hex:=wl (P:=P) (b:=b) (ds:=ds) (k:=k) (cs:=cs) (w:=w) (rest:=rest) ho hw (yU nk);have hE:=PY (b:=b) (ds:=ds) (k:=.inRegion ops (i::rest)::k) hG hT;rcases uw e with h|⟨h,rfl⟩|⟨nx,Ha,Ra,Wa,Rb,Wb,h,h2,rfl,rfl⟩
 .obtain⟨th,w1,q,c1,c2,c3,c4⟩:=mN hk hZ hE o nk h hr hg hn fun r x=>.inr (hF r x);cases c2 with
  | @value _ v' hv=>
    refine .inl ⟨v',w1,q,.one ?_,hv,c3,c4⟩;rw[<-jC v' ho];refine bm rfl ?_;rw[hex];exact(iA rfl c1).1 v' rfl
 .obtain⟨th,w1,q,c1,c2,c3,c4⟩:=mN hk hZ hE o nk h hr hg hn fun r x=>.inr (hF r x);cases c2 with
  |skip=>
   refine .inl ⟨undef,w1,q,.one ?_,VR.undef,c3,c4⟩;rw[<-jC undef ho];refine bm rfl ?_;rw[hex];exact(iA rfl c1).2.1 rfl
 .have fa:=qO h;have fb:=fQ.ft _ _ _ _ _ _ h2;have n1:=fa.nn;have n2:=fb.nn;obtain⟨th,w1,q,c1,c2,c3,c4⟩:=mN hk hZ hE o nk h hr hg (fun r a1 a2=>hn r a1 (by omega)) (fun r nt=>.inr (hF r (nt.imp (fun x=>by rw[Nat.testBit_or,x];rfl) fun x=>by rw[Nat.testBit_or,x];rfl)))
  have Uj:=fQ.run _ _ _ _ _ _ h2 q (fun r=>Fp r\/(H.n<=r/\r<Ha.n)) w1 th (bh b tm ds (.inRegion ops (i::rest)::k)) cs c2 c4 (hG.mono c3.le) (by omega) (fun r a1 a2 r' hq=>by
   rcases c3.new r r' hq with x|⟨_,x,_⟩
   .exact hn r (by omega) a2 r' x
   .omega) (fun r nt=>.inl (hF r (nt.imp (fun x=>by rw[Nat.testBit_or,x,Bool.or_true]) fun x=>by rw[Nat.testBit_or,x,Bool.or_true])))
  rcases Uj with⟨g,v',w2,d1,d2,q2,d3,d4,d5⟩|⟨g,chain,w2,d1,d2,d3⟩
  rotate_left
  .refine .inr ⟨_,_,chain,w2,.head (bm rfl ?_) d2,d3⟩;rw[hex];exact(iA rfl c1).2.2 g d1
  refine .inl ⟨v',w2,q2,?_,d3,c3.trans d4 (fun r x=>by rw[Nat.testBit_or,x];rfl) (fun r x=>by rw[Nat.testBit_or,x,Bool.or_true]),d5.mono fun r x=>?_⟩
  .rw[<-jC v' ho];refine .head (bm rfl ?_) d2;rw[hex];exact(iA rfl c1).2.2 g d1
  .rcases x with x|⟨a,b⟩
   .exact .inl (.inl x)
   .by_cases ar:r<Ha.n
    .exact .inl (.inr ⟨a,ar⟩)
    .exact .inr ⟨by omega,b⟩
end
section
variable {κ β:Type} (A:Nat->κ->β) (wr:Nat->κ->Bool)
def last (D:Nat->Bool):Nat->κ->β
 |0,k=>A 0 k
 |i+1,k=>if D i&&wr i k then A (i+1) k else last D i k
variable {A wr}
theorem qQ {n:Nat} {k:κ} (hA:∀i,i<n->wr i k=false->A (i+1) k=A i k) (hi:i<=n) (h1:∀j,j<i->wr j k=true->D j=true) (h2:∀j,i<=j->j<n->wr j k=true->D j=false):
 last A wr D n k=A i k:=by
 have lo:∀m,m<=i->last A wr D m k=A m k:=by
  intro m;induction m with
  |zero=>intro _;rfl
  |succ m ih=>
   intro hm;simp only[last];cases hw:wr m k with
   |false=>simp only[Bool.and_false,Bool.false_eq_true,if_false];rw[ih (by omega),hA m (by omega) hw]
   |true=>rw[h1 m (by omega) hw];rfl
 have nA:∀m,i<=m->m<=n->last A wr D m k=A i k:=by
  intro m;induction m with
  |zero=>intro a _;have:i=0:=by omega
         rw[this];rfl
  |succ m ih=>
   intro a b;by_cases e:i=m+1
   .rw[<-e];exact lo i (Nat.le_refl i)
   .simp only[last];cases hw:wr m k with
    |false=>simp only[Bool.and_false,Bool.false_eq_true,if_false];exact ih (by omega) (by omega)
    |true=>rw[h2 m (by omega) (by omega) hw];simp only[Bool.false_and,Bool.false_eq_true,if_false];exact ih (by omega) (by omega)
 exact nA n hi (Nat.le_refl n)
def add (D:Nat->Bool) (i:Nat):Nat->Bool:=fun j=>j==i||D j
theorem wq {k:κ} (h:wr i k=false):∀n,last A wr (add D i) n k=last A wr D n k:=by
 intro n;induction n with
 |zero=>rfl
 |succ n ih=>
  simp only[last,ih];by_cases e:n=i
  .subst e;rw[h];simp
  .have:add D i n=D n:=by simp[add,e]
   rw[this]
theorem Dw {k:κ} (h:wr i k=true):∀n,i<n->(∀j,i<j->j<n->wr j k=true->D j=false)->last A wr (add D i) n k=A (i+1) k:=by
 intro n;induction n with
 |zero=>intro a _;omega
 |succ n ih=>
  intro a b;simp only[last];by_cases e:n=i
  .subst e;rw[h];simp[add]
  .have e2:add D i n=D n:=by simp[add,e]
   rw[e2];cases hw:wr n k with
   |false=>simp only[Bool.and_false,Bool.false_eq_true,if_false];exact ih (by omega) fun j x y=>b j x (by omega)
   |true=>rw[b n (by omega) (by omega) hw];simp only[Bool.false_and,Bool.false_eq_true,if_false];exact ih (by omega) fun j x y=>b j x (by omega)
end
def iB (ops:Array Oper) (τ:Nat->Value) (j:Nat):Option Bool:=
 match(ops[j]?).bind (·.dst)with
 |some d=>match τ d with
  |.bool b=>some b
  |_=>none
 |none=>none
def nU (P:Program) (ce:Next->Hp->Rs Value) (ops:Array Oper) (i:Nat) (T:List Value) (H:Hp):Rs (List Value):=
 match ops[i]? with
 |none=>none
 |some o=>bif Region.wanted o (iB ops (bB T))then match di P ce (yR (bB T)) o H with
   |some (v,H1,R,W)=>some (qy T o.dst v,H1,R,W)
   |none=>none
  else some (qy T o.dst undef,H,0,0)
theorem pN (T:List Value) (d:Option Tmp) (v:Value):(qy T d v).length=T.length:=by
 cases d<;>simp[qy,iY]
theorem ux (T:Array Value) (d:Option Tmp) (v:Value):(iz T d v).size=T.size:=by
 cases d<;>simp[iz]
theorem pc (T:List Value) (d:Option Tmp) (v:Value) (t:Nat):bB (qy T d v) t=if d=some t/\t<T.length then v else bB T t:=by
 cases d with
 |none=>simp[qy]
 |some d=>
  simp only[qy,uv,Option.some.injEq];by_cases e:d=t
  .subst e;simp
  .have:¬t=d:=fun h=>e h.symm;simp[e,this]
theorem uy (T:Array Value) (d:Option Tmp) (v:Value) (t:Nat):(iz T d v).getD t undef=if d=some t/\t<T.size then v else T.getD t undef:=by
 cases d with
 |none=>simp[iz]
 |some d=>
  simp only[iz,Option.some.injEq,Array.getD_eq_getD_getElem?,Array.getElem?_setIfInBounds];by_cases e:d=t
  .subst e;by_cases h:d<T.size<;>simp[h]
  .simp[e]
section
variable {P:Program} {S:Nat->Bool} {K:Kz} {nS:List PanicEntry->World->Prop} {ce:Next->Hp->Rs Value}
theorem Ff {o:Oper} (h:∀g b d,o.guard=some (g,b)->(ops[g]?).bind (·.dst)=some d->VR S p (τ d) (tm.getD d undef)):
 Region.wanted o (yielded ops tm)=Region.wanted o (iB ops τ):=by
 unfold Region.wanted;cases hg:o.guard with
 |none=>rfl
 |some gb=>
  obtain⟨g,b⟩:=gb;simp only
  have:yielded ops tm g=iB ops τ g:=by
   unfold yielded iB;cases hd:(ops[g]?).bind (·.dst)with
   |none=>rfl
   |some d=>
    have hv:=h g b d hg hd;simp only[Option.bind_some];rw[Array.getD_eq_getD_getElem?]at hv;cases hx:tm[d]? with
    |none=>
     rw[hx]at hv;simp only[Option.getD_none]at hv;generalize τ d=x at hv;cases hv<;>first|rfl|(rename_i h;cases h)
    |some y=>
     rw[hx]at hv;simp only[Option.getD_some]at hv;generalize τ d=x at hv;cases hv<;>first|rfl|(rename_i h;cases y<;>first|rfl|cases h)
  rw[this]
theorem jD {H:Hp} {H1:Hp} {R W:Nat} (e:nU P ce ops i T H=some (T1,H1,R,W)):
 ∃o,ops[i]?=some o/\((Region.wanted o (iB ops (bB T))=true/\∃v,di P ce (yR (bB T)) o H=some (v,H1,R,W)/\T1=qy T o.dst v)\/
  (Region.wanted o (iB ops (bB T))=false/\T1=qy T o.dst undef/\H1=H/\R=0/\W=0)):=by
 unfold nU at e;split at e
 .cases e
 .rename_i o ho;refine⟨o,ho,?_⟩;cases hw:Region.wanted o (iB ops (bB T))<;>rw[hw]at e<;>simp only[cond_true,cond_false]at e
  .simp only[Option.some.injEq,Prod.mk.injEq]at e;obtain⟨rfl,rfl,rfl,rfl⟩:=e;exact .inr ⟨rfl,rfl,rfl,rfl,rfl⟩
  .split at e<;>try(cases e;done)
   rename_i v H2 R2 W2 ha;simp only[Option.some.injEq,Prod.mk.injEq]at e;obtain⟨rfl,rfl,rfl,rfl⟩:=e;exact .inl ⟨rfl,v,ha,rfl⟩
theorem nV (fQ:jh P S K nS ce) {H:Hp} {H1:Hp} {R W:Nat} (e:nU P ce ops i T H=some (T1,H1,R,W)):Ft H R W H1:=by
 obtain⟨o,_,h⟩:=jD e;rcases h with⟨_,v,h,_⟩|⟨_,_,rfl,rfl,rfl⟩
 .exact Il fQ h
 .exact Ft.refl _
structure SE (P:Program) (ce:Next->Hp->Rs Value) (ops:Array Oper) (Ts:Nat->List Value) (Hs:Nat->Hp) (R W:Nat->Nat):Prop where
 one:∀i,i<ops.size->nU P ce ops i (Ts i) (Hs i)=some (Ts (i+1),Hs (i+1),R i,W i)
def Good (Fo:Nat->Nat->Prop) (n:Nat):(Nat->Bool)->List Nat->Prop
 |D,[]=>∀i,i<n->D i=true
 |D,i::l=>i<n/\D i=false/\(∀a,Fo a i->D a=true)/\Good Fo n (add D i) l
def AC (W:Nat->Nat) (i r:Nat):Bool:=(W i).testBit r
def AD (ops:Array Oper) (i t:Nat):Bool:=(ops[i]?).bind (·.dst)==some t
def Uk (R W:Nat->Nat) (i j:Nat):Prop:=∀r,((W i).testBit r=true->(R j).testBit r=false/\(W j).testBit r=false)/\((W j).testBit r=true->(R i).testBit r=false)
theorem SE.Im {R W:Nat->Nat} (t:SE P ce ops Ts Hs R W) (fQ:jh P S K nS ce) (hj:j<=ops.size) (h:i<=j):(Hs i).n<=(Hs j).n:=by
 induction j with
 |zero=>have:i=0:=by omega
        subst this;exact Nat.le_refl _
 |succ j ih=>
  by_cases e:i=j+1
  .subst e;exact Nat.le_refl _
  .exact Nat.le_trans (ih (by omega) (by omega)) (nV fQ (t.one j (by omega))).nn
theorem SE.length {R W:Nat->Nat} (t:SE P ce ops Ts Hs R W) (hj:j<=ops.size):(Ts j).length=(Ts 0).length:=by
 induction j with
 |zero=>rfl
 |succ j ih=>
  rw[<-ih (by omega)];obtain⟨o,_,h⟩:=jD (t.one j (by omega));rcases h with⟨_,v,_,h⟩|⟨_,h,_⟩<;>rw[h,pN]
theorem LO (hk:Ok P P.funcs S) (hZ:SD P K) (fQ:jh P S K nS ce) (ru:∀(i:Nat) (o:Oper),ops[i]?=some o->iX P S o.op=true)
 {R W:Nat->Nat} (t:SE P ce ops Ts Hs R W) {Fo:Nat->Nat->Prop}
 (hm:∀i j,i<j->j<ops.size->Fo i j\/Uk R W i j) (ht:∀(i j:Nat) (oi oj:Oper),i<j->ops[i]?=some oi->ops[j]?=some oj->Fo i j\/oi.apart ops oj=true)
 (hg:P.globals.size<=(Hs 0).n) (Xg:∀i,i<ops.size->∀r,((R i).testBit r=true\/(W i).testBit r=true)->Fp r) (b:Frame) (ds:List Deferred) (k:List Item) (cs:List Frame):
 ∀(l:List Nat) (D:Nat->Bool) (p:Pi) (tm:Array Value) (w:World),Good Fo ops.size D l->(∀a c,Fo a c->D c=true->D a=true)->tm.size=(Ts 0).length->
  Rl P S K p (last (fun i=>(Hs i).get) (AC W) D ops.size) Fp w->(∀x,VR S p (last (fun i=>bB (Ts i)) (AD ops) D ops.size x) (tm.getD x undef))->yS P S p->
  (∀j,j<ops.size->D j=false->∀r,(Hs j).n<=r->r<(Hs (j+1)).n->∀r',¬p r r')->
  (∃bA w' q,Steps P (lone (bh b tm ds (.inRegion ops l::k)) cs w) (lone (bh b bA ds (.inRegion ops []::k)) cs w')/\bA.size=(Ts 0).length/\
    Mv (fun r=>∃i,i<ops.size/\(W i).testBit r=true) p (Hs 0).n w q (Hs ops.size).n w'/\Rl P S K q (Hs ops.size).get Fp w'/\∀x,VR S q (bB (Ts ops.size) x) (bA.getD x undef))\/
  gX P nS b ds cs (lone (bh b tm ds (.inRegion ops l::k)) cs w):=by
 have mono:=fun i j=>t.Im (i:=i) (j:=j) fQ;have Oc:∀i,i<ops.size->∀r,AC W i r=false->(Hs (i+1)).get r=(Hs i).get r:=fun i hi r hr=>(nV fQ (t.one i hi)).same r hr
 have Od:∀i,i<ops.size->∀x,AD ops i x=false->bB (Ts (i+1)) x=bB (Ts i) x:=fun i hi x hx=>by
  obtain⟨o,ho,h⟩:=jD (t.one i hi);have hd:¬(o.dst=some x):=fun e=>by simp[AD,ho,e]at hx
  rcases h with⟨_,v,_,h⟩|⟨_,h,_⟩<;>rw[h,pc,if_neg (fun a=>hd a.1)]
 intro l;induction l with
 |nil=>
  intro D p tm w hl hD bQ hr hT hG hn;have hl:∀i,i<ops.size->D i=true:=hl;refine .inl ⟨tm,w,p,.refl _ _,bQ,(Mv.refl _ p _ w).wide (Nat.le_refl _) (mono 0 ops.size (Nat.le_refl _) (Nat.zero_le _)),hr.congr fun r _=>?_,fun x=>?_⟩
  .exact(qQ (A:=fun i=>(Hs i).get) (wr:=AC W) (k:=r) (fun i hi h=>Oc i hi r h) (Nat.le_refl _) (fun j hj _=>hl j hj) (fun j a b _=>by omega)).symm
  .rw[<-qQ (A:=fun i=>bB (Ts i)) (wr:=AD ops) (k:=x) (fun i hi h=>Od i hi x h) (Nat.le_refl _) (fun j hj _=>hl j hj) (fun j a b _=>by omega)];exact hT x
 |cons i l ih=>
  intro D p tm w hl hD bQ hr hT hG hn;obtain⟨hi,SF,tE,hl⟩:=hl;have e1:=t.one i hi;have AB:=nV fQ e1;obtain⟨o,ho,jx⟩:=jD e1
  have later:∀j,i<j->Fo i j->D j=false:=fun j hj hf=>by
   cases hx:D j with
   |false=>rfl
   |true=>rw[hD i j hf hx]at SF;cases SF
  have Oe:∀r,((R i).testBit r=true\/(W i).testBit r=true)->(Hs i).get r=last (fun i=>(Hs i).get) (AC W) D ops.size r:=fun r hr=>by
   refine(qQ (A:=fun i=>(Hs i).get) (wr:=AC W) (k:=r) (fun i hi h=>Oc i hi r h) (Nat.le_of_lt hi) (fun j hj hw=>?_) (fun j a c hw=>?_)).symm
   .rcases hm j i hj hi with h|h
    .exact tE j h
    .have:=(h r).1 hw;rcases hr with x|x<;>simp_all
   .by_cases e:j=i
    .subst e;exact SF
    .have qH:i<j:=by omega
     rcases hm i j qH c with h|h
     .exact later j qH h
     .have h2:=h r;have hw:(W j).testBit r=true:=hw;rcases hr with x|x
      .have:=h2.2 hw;rw[x]at this;cases this
      .have:=(h2.1 x).2;rw[hw]at this;cases this
  have In:∀x,x∈o.looksAt ops->last (fun i=>bB (Ts i)) (AD ops) D ops.size x=bB (Ts i) x:=fun x hx=>by
   refine qQ (A:=fun i=>bB (Ts i)) (wr:=AD ops) (k:=x) (fun i hi h=>Od i hi x h) (Nat.le_of_lt hi) (fun j hj hw=>?_) (fun j a c hw=>?_)
   .have hjs:j<ops.size:=by omega
    have EN:ops[j]?=some ops[j]:=Array.getElem?_eq_getElem hjs;have hd:ops[j].dst=some x:=by simpa [AD,EN]using hw
    rcases ht j i _ _ hj EN ho with h|h
    .exact tE j h
    .exact absurd hx ((Oper.apart_spec h).1 x hd)
   .by_cases e:j=i
    .subst e;exact SF
    .have qH:i<j:=by omega
     have EN:ops[j]?=some ops[j]:=Array.getElem?_eq_getElem c;have hd:ops[j].dst=some x:=by simpa [AD,EN]using hw
     rcases ht i j _ _ qH ho EN with h|h
     .exact later j qH h
     .exact absurd hx ((Oper.apart_spec h).2.2 x hd)
  have kR:Region.wanted o (yielded ops tm)=Region.wanted o (iB ops (bB (Ts i))):=by
   refine Ff (S:=S) (p:=p) fun g c d NS hd=>?_;rw[<-In d (by simp[Oper.looksAt,NS,hd])];exact hT d
  have Dx:∀a c,Fo a c->add D i c=true->add D i a=true:=fun a c hac hc=>by
   simp only[add,Bool.or_eq_true,beq_iff_eq]at hc⊢;rcases hc with rfl|hc
   .exact .inr (tE a hac)
   .exact .inr (hD a c hac hc)
  have Dy:∀{v v':Value} {q:Pi},Le p q->VR S q v v'->Ts (i+1)=qy (Ts i) o.dst v->∀x,VR S q (last (fun i=>bB (Ts i)) (AD ops) (add D i) ops.size x) ((iz tm o.dst v').getD x undef):=fun{v v' q} hq hv Ul x=>by
   rw[uy];cases hw:AD ops i x with
   |false=>
    have hd:¬(o.dst=some x):=fun e=>by simp[AD,ho,e]at hw
    rw[wq hw,if_neg fun a=>hd a.1];exact(hT x).mono hq
   |true=>
    have hd:o.dst=some x:=by simpa [AD,ho]using hw
    rw[Dw hw ops.size hi fun j qH c Um=>?_]
    .rw[Ul,pc,t.length (Nat.le_of_lt hi),<-bQ];by_cases ar:x<tm.size
     .rw[if_pos ⟨hd,ar⟩,if_pos ⟨hd,ar⟩];exact hv
     .rw[if_neg fun a=>ar a.2,if_neg fun a=>ar a.2];have e2:tm.getD x undef=undef:=by rw[Array.getD_eq_getD_getElem?,Array.getElem?_eq_none (by omega)];rfl
      have e3:bB (Ts i) x=undef:=by
       have:∀(L:List Value) n,L.length<=n->bB L n=undef:=by
        intro L;induction L with
        |nil=>intro n _;rfl
        |cons y L ih=>intro n hn;cases n with
         |zero=>simp at hn
         |succ n=>exact ih n (by simpa using hn)
       exact this _ _ (by rw[t.length (Nat.le_of_lt hi),<-bQ];omega)
      rw[e2,e3];exact VR.undef
    .have EN:ops[j]?=some ops[j]:=Array.getElem?_eq_getElem c;have Su:ops[j].dst=some x:=by simpa [AD,EN]using Um
     rcases ht i j _ _ qH ho EN with h|h
     .exact later j qH h
     .exact absurd Su ((Oper.apart_spec h).2.1 x hd)
  have yV:∀{q:Pi} {w1:World},Mv (fun r=>(W i).testBit r=true) p (Hs i).n w q (Hs (i+1)).n w1->∀j,j<ops.size->add D i j=false->∀r,(Hs j).n<=r->r<(Hs (j+1)).n->∀r',¬q r r':=fun{q w1} qu j hj Zd r h1 h2 r' hq=>by
   simp only[add,Bool.or_eq_false_iff,beq_eq_false_iff_ne,ne_eq]at Zd;rcases qu.new r r' hq with x|⟨a,c,_⟩
   .exact hn j hj Zd.2 r h1 h2 r' x
   .rcases Nat.lt_or_gt_of_ne Zd.1 with h|h
    .have:=mono (j+1) i (by omega) (by omega);omega
    .have:=mono (i+1) j (by omega) (by omega);omega
  have m0:=mono 0 i (Nat.le_of_lt hi) (Nat.zero_le _);have m1:=mono (i+1) ops.size (Nat.le_refl _) hi;have Io:∀{q:Pi} {w1:World},Mv (fun r=>(W i).testBit r=true) p (Hs i).n w q (Hs (i+1)).n w1->Mv (fun r=>∃i,i<ops.size/\(W i).testBit r=true) p (Hs 0).n w q (Hs ops.size).n w1:=fun h=>(h.wide m0 m1).mono fun r x=>⟨i,hi,x⟩
  rcases jx with⟨hw,v,aY,Ul⟩|⟨hw,Ul,Uc,hR,hW⟩
  .have Ze:di P ce (yR (last (fun i=>bB (Ts i)) (AD ops) D ops.size)) o (Hs i)=some (v,Hs (i+1),R i,W i):=by
    rw[<-aY];refine yT (ru i o ho) fun x hx=>?_;cases x with
    |tmp x=>exact In x (List.mem_append_left _ (List.mem_filterMap.2 ⟨.tmp x,by simpa using hx,rfl⟩))
    |_=>rfl
   have Zf:=LN hk hZ fQ (Fp:=fun r=>(R i).testBit r=true\/(W i).testBit r=true) ho (ru i o ho) (kR.trans hw) hT Ze ((hr.mono (Xg i hi)).congr fun r x=>Oe r x) hG (by omega) (hn i hi SF) (fun r x=>x) b ds l k cs;rcases Zf with⟨v',w1,q,c1,c2,c3,c4⟩|Ip;rotate_left
   .exact .inr Ip
   have jg:∀r,(W i).testBit r=true->((Hs i).n<=r/\r<(Hs (i+1)).n)\/(last (fun i=>(Hs i).get) (AC W) D ops.size r).isSome:=fun r hr=>(AB.wr r hr).imp id fun x=>by rw[<-Oe r (.inr hr)];exact x
   have Un:=hr.join c3 c4 (h2:=last (fun i=>(Hs i).get) (AC W) (add D i) ops.size) (fun r x=>.inl (.inr x)) (fun r x=>Xg i hi r (.inr x)) AB.nw (hn i hi SF) jg (fun r x=>Dw (wr:=AC W) x ops.size hi fun j qH c Um=>by
    rcases hm i j qH c with h|h
    .exact later j qH h
    .have h2:=((h r).1 x).2;have Um:(W j).testBit r=true:=Um;rw[Um]at h2;cases h2) (fun r x=>wq (wr:=AC W) (by simpa [AC]using x) ops.size)
   rcases ih (add D i) q (iz tm o.dst v') w1 hl Dx (by rw[ux];exact bQ) Un (Dy c3.le c2 Ul) (hG.mono c3.le) (yV c3)with⟨bA,w',q',d1,d2,d3,d4,d5⟩|Ip;rotate_left
   .exact .inr (.of_steps c1 Ip)
   exact .inl ⟨bA,w',q',c1.trans d1,d2,(Io c3).Ii d3 (fun _ x=>x) (fun _ x=>x),d4,d5⟩
  .have mw:∀r,last (fun i=>(Hs i).get) (AC W) (add D i) ops.size r=last (fun i=>(Hs i).get) (AC W) D ops.size r:=fun r=>wq (wr:=AC W) (by simp[AC,hW]) ops.size;have qu:Mv (fun r=>(W i).testBit r=true) p (Hs i).n w p (Hs (i+1)).n w:=(Mv.refl _ p _ w).wide (Nat.le_refl _) AB.nn;rcases ih (add D i) p (iz tm o.dst undef) w hl Dx (by rw[ux];exact bQ) (hr.congr fun r _=>mw r) (Dy (Le.refl p) VR.undef Ul) hG (yV qu)with⟨bA,w',q',d1,d2,d3,d4,d5⟩|Ip;rotate_left
   .exact .inr (.of_steps (.one (mz ho (kR.trans hw))) Ip)
   exact .inl ⟨bA,w',q',.head (mz ho (kR.trans hw)) d1,d2,(Io qu).Ii d3 (fun _ x=>x) (fun _ x=>x),d4,d5⟩
end
end Go.aq
namespace Go.aq
open Go.aq (N3 GO)
variable {H H1:Hp} {R R1 W W1 j n:Nat} {T T1:List Value} {draw:Bool} {l:List Nat} {listed:Array Bool} {m:Region.Mode}
inductive eV (ops:Array Oper):Nat->Nat->Prop
 |PZ {i j:Nat} {o:Oper} {e:Edge} (h:ops[j]?=some o) (he:e∈o.after) (hb:Region.binds .any e=true) (hi:e.on=i):eV ops i j
 |step {i k j:Nat} {o:Oper} {e:Edge} (t:eV ops i k) (h:ops[j]?=some o) (he:e∈o.after) (hb:Region.binds .any e=true) (hi:e.on=k):eV ops i j
def Fg (m i:Nat):Bool:=Nat.beq (Nat.land 1 (Nat.shiftRight m i)) 1
theorem yW {m i:Nat} (h:Fg m i=true):m.testBit i=true:=by
 have h:=Nat.eq_of_beq_eq_true h;have h:1&&&(m>>>i)=1:=h;simp[Nat.testBit,h]
def rT:List Nat->Nat->Nat
 | [],_=>0
 |x::_,0=>x
 |_::l,n+1=>rT l n
theorem wu:∀(l:List Nat) (n:Nat),rT l n=(l[n]?).getD 0
 | [],n=>rfl
 |x::l,0=>rfl
 |x::l,n+1=>by simp[rT,wu l n]
def P0 (l:List Nat):List Edge->Nat->Nat
 | [],m=>m
 |e::es,m=>P0 l es (bif Region.binds .any e then Nat.lor m (Nat.lor (2^e.on) (rT l e.on))else m)
def qz (ops:Array Oper):Nat->List Nat
 |0=>[]
 |n+1=>qz ops n++[match ops[n]? with|none=>0|some o=>P0 (qz ops n) o.after.toList 0]
theorem iZ (ops:Array Oper):∀n,(qz ops n).length=n
 |0=>rfl
 |n+1=>by simp[qz,iZ ops n]
theorem Fh {ops:Array Oper} {o:Oper} (ho:ops[j]?=some o) (hl:∀k i,(rT l k).testBit i=true->eV ops i k):∀(es:List Edge) (m:Nat),(∀e∈es,e∈o.after)->(∀i,m.testBit i=true->eV ops i j)->∀i,(P0 l es m).testBit i=true->eV ops i j:=by
 intro es;induction es with
 |nil=>intro m _ hm i h;exact hm i h
 |cons e es ih=>
  intro m he hm i h;refine ih _ (fun x hx=>he x (List.mem_cons_of_mem _ hx)) (fun i h=>?_) i h;cases hb:Region.binds .any e<;>rw[hb]at h<;>simp only[cond_true,cond_false]at h
  .exact hm i h
  .have h:(m|||(2^e.on|||rT l e.on)).testBit i=true:=h;rw[Nat.testBit_or,Nat.testBit_or,Bool.or_eq_true,Bool.or_eq_true]at h;rcases h with h|h|h
   .exact hm i h
   .rw[tb]at h;exact .PZ ho (he e (by simp)) hb h.symm
   .exact .step (hl _ _ h) ho (he e (by simp)) hb rfl
theorem uz (ops:Array Oper):∀n k i,(rT (qz ops n) k).testBit i=true->eV ops i k:=by
 intro n;induction n with
 |zero=>intro k i h;simp[qz,rT]at h
 |succ n ih=>
  intro k i h;rw[wu]at h;simp only[qz]at h;rcases Nat.lt_or_ge k n with hk|hk
  .rw[List.getElem?_append_left (by rw[iZ];exact hk),<-wu]at h;exact ih k i h
  .rw[List.getElem?_append_right (by rw[iZ];exact hk),iZ]at h;by_cases e:k=n
   .subst e;simp only[Nat.sub_self,List.getElem?_cons_zero,Option.getD_some]at h;cases ho:ops[k]? with
    |none=>rw[ho]at h;simp at h
    |some o=>
     rw[ho]at h;exact Fh ho ih o.after.toList 0 (fun e he=>by simpa using he) (fun i h=>by simp at h) i h
   .rw[List.getElem?_eq_none (by simp;omega)]at h;simp at h
def KE (listed:Array Bool):Nat->Nat
 |0=>0
 |m+1=>KE listed m+(bif listed.getD m true then 0 else 1)
theorem yX {listed:Array Bool}:∀{m:Nat},KE listed m=0->∀i,i<m->listed.getD i true=true
 |0,_,i,hi=>absurd hi (Nat.not_lt_zero _)
 |m+1,h,i,hi=>by
  simp only[KE]at h;by_cases e:i=m
  .subst e;cases hx:listed.getD i true with
   |true=>rfl
   |false=>rw[hx]at h;simp at h
  .exact yX (m:=m) (by omega) i (by omega)
theorem Dz {listed:Array Bool} {i:Nat} (hi:listed.getD i true=false):∀{m:Nat},KE (listed.setIfInBounds i true) m+(if i<m then 1 else 0)=KE listed m
 |0=>by simp[KE]
 |m+1=>by
  have ih:=Dz hi (m:=m);simp only[KE];by_cases e:i=m
  .subst e
   have ar:i<listed.size:=by
    rcases Nat.lt_or_ge i listed.size with h|h
    .exact h
    .simp[h]at hi
   have:(listed.setIfInBounds i true).getD i true=true:=by simp[ar]
   rw[this,hi];simp only[Nat.lt_irrefl,if_false,Nat.lt_succ_self,if_true,cond_true,cond_false]at ih⊢;omega
  .rw[Go.getD_set_ne true e];by_cases h:i<m
   .rw[if_pos h]at ih;rw[if_pos (by omega)];omega
   .rw[if_neg h]at ih;rw[if_neg (by omega)];omega
theorem DA {ops:Array Oper}:j∈GO m ops listed↔listed.getD j true=false/\∃o,ops[j]?=some o/\∀e∈o.after,Region.binds m e=true->listed.getD e.on false=true:=
 Go.mem_ready
theorem uA {e:Edge} (h:Region.binds .any e=true):Region.binds m e=true:=by
 unfold Region.binds at*;split at h<;>first|(cases h;done)|rfl
theorem iC {Fo:Nat->Nat->Prop}:∀{l:List Nat} {D E:Nat->Bool},(∀i,i<n->D i=E i)->(∀a b,Fo a b->b<n->a<n)->Good Fo n D l->Good Fo n E l
 | [],D,E,h,_,g=>fun i hi=>by rw[<-h i hi];exact g i hi
 |i::l,D,E,h,hFo,⟨g1,g2,g3,g4⟩=>⟨g1,by rw[<-h i g1];exact g2,fun a ha=>by rw[<-h a (hFo a i ha g1)];exact g3 a ha,iC (fun j hj=>by simp only[add,h j hj]) hFo g4⟩
section
variable {ops:Array Oper} (hE:∀ (i:Nat) (o:Oper) (e:Edge),ops[i]?=some o->e ∈ o.after->Region.binds .any e=true->e.on < i)
include hE
theorem uB {a b:Nat} (h:eV ops a b):a<b:=by
 induction h with
 |PZ h he hb hi=>have:=hE _ _ _ h he hb;omega
 |step t h he hb hi ih=>have:=hE _ _ _ h he hb;omega
theorem Iq {yY:Nat->Nat} (hR:∀(i:Nat) (o:Oper) (e:Edge),ops[i]?=some o->e∈o.after->Region.binds m e=true->e.on<ops.size/\yY e.on<yY i)
 (h:N3 m ops n listed l):listed.size=ops.size->KE listed ops.size<=n->
 (∀a b,eV ops a b->listed.getD b false=true->listed.getD a false=true)->Good (eV ops) ops.size (fun j=>listed.getD j false) l:=by
 induction h with
 | @stop n listed h=>
   intro hs hu hc i hi
   have all:∀i,i<ops.size->listed.getD i true=true:=by
    rcases h with h|h
    .subst h;exact yX (by omega)
    .have:∀k i,yY i=k->i<ops.size->listed.getD i true=true:=by
      intro k;induction k using Nat.strongRecOn with
      |ind k ih=>
       intro i hk hi;cases hx:listed.getD i true with
       |true=>rfl
       |false=>
        have ho:ops[i]?=some ops[i]:=Array.getElem?_eq_getElem hi
        have:i∈GO m ops listed:=DA.2 ⟨hx,_,ho,fun e he hb=>by
         obtain⟨h1,h2⟩:=hR _ _ _ ho he hb;have:=ih (yY e.on) (by omega) e.on rfl h1;have h2:e.on<listed.size:=by omega
         simpa [h2]using this⟩
        rw[h]at this;cases this
     exact fun i hi=>this _ i rfl hi
   have:=all i hi;have h2:i<listed.size:=by omega
   simpa [h2]using this
 | @next n i listed l h t ih=>
   intro hs hu hc;obtain⟨h1,o,ho,h2⟩:=DA.1 h;have hi:i<ops.size:=(Array.getElem?_eq_some_iff.1 ho).1;have his:i<listed.size:=by omega
   have tE:∀a,eV ops a i->listed.getD a false=true:=fun a ha=>by
    cases ha with
    |PZ h he hb hi=>rw[ho]at h;cases h;rw[<-hi];exact h2 _ he (uA hb)
    |step t h he hb hi=>rw[ho]at h;cases h;exact hc _ _ t (by rw[<-hi];exact h2 _ he (uA hb))
   have e1:∀j,j<ops.size->(listed.setIfInBounds i true).getD j false=add (fun j=>listed.getD j false) i j:=fun j hj=>by
    by_cases e:j=i
    .subst e;simp[add,his]
    .rw[Go.getD_set_ne false (Ne.symm e)];simp only[add,beq_false_of_ne e,Bool.false_or]
   refine⟨hi,by simpa [his]using h1,tE,?_⟩;have ar:∀a b,eV ops a b->b<ops.size->a<ops.size:=fun a b nz hb=>Nat.lt_trans (uB hE nz) hb;refine iC (fun j hj=>e1 j hj) ar (ih (by simpa using hs) ?_ fun a b nz hb=>?_)
   .have:=Dz h1 (m:=ops.size);rw[if_pos hi]at this;omega
   .by_cases e:i=b
    .subst e;exact Go.getD_set_true (tE a nz)
    .rw[Go.getD_set_ne false e]at hb;exact Go.getD_set_true (hc a b nz hb)
end
theorem uC:∀(n m:Nat),KE (Array.replicate n false) m<=m
 |n,0=>Nat.le_refl _
 |n,m+1=>by
  have:=uC n m;simp only[KE];cases(Array.replicate n false).getD m true<;>simp<;>omega
def pos:List Nat->Nat->Nat
 | [],_=>0
 |x::l,i=>bif Nat.beq x i then 0 else pos l i+1
def lN (ops:Array Oper):Bool:=
 ((List.range ops.size).all fun i=>match ops[i]? with|some o=>o.after.all fun e=>Nat.blt e.on ops.size&&(!(Region.binds .any e||Region.binds .text e)||Nat.blt e.on i)|none=>true)&&
 (!Region.departs ops||(let l:=Region.linearise .gc ops 0;(List.range ops.size).all fun i=>match ops[i]? with|some o=>o.after.all fun e=>!Region.binds .gc e||Nat.blt (pos l e.on) (pos l i)|none=>true))
theorem rU {ops:Array Oper} (h:lN ops=true):
 (∀(i:Nat) (o:Oper) (e:Edge),ops[i]?=some o->e∈o.after->Region.binds .any e=true->e.on<i)/\
 ∀m,(m=.gc->Region.departs ops=true)->∃yY:Nat->Nat,∀(i:Nat) (o:Oper) (e:Edge),ops[i]?=some o->e∈o.after->Region.binds m e=true->e.on<ops.size/\yY e.on<yY i:=by
 simp only[lN,Bool.and_eq_true]at h
 have arr:∀{f:Edge->Bool} {a:Array Edge},a.all f=true->∀e∈a,f e=true:=fun{f a} h e he=>by
  obtain⟨j,hj,hje⟩:=Array.mem_iff_getElem.1 he;have h3:=Array.all_eq_true.1 h j hj;rw[hje]at h3;exact h3
 have h1:∀(i:Nat) (o:Oper) (e:Edge),ops[i]?=some o->e∈o.after->e.on<ops.size/\((Region.binds .any e=true\/Region.binds .text e=true)->e.on<i):=fun i o e ho he=>by
  have hi:i<ops.size:=(Array.getElem?_eq_some_iff.1 ho).1;have:=List.all_eq_true.1 h.1 i (List.mem_range.2 hi);rw[ho]at this;have:=arr this e he;simp only[Bool.and_eq_true]at this;refine⟨Nat.lt_of_lt_of_le (Nat.lt_succ_self _) (Nat.le_of_ble_eq_true this.1),fun hb=>?_⟩;have h2:=this.2;rw[show(Region.binds .any e||Region.binds .text e)=true by rcases hb with x|x<;>simp[x]]at h2;exact Nat.lt_of_lt_of_le (Nat.lt_succ_self _) (Nat.le_of_ble_eq_true h2)
 refine⟨fun i o e ho he hb=>(h1 i o e ho he).2 (.inl hb),fun m hm=>?_⟩;cases m with
 |text=>exact⟨id,fun i o e ho he hb=>⟨(h1 i o e ho he).1,(h1 i o e ho he).2 (.inr hb)⟩⟩
 |any=>exact⟨id,fun i o e ho he hb=>⟨(h1 i o e ho he).1,(h1 i o e ho he).2 (.inl hb)⟩⟩
 |gc=>
  have h2:=h.2;rw[hm rfl]at h2;simp only[Bool.not_true,Bool.false_or]at h2;refine⟨pos (Region.linearise .gc ops 0),fun i o e ho he hb=>⟨(h1 i o e ho he).1,?_⟩⟩;have hi:i<ops.size:=(Array.getElem?_eq_some_iff.1 ho).1;have:=List.all_eq_true.1 h2 i (List.mem_range.2 hi);rw[ho]at this;have:=arr this e he;rw[hb]at this;exact Nat.lt_of_lt_of_le (Nat.lt_succ_self _) (Nat.le_of_ble_eq_true this)
theorem tJ {ops:Array Oper} (hE:lN ops=true) (mixed:Bool) (t:Nat):Good (eV ops) ops.size (fun _=>false) (Region.schedule mixed ops t):=by
 obtain⟨hA,hR⟩:=rU hE
 have key:∀m t,(m=.gc->Region.departs ops=true)->Good (eV ops) ops.size (fun _=>false) (Region.linearise m ops t):=fun m t hm=>by
  obtain⟨yY,ti⟩:=hR m hm
  have hr:∀j,(Array.replicate ops.size false).getD j false=false:=fun j=>by
   rw[Array.getD_eq_getD_getElem?,Array.getElem?_replicate];split<;>rfl
  refine iC (fun j _=>hr j) (fun a b nz hb=>Nat.lt_trans (uB hA nz) hb) (Iq hA ti (Go.aq.Bs m ops t) (by simp) (uC _ _) fun a b nz hb=>?_);rw[hr]at hb;cases hb
 unfold Region.schedule;split
 .exact key _ _ fun h=>by cases h
 .rename_i hc
  have hd:Region.departs ops=true:=by
   cases hx:Region.departs ops with
   |true=>rfl
   |false=>rw[hx]at hc;simp at hc
  exact key _ _ fun _=>hd
theorem rV (n:Nat):∀(m i:Nat),i+m=n->Good (·<·) n (fun j=>decide (j<i)) (List.range' i m)
 |0,i,h=>fun j hj=>by simp;omega
 |m+1,i,h=>by
  refine⟨by omega,by simp,fun a ha=>by simpa using ha,?_⟩;refine iC (D:=fun j=>decide (j<i+1)) (fun j hj=>?_) (fun a b nz hb=>by omega) (rV n m (i+1) (by omega));simp only[add];by_cases e:j=i
  .subst e;simp
  .by_cases h:j<i
   .have:j<i+1:=by omega
    simp[h,this]
   .have:¬j<i+1:=by omega
    simp[h,this,e]
def fX (P:Program) (ce:Next->Hp->Rs Value) (ops:Array Oper):Nat->Nat->List Value->Hp->Option (List Value×Hp×List (Nat×Nat))
 |0,_,T,H=>some (T,H,[])
 |n+1,i,T,H=>match nU P ce ops i T H with
  |none=>none
  |some (T1,H1,R,W)=>match fX P ce ops n (i+1) T1 H1 with
   |none=>none
   |some (T2,H2,l)=>some (T2,H2,(R,W)::l)
def nc (R1 W1 R2 W2:Nat):Bool:=Nat.beq (Nat.land W1 (Nat.lor R2 W2)) 0&&Nat.beq (Nat.land W2 R1) 0
def DB (m R W:Nat):List (Nat×Nat×Nat)->Bool
 | []=>true
 |(i,R1,W1)::l=>(Fg m i||nc R1 W1 R W)&&DB m R W l
def ic:List Nat->List (Nat×Nat)->Nat->List (Nat×Nat×Nat)->Nat->Nat->Bool
 |_,[],_,_,_,_=>true
 | [],_::_,_,_,_,_=>false
 |m::ms,(R,W)::l,j,prev,RU,WU=>(nc RU WU R W||DB m R W prev)&&ic ms l (j+1) ((j,R,W)::prev) (Nat.lor RU R) (Nat.lor WU W)
def GP:List (Nat×Nat)->Nat
 | []=>0
 |(R,_)::l=>Nat.lor R (GP l)
def Fi:List (Nat×Nat)->Nat
 | []=>0
 |(_,W)::l=>Nat.lor W (Fi l)
def eC (P:Program) (ce:Next->Hp->Rs Value) (ops:Array Oper) (draw:Bool) (T:List Value) (H:Hp):Rs (List Value):=
 match fX P ce ops ops.size 0 T H with
 |none=>none
 |some (T1,H1,l)=>bif !draw||ic (qz ops ops.size) l 0 [] 0 0 then some (T1,H1,GP l,Fi l)else none
def Fj (ops:Array Oper) (l:List Nat):Bool:=
 (List.range ops.size).all fun j=>(List.range j).all fun i=>Fg (rT l j) i||(match ops[i]?,ops[j]? with|some oi,some oj=>oi.apart ops oj|_,_=>true)
def et (P:Program) (S:Nat->Bool) (ops:Array Oper) (draw:Bool):Bool:=
 (ops.all fun o=>iX P S o.op)&&(!draw||(lN ops&&Fj ops (qz ops ops.size)))
theorem DC {R2 W2:Nat} (h:nc R1 W1 R2 W2=true) (r:Nat):(W1.testBit r=true->R2.testBit r=false/\W2.testBit r=false)/\(W2.testBit r=true->R1.testBit r=false):=by
 simp only[nc,Bool.and_eq_true]at h;have h1:W1&&&(R2|||W2)=0:=Nat.eq_of_beq_eq_true h.1;have h2:W2&&&R1=0:=Nat.eq_of_beq_eq_true h.2;have e1:=congrArg (fun x=>Nat.testBit x r) h1;have e2:=congrArg (fun x=>Nat.testBit x r) h2;simp only[Nat.testBit_and,Nat.testBit_or,Nat.zero_testBit,Bool.and_eq_false_iff,Bool.or_eq_false_iff]at e1 e2;refine⟨fun x=>?_,fun x=>?_⟩
 .rcases e1 with e|e
  .rw[x]at e;cases e
  .exact e
 .rcases e2 with e|e
  .rw[x]at e;cases e
  .exact e
theorem uD {m:Nat}:∀{l:List (Nat×Nat×Nat)},DB m R W l=true->∀i R1 W1,(i,R1,W1)∈l->Fg m i=true\/nc R1 W1 R W=true
 | [],_,_,_,_,h=>by cases h
 |(i,R1,W1)::l,h,j,R2,W2,hm=>by
  simp only[DB,Bool.and_eq_true,Bool.or_eq_true]at h;rcases List.mem_cons.1 hm with e|hm
  .cases e;exact h.1
  .exact uD h.2 _ _ _ hm
theorem P1 {RU WU:Nat} (h:nc RU WU R W=true) (hr:∀r,R1.testBit r=true->RU.testBit r=true) (hw:∀r,W1.testBit r=true->WU.testBit r=true) (r:Nat):
 (W1.testBit r=true->R.testBit r=false/\W.testBit r=false)/\(W.testBit r=true->R1.testBit r=false):=by
 obtain⟨a,b⟩:=DC h r;refine⟨fun x=>a (hw r x),fun x=>?_⟩;cases hx:R1.testBit r with
 |false=>rfl
 |true=>have:=b x;rw[hr r hx]at this;cases this
theorem BE:∀(ms:List Nat) (l:List (Nat×Nat)) (j:Nat) (prev:List (Nat×Nat×Nat)) (RU WU:Nat),ic ms l j prev RU WU=true->
 (∀i R1 W1,(i,R1,W1)∈prev->∀r,(R1.testBit r=true->RU.testBit r=true)/\(W1.testBit r=true->WU.testBit r=true))->
 (∀(b:Nat) (R W:Nat),l[b]?=some (R,W)->(∀i R1 W1,(i,R1,W1)∈prev->Fg (rT ms b) i=true\/∀r,(W1.testBit r=true->R.testBit r=false/\W.testBit r=false)/\(W.testBit r=true->R1.testBit r=false))/\
   ∀(a R1 W1:Nat),a<b->l[a]?=some (R1,W1)->Fg (rT ms b) (j+a)=true\/∀r,(W1.testBit r=true->R.testBit r=false/\W.testBit r=false)/\(W.testBit r=true->R1.testBit r=false)):=by
 intro ms l;induction l generalizing ms with
 |nil=>intro j prev RU WU _ _ b R W h;simp at h
 |cons x l ih=>
  obtain⟨Rx,Wx⟩:=x;intro j prev RU WU h Ir;cases ms with
  |nil=>simp[ic]at h
  |cons m ms=>
   simp only[ic,Bool.and_eq_true,Bool.or_eq_true]at h;obtain⟨h1,h2⟩:=h
   have ih:=ih ms (j+1) ((j,Rx,Wx)::prev) _ _ h2 (fun i R1 W1 hm r=>by
    have e1:(Nat.lor RU Rx).testBit r=(RU.testBit r||Rx.testBit r):=Nat.testBit_or _ _ _;have e2:(Nat.lor WU Wx).testBit r=(WU.testBit r||Wx.testBit r):=Nat.testBit_or _ _ _;rw[e1,e2];rcases List.mem_cons.1 hm with e|hm
    .cases e;exact⟨fun x=>by rw[x,Bool.or_true],fun x=>by rw[x,Bool.or_true]⟩
    .have:=Ir i R1 W1 hm r;exact⟨fun x=>by rw[this.1 x];rfl,fun x=>by rw[this.2 x];rfl⟩)
   intro b R W hb;cases b with
   |zero=>
    simp only[List.getElem?_cons_zero,Option.some.injEq,Prod.mk.injEq]at hb;obtain⟨rfl,rfl⟩:=hb;refine⟨fun i R1 W1 hm=>?_,fun a _ _ ha _=>by omega⟩;rcases h1 with h1|h1
    .exact .inr (P1 h1 (fun r=>(Ir i R1 W1 hm r).1) fun r=>(Ir i R1 W1 hm r).2)
    .exact(uD h1 i R1 W1 hm).imp id fun x=>DC x
   |succ b=>
    simp only[List.getElem?_cons_succ]at hb;obtain⟨k1,k2⟩:=ih b R W hb;refine⟨fun i R1 W1 hm=>k1 i R1 W1 (List.mem_cons_of_mem _ hm),fun a R1 W1 nz ha=>?_⟩;cases a with
    |zero=>
     simp only[List.getElem?_cons_zero,Option.some.injEq,Prod.mk.injEq]at ha;obtain⟨rfl,rfl⟩:=ha;exact k1 j Rx Wx (by simp)
    |succ a=>
     simp only[List.getElem?_cons_succ]at ha;have:=k2 a R1 W1 (by omega) ha;rw[show j+(a+1)=j+1+a by omega];exact this
theorem DD:∀{l:List (Nat×Nat)} {i R W r:Nat},l[i]?=some (R,W)->R.testBit r=true->(GP l).testBit r=true
 | [],i,R,W,r,h,_=>by simp at h
 |(Rx,Wx)::l,i,R,W,r,h,hr=>by
  have e:(GP ((Rx,Wx)::l)).testBit r=(Rx.testBit r||(GP l).testBit r):=Nat.testBit_or _ _ _;rw[e];cases i with
  |zero=>simp only[List.getElem?_cons_zero,Option.some.injEq,Prod.mk.injEq]at h;obtain⟨rfl,rfl⟩:=h;rw[hr];rfl
  |succ i=>simp only[List.getElem?_cons_succ]at h;rw[DD h hr,Bool.or_true]
theorem wv:∀{l:List (Nat×Nat)} {i R W r:Nat},l[i]?=some (R,W)->W.testBit r=true->(Fi l).testBit r=true
 | [],i,R,W,r,h,_=>by simp at h
 |(Rx,Wx)::l,i,R,W,r,h,hr=>by
  have e:(Fi ((Rx,Wx)::l)).testBit r=(Wx.testBit r||(Fi l).testBit r):=Nat.testBit_or _ _ _;rw[e];cases i with
  |zero=>simp only[List.getElem?_cons_zero,Option.some.injEq,Prod.mk.injEq]at h;obtain⟨rfl,rfl⟩:=h;rw[hr];rfl
  |succ i=>simp only[List.getElem?_cons_succ]at h;rw[wv h hr,Bool.or_true]
section
variable {P:Program} {S:Nat->Bool} {K:Kz} {nS:List PanicEntry->World->Prop} {ce:Next->Hp->Rs Value}
theorem ww {ops:Array Oper}:∀(n i:Nat) (T:List Value) (H:Hp) (T2:List Value) (H2:Hp) (l:List (Nat×Nat)),fX P ce ops n i T H=some (T2,H2,l)->
 ∃(Ts:Nat->List Value) (Hs:Nat->Hp) (R W:Nat->Nat),Ts i=T/\Hs i=H/\Ts (i+n)=T2/\Hs (i+n)=H2/\(∀a,a<n->l[a]?=some (R (i+a),W (i+a)))/\∀a,i<=a->a<i+n->nU P ce ops a (Ts a) (Hs a)=some (Ts (a+1),Hs (a+1),R a,W a):=by
 intro n;induction n with
 |zero=>
  intro i T H T2 H2 l e;simp only[fX,Option.some.injEq,Prod.mk.injEq]at e;obtain⟨rfl,rfl,rfl⟩:=e;exact⟨fun _=>T,fun _=>H,fun _=>0,fun _=>0,rfl,rfl,rfl,rfl,fun a h=>by omega,fun a h1 h2=>by omega⟩
 |succ n ih=>
  intro i T H T2 H2 l e;simp only[fX]at e;split at e<;>try(cases e;done)
  rename_i T1 H1 R1 W1 e1;split at e<;>try(cases e;done)
  rename_i Zg Zh l' e2;simp only[Option.some.injEq,Prod.mk.injEq]at e;obtain⟨rfl,rfl,rfl⟩:=e;obtain⟨Ts,Hs,R,W,a1,a2,a3,a4,a5,a6⟩:=ih (i+1) T1 H1 Zg Zh l' e2;refine⟨fun j=>if j=i then T else Ts j,fun j=>if j=i then H else Hs j,fun j=>if j=i then R1 else R j,fun j=>if j=i then W1 else W j,if_pos rfl,if_pos rfl,?_,?_,?_,?_⟩
  .show(if i+(n+1)=i then T else Ts (i+(n+1)))=Zg;rw[if_neg (by omega),show i+(n+1)=i+1+n by omega];exact a3
  .show(if i+(n+1)=i then H else Hs (i+(n+1)))=Zh;rw[if_neg (by omega),show i+(n+1)=i+1+n by omega];exact a4
  .intro a ha;show _=some ((if i+a=i then R1 else R (i+a)),(if i+a=i then W1 else W (i+a)));cases a with
   |zero=>simp
   |succ a=>
    simp only[List.getElem?_cons_succ];rw[a5 a (by omega),if_neg (by omega),if_neg (by omega),show i+1+a=i+(a+1) by omega]
  .intro a h1 h2;show nU P ce ops a (if a=i then T else Ts a) (if a=i then H else Hs a)=some ((if a+1=i then T else Ts (a+1)),(if a+1=i then H else Hs (a+1)),(if a=i then R1 else R a),(if a=i then W1 else W a));by_cases e:a=i
   .subst e;simp only[if_true];rw[if_neg (by omega),if_neg (by omega),e1,a1,a2]
   .rw[if_neg e,if_neg e,if_neg (by omega),if_neg (by omega),if_neg e,if_neg e];exact a6 a (by omega) (by omega)
theorem Fk (fQ:jh P S K nS ce) {ops:Array Oper}:∀(n i:Nat) (T:List Value) (H:Hp) (T2:List Value) (H2:Hp) (l:List (Nat×Nat)),fX P ce ops n i T H=some (T2,H2,l)->Ft H (GP l) (Fi l) H2/\T2.length=T.length:=by
 intro n;induction n with
 |zero=>
  intro i T H T2 H2 l e;simp only[fX,Option.some.injEq,Prod.mk.injEq]at e;obtain⟨rfl,rfl,rfl⟩:=e;exact⟨Ft.refl _,rfl⟩
 |succ n ih=>
  intro i T H T2 H2 l e;simp only[fX]at e;split at e<;>try(cases e;done)
  rename_i T1 H1 R1 W1 e1;split at e<;>try(cases e;done)
  rename_i Zg Zh l' e2;simp only[Option.some.injEq,Prod.mk.injEq]at e;obtain⟨rfl,rfl,rfl⟩:=e;obtain⟨a,b⟩:=ih _ _ _ _ _ _ e2;refine⟨(nV fQ e1).trans a,b.trans ?_⟩;obtain⟨o,_,h⟩:=jD e1;rcases h with⟨_,v,_,h⟩|⟨_,h,_⟩<;>rw[h,pN]
theorem uE {ops:Array Oper} (e:eC P ce ops draw T H=some (T1,H1,R,W)):
 ∃l,fX P ce ops ops.size 0 T H=some (T1,H1,l)/\(draw=true->ic (qz ops ops.size) l 0 [] 0 0=true)/\R=GP l/\W=Fi l:=by
 unfold eC at e;split at e
 .cases e
 .rename_i T1 H1 l e1;cases hc:(!draw||ic (qz ops ops.size) l 0 [] 0 0)<;>rw[hc]at e<;>simp only[cond_true,cond_false]at e
  .cases e
  simp only[Option.some.injEq,Prod.mk.injEq]at e;obtain⟨rfl,rfl,rfl,rfl⟩:=e;exact⟨l,e1,fun hd=>by rw[hd]at hc;simpa using hc,rfl,rfl⟩
theorem d8 (fQ:jh P S K nS ce) {ops:Array Oper} (e:eC P ce ops draw T H=some (T1,H1,R,W)):Ft H R W H1/\T1.length=T.length:=by
 obtain⟨l,e1,_,rfl,rfl⟩:=uE e;exact Fk fQ _ _ _ _ _ _ _ e1
theorem nW (hk:Ok P P.funcs S) (hZ:SD P K) (fQ:jh P S K nS ce) {ops:Array Oper} (bM:et P S ops draw=true) (e:eC P ce ops draw T H=some (T1,H1,R,W))
 {Fp:Nat->Prop} {p:Pi} {tm:Array Value} {w:World} (hg:P.globals.size<=H.n) (hF:∀r,(R.testBit r=true\/W.testBit r=true)->Fp r) (bQ:tm.size=T.length) (hr:Rl P S K p H.get Fp w) (hT:∀x,VR S p (bB T x) (tm.getD x undef)) (hG:yS P S p)
 (hn:∀r,H.n<=r->r<H1.n->∀r',¬p r r') (id:Nat) (b:Frame) (ds:List Deferred) (k:List Item) (cs:List Frame):
 (∃bA w' q,Steps P (lone (bh b tm ds (.code (.region id ops draw)::k)) cs w) (lone (bh b bA ds k) cs w')/\bA.size=T.length/\
   Mv (fun r=>W.testBit r=true) p H.n w q H1.n w'/\Rl P S K q H1.get Fp w'/\∀x,VR S q (bB T1 x) (bA.getD x undef))\/gX P nS b ds cs (lone (bh b tm ds (.code (.region id ops draw)::k)) cs w):=by
 obtain⟨l,e1,hp,rfl,rfl⟩:=uE e;obtain⟨Ts,Hs,R,W,a1,a2,a3,a4,a5,a6⟩:=ww _ _ _ _ _ _ _ e1;rw[Nat.zero_add]at a3 a4 a6;have t:SE P ce ops Ts Hs R W:=⟨fun i hi=>a6 i (Nat.zero_le _) hi⟩
 have lR:∀i,i<ops.size->l[i]?=some (R i,W i):=fun i hi=>by have:=a5 i hi;rwa [Nat.zero_add]at this
 simp only[et,Bool.and_eq_true]at bM
 have ru:∀(i:Nat) (o:Oper),ops[i]?=some o->iX P S o.op=true:=fun i o ho=>by
  obtain⟨ar,he⟩:=Array.getElem?_eq_some_iff.1 ho;have:=Array.all_eq_true.1 bM.1 i ar;rw[he]at this;exact this
 have mono:=fun i j=>t.Im (i:=i) (j:=j) fQ;have Xg:∀i,i<ops.size->∀r,((R i).testBit r=true\/(W i).testBit r=true)->Fp r:=fun i hi r hr=>hF r (hr.imp (fun x=>DD (lR i hi) x) fun x=>wv (lR i hi) x)
 have l0:∀r,last (fun i=>(Hs i).get) (AC W) (fun _=>false) ops.size r=H.get r:=fun r=>by
  have:∀n,last (fun i=>(Hs i).get) (AC W) (fun _=>false) n r=H.get r:=by
   intro n;induction n with
   |zero=>show(Hs 0).get r=_;rw[a2]
   |succ n ih=>simp only[last,Bool.false_and,Bool.false_eq_true,if_false];exact ih
  exact this _
 have l1:∀x,last (fun i=>bB (Ts i)) (AD ops) (fun _=>false) ops.size x=bB T x:=fun r=>by
  have:∀n,last (fun i=>bB (Ts i)) (AD ops) (fun _=>false) n r=bB T r:=by
   intro n;induction n with
   |zero=>show bB (Ts 0) r=_;rw[a1]
   |succ n ih=>simp only[last,Bool.false_and,Bool.false_eq_true,if_false];exact ih
  exact this _
 have fin:∀{order:List Nat} {Fo:Nat->Nat->Prop} {w0:World},w0.heap=w.heap->Good Fo ops.size (fun _=>false) order->(∀i j,i<j->j<ops.size->Fo i j\/Uk R W i j)->(∀(i j:Nat) (oi oj:Oper),i<j->ops[i]?=some oi->ops[j]?=some oj->Fo i j\/oi.apart ops oj=true)->
  (∃bA w' q,Steps P (lone (bh b tm ds (.inRegion ops order::k)) cs w0) (lone (bh b bA ds k) cs w')/\bA.size=T.length/\Mv (fun r=>(Fi l).testBit r=true) p H.n w q H1.n w'/\Rl P S K q H1.get Fp w'/\∀x,VR S q (bB T1 x) (bA.getD x undef))\/gX P nS b ds cs (lone (bh b tm ds (.inRegion ops order::k)) cs w0):=by
  intro order Fo w0 Xh yZ hm ht;rcases LO hk hZ fQ ru t hm ht (by rw[a2];exact hg) Xg b ds k cs order (fun _=>false) p tm w0 yZ (fun a c _ h=>by cases h) (by rw[a1];exact bQ) ((hr.heap Xh).congr fun r _=>l0 r) (fun x=>by rw[l1];exact hT x) hG (fun j hj _ r h1 h2=>hn r (by have:=mono 0 j (Nat.le_of_lt hj) (Nat.zero_le _);rw[a2]at this;omega) (by have:=mono (j+1) ops.size (Nat.le_refl _) hj;rw[a4]at this;omega))with⟨bA,w',q,c1,c2,c3,c4,c5⟩|Ip;rotate_left
  .exact .inr Ip
  rw[a1]at c2;rw[a2,a4]at c3;rw[a4]at c4;rw[a3]at c5;exact .inl ⟨bA,w',q,c1.trans (.one dE),c2,(c3.Ig Xh.symm).mono fun r ⟨i,hi,x⟩=>wv (lR i hi) x,c4,c5⟩
 cases draw with
 |false=>
  rcases fin (order:=List.range ops.size) (Fo:=(·<·)) (w0:=w) rfl (by
   have:=rV ops.size ops.size 0 (Nat.zero_add _);rw[<-List.range_eq_range']at this;exact iC (fun j _=>by simp) (fun a b nz hb=>by omega) this) (fun i j h _=>.inl h) (fun i j _ _ h _ _=>.inl h)with⟨bA,w',q,c⟩|Ip
  .exact .inl ⟨bA,w',q,.head il c.1,c.2⟩
  .exact .inr (.of_steps (.one il) Ip)
 |true=>
  have P2:=bM.2;simp only[Bool.not_true,Bool.false_or,Bool.and_eq_true]at P2;have hpz:=BE _ _ _ _ _ _ (hp rfl) (fun _ _ _ h=>by cases h);obtain⟨tt,w0,Xh,Uo⟩:=Dv (P:=P) (b:=b) (tm:=tm) (ds:=ds) (k:=k) (cs:=cs) (w:=w) (id:=id) (ops:=ops)
  rcases fin (order:=Region.schedule (P.follows .mixedOrders) ops tt) (Fo:=eV ops) (w0:=w0) Xh (tJ P2.1 _ _) (fun i j h hj=>by
   rcases(hpz j _ _ (lR j hj)).2 i _ _ h (lR i (by omega))with x|x
   .rw[Nat.zero_add]at x;exact .inl (uz _ _ _ _ (yW x))
   .exact .inr x) (fun i j oi oj h hoi EN=>by
   have hj:j<ops.size:=(Array.getElem?_eq_some_iff.1 EN).1;have h2:=List.all_eq_true.1 (List.all_eq_true.1 P2.2 j (List.mem_range.2 hj)) i (List.mem_range.2 h);rw[hoi,EN,Bool.or_eq_true]at h2;rcases h2 with x|x
   .exact .inl (uz _ _ _ _ (yW x))
   .exact .inr x)with⟨bA,w',q,c⟩|Ip
  .exact .inl ⟨bA,w',q,.head Uo c.1,c.2⟩
  .exact .inr (.of_steps (.one Uo) Ip)
end
end Go.aq
namespace Go.aq
variable {H H1:Hp} {R R1 W W1 l l' n n1:Nat} {T T1:List Value} {args bu tmps:Array Value} {assign body:Code} {ex:Nat->Bool} {f:Operand} {gN:List Deferred} {j:Option Code} {m:Machine} {p q:Pi} {params:Array Tmp} {ro:Option Nat} {v:Value} {w1 w2:World}
abbrev Rc:=Option (Option Code×List Value×List Deferred×Hp×Nat×Nat)
def pO (R W:Nat):Rc->Rc
 |some (j,T,ds,H,R1,W1)=>some (j,T,ds,H,R|||R1,W|||W1)
 |none=>none
theorem jW {x:Rc} {ds:List Deferred} (h:pO R W x=some (j,T,ds,H,R1,W1)):∃R2 W2,x=some (j,T,ds,H,R2,W2)/\R1=R|||R2/\W1=W|||W2:=by
 cases x with
 |none=>cases h
 |some y=>
  obtain⟨a,b,c,d,e,f⟩:=y;simp only[pO,Option.some.injEq,Prod.mk.injEq]at h;obtain⟨rfl,rfl,rfl,rfl,rfl,rfl⟩:=h;exact⟨_,_,rfl,rfl,rfl⟩
def Zi:Option Code->Bool
 |none=>true
 |some .ret=>true
 |some (.exit _)=>true
 |some (.goto _)=>true
 |_=>false
def eu (r:Operand->Value) (f:Operand) (l:Nat):Sem Next:=do
 let d<-resolve r {callee:=.value f,args:=#[.const (.func (.yield l) #[] #[])],argTypes:=#[]} 0
 invoke d.target d.args
def nX (P:Program) (ce:Next->Hp->Rs Value) (ro:Option Nat) (fn:Nat) (f:Operand) (params:Array Tmp) (assign body:Code) (T:List Value) (ds:List Deferred) (H:Hp):Rc:=
 match aA P (Instr.enterLoop fn T.toArray params assign body ro) H with
 |none=>none
 |some ((l,mark),H1,R1,W1)=>match aA P (eu (yR (bB T)) f l) H1 with
  |none=>none
  |some (nx,H2,R2,W2)=>match ce nx H2 with
   |none=>none
   |some (_,H3,R3,W3)=>match aA P (Instr.endLoop l) H3 with
    |none=>none
    |some (j,H4,R4,W4)=>bif Zi j then some (j,T,mark++ds,H4,R1|||(R2|||(R3|||R4)),W1|||(W2|||(W3|||W4)))else none
abbrev Rg:=(Next->Hp->Rs Value)->Array Oper->Bool->List Value->Hp->Rs (List Value)
def ji (P:Program) (rg:Rg) (ce:Next->Hp->Rs Value) (ro:Option Nat) (fn:Nat):Nat->Option Code->Code->List Value->List Deferred->Hp->Rc
 |0,_,_,_,_,_=>none
 |n+1,some sc,c,T,ds,H=>match ji P rg ce ro fn n none c T ds H with
  |some (some (.goto l),T1,gN,H1,R,W)=>match findLabel sc l with
   |some rest=>pO R W (ji P rg ce ro fn n (some sc) rest T1 gN H1)
   |none=>some (some (.goto l),T1,gN,H1,R,W)
  |x=>x
 |n+1,none,c,T,ds,H=>match c with
  |.skip=>some (none,T,ds,H,0,0)
  |.label _=>some (none,T,ds,H,0,0)
  |.region _ ops draw=>match rg ce ops draw T H with
   |some (T1,H1,R,W)=>some (none,T1,ds,H1,R,W)
   |none=>none
  |.seq a b=>match ji P rg ce ro fn n none a T ds H with
   |some (none,T1,gN,H1,R,W)=>pO R W (ji P rg ce ro fn n none b T1 gN H1)
   |x=>x
  |.cond x a b=>match yR (bB T) x with
   |.bool t=>ji P rg ce ro fn n none (bif t then a else b) T ds H
   |_=>none
  |.block id a=>match ji P rg ce ro fn n none a T ds H with
   |some (some (.exit i),T1,gN,H1,R,W)=>bif Nat.beq i id then some (none,T1,gN,H1,R,W)else some (some (.exit i),T1,gN,H1,R,W)
   |x=>x
  |.loop a=>match ji P rg ce ro fn n none a T ds H with
   |some (none,T1,gN,H1,R,W)=>pO R W (ji P rg ce ro fn n none (.loop a) T1 gN H1)
   |x=>x
  |.scope a=>ji P rg ce ro fn n (some a) a T ds H
  |.exit id=>some (some (.exit id),T,ds,H,0,0)
  |.goto l=>some (some (.goto l),T,ds,H,0,0)
  |.ret=>some (some .ret,T,ds,H,0,0)
  |.rangeFunc f params assign body=>nX P ce ro fn f params assign body T ds H
  |.refuse _=>none
def y6:Option Code->Bool
 |none=>true
 |some .ret=>true
 |_=>false
def i6 (P:Program):List Deferred->Hp->Rs Unit
 | [],H=>some ((),H,0,0)
 |{target:=.collected r,.. }::ds,H=>match aA P (Instr.takeDeferred r) H with
  |some (_,H1,R,W)=>match i6 P ds H1 with
   |some (_,H2,R2,W2)=>some ((),H2,R|||R2,W|||W2)
   |none=>none
  |none=>none
 |_::_,_=>none
def BF (P:Program) (rg:Rg) (ce:Next->Hp->Rs Value) (n:Nat) (f:Nat) (args:Array Value) (H:Hp):Rs Value:=
 match P.funcs[f]? with
 |none=>none
 |some fn=>match fn.body with
  |none=>none
  |some body=>match ji P rg ce none f n none body (args.toList++List.replicate (fn.ntmps-args.size) undef) [] H with
   |none=>none
   |some (j,T1,gN,H1,R1,W1)=>bif y6 j then match i6 P gN H1 with
    |none=>none
    |some (_,H2,R2,W2)=>match aA P (results fn T1.toArray) H2 with
     |none=>none
     |some (v,H3,R3,W3)=>some (v,H3,R1|||(R2|||R3),W1|||(W2|||W3))else none
def nY (P:Program) (rg:Rg) (ce:Next->Hp->Rs Value) (n:Nat) (l f:Nat) (tmps:Array Value) (assign body:Code) (H:Hp):Rs Value:=
 match ji P rg ce (some l) f n none assign tmps.toList [] H with
 |some (none,T1,gN,H1,R1,W1)=>match aA P (Instr.beginRound l) H1 with
  |none=>none
  |some (_,H2,R2,W2)=>match ji P rg ce (some l) f n none body T1 gN H2 with
   |none=>none
   |some (j,_,_,H3,R3,W3)=>match aA P (Instr.endRound l j) H3 with
    |none=>none
    |some (v,H4,R4,W4)=>some (v,H4,R1|||(R2|||(R3|||R4)),W1|||(W2|||(W3|||W4)))
 |_=>none
def qA (P:Program) (rg:Rg) (ex:Nat->Bool):Nat->Next->Hp->Rs Value
 |0,_,_=>none
 |n+1,nx,H=>match nx with
  |.enter f args=>bif ex f then none else BF P rg (qA P rg ex n) n f args H
  |.round l f tmps assign body=>nY P rg (qA P rg ex n) n l f tmps assign body H
  |_=>none
abbrev Up (P:Program) (ex:Nat->Bool):=qA P (eC P) ex
def cE (P:Program) (S:Nat->Bool):Code->Bool
 |.skip|.label _|.exit _|.goto _|.ret=>true
 |.region _ ops draw=>et P S ops draw
 |.seq a b=>cE P S a&&cE P S b
 |.cond c a b=>gJ P S c&&cE P S a&&cE P S b
 |.block _ a=>cE P S a
 |.loop a=>cE P S a
 |.scope a=>cE P S a
 |.rangeFunc f _ a b=>gJ P S f&&cE P S a&&cE P S b
 |.refuse _=>false
def Uq (P:Program) (e:TypeId) (v:Value):Prop:=∃i z,P.info? e=some i/\i.zero=some z/\v∈z.cells
def cK (P:Program) (S:Nat->Bool):Kz:=⟨fun c=>cE P S c=true,Uq P⟩
theorem Ur (P:Program) (S:Nat->Bool):SD P (cK P S):=fun e i z h1 h2 u hu=>⟨i,z,h1,h2,hu⟩
theorem wy {P:Program} {S:Nat->Bool}:∀{c:Code} {l:Nat} {r:Code},cE P S c=true->findLabel c l=some r->cE P S r=true:=by
 intro c;induction c with
 |seq a b Tx Ty=>
  intro l r h e;simp only[cE,Bool.and_eq_true]at h;simp only[findLabel]at e;split at e
  .rename_i rest h1;simp only[Option.some.injEq]at e;subst e;simp only[cE,Bool.and_eq_true];exact⟨Tx h.1 h1,h.2⟩
  .exact Ty h.2 e
 |label l'=>
  intro l r h e;simp only[findLabel]at e;split at e
  .cases e;rfl
  .cases e
 |_=>intro l r h e;simp[findLabel]at e
section
variable {P:Program} {S:Nat->Bool} {K:Kz} {nS:List PanicEntry->World->Prop} {ce:Next->Hp->Rs Value}
theorem BG (fQ:jh P S K nS ce) {fn:Nat} {ds:List Deferred}
 (e:nX P ce ro fn f params assign body T ds H=some (j,T1,gN,H1,R,W)):Ft H R W H1/\T1.length=T.length:=by
 unfold nX at e;split at e<;>try(cases e;done)
 rename_i e1;split at e<;>try(cases e;done)
 rename_i e2;split at e<;>try(cases e;done)
 rename_i e3;split at e<;>try(cases e;done)
 rename_i j _ _ _ e4;cases hj:Zi j<;>rw[hj]at e<;>simp only[cond_true,cond_false]at e
 .cases e
 simp only[Option.some.injEq,Prod.mk.injEq]at e;obtain⟨rfl,rfl,rfl,rfl,rfl,rfl⟩:=e;exact⟨(bk P _ e1).trans ((bk P _ e2).trans ((fQ.ft _ _ _ _ _ _ e3).trans (bk P _ e4))),rfl⟩
theorem eW (fQ:jh P S K nS ce) (ro:Option Nat) (fn:Nat):∀(n:Nat) (sc:Option Code) (c:Code) (T:List Value) (ds:List Deferred) (H:Hp) (j:Option Code) (T1:List Value) (gN:List Deferred) (H1:Hp) (R W:Nat),
 ji P (eC P) ce ro fn n sc c T ds H=some (j,T1,gN,H1,R,W)->Ft H R W H1/\T1.length=T.length:=by
 intro n;induction n with
 |zero=>intro sc c T ds H j T1 gN H1 R W e;simp[ji]at e
 |succ n ih=>
  intro sc c T ds H j T1 gN H1 R W e
  have add:∀{sc c T2 xI H2 R2 W2 j T1 gN H1 R W},Ft H R2 W2 H2/\T2.length=T.length->pO R2 W2 (ji P (eC P) ce ro fn n sc c T2 xI H2)=some (j,T1,gN,H1,R,W)->Ft H R W H1/\T1.length=T.length:=by
   intro sc c T2 xI H2 R2 W2 j T1 gN H1 R W h e;obtain⟨R3,W3,e2,rfl,rfl⟩:=jW e;obtain⟨a,b⟩:=ih _ _ _ _ _ _ _ _ _ _ _ e2;exact⟨h.1.trans a,b.trans h.2⟩
  cases sc with
  |some sc=>
   simp only[ji]at e;split at e
   .rename_i e1;split at e
    .exact add (ih _ _ _ _ _ _ _ _ _ _ _ e1) e
    .simp only[Option.some.injEq,Prod.mk.injEq]at e;obtain⟨rfl,rfl,rfl,rfl,rfl,rfl⟩:=e;exact ih _ _ _ _ _ _ _ _ _ _ _ e1
   .exact ih _ _ _ _ _ _ _ _ _ _ _ e
  |none=>
   have AN:∀{j':Option Code},some (j',T,ds,H,0,0)=some (j,T1,gN,H1,R,W)->Ft H R W H1/\T1.length=T.length:=fun e=>by
    simp only[Option.some.injEq,Prod.mk.injEq]at e;obtain⟨rfl,rfl,rfl,rfl,rfl,rfl⟩:=e;exact⟨Ft.refl _,rfl⟩
   cases c with
   |skip=>exact AN e
   |label l=>exact AN e
   |exit id=>exact AN e
   |goto l=>exact AN e
   |ret=>exact AN e
   |refuse w=>simp[ji]at e
   |region id ops draw=>
    simp only[ji]at e;split at e<;>try(cases e;done)
    rename_i e1;simp only[Option.some.injEq,Prod.mk.injEq]at e;obtain⟨rfl,rfl,rfl,rfl,rfl,rfl⟩:=e;exact d8 fQ e1
   |seq a b=>
    simp only[ji]at e;split at e
    .rename_i e1;exact add (ih _ _ _ _ _ _ _ _ _ _ _ e1) e
    .exact ih _ _ _ _ _ _ _ _ _ _ _ e
   |cond x a b=>
    simp only[ji]at e;split at e<;>try(cases e;done)
    exact ih _ _ _ _ _ _ _ _ _ _ _ e
   |block id a=>
    simp only[ji]at e;split at e
    .rename_i i _ _ _ _ _ e1;have:=ih _ _ _ _ _ _ _ _ _ _ _ e1;cases hb:Nat.beq i id<;>rw[hb]at e<;>simp only[cond_true,cond_false,Option.some.injEq,Prod.mk.injEq]at e<;>obtain⟨rfl,rfl,rfl,rfl,rfl,rfl⟩:=e<;>exact this
    .exact ih _ _ _ _ _ _ _ _ _ _ _ e
   |loop a=>
    simp only[ji]at e;split at e
    .rename_i e1;exact add (ih _ _ _ _ _ _ _ _ _ _ _ e1) e
    .exact ih _ _ _ _ _ _ _ _ _ _ _ e
   |scope a=>exact ih _ _ _ _ _ _ _ _ _ _ _ e
   |rangeFunc f params assign body=>exact BG fQ e
theorem iD:∀(ds:List Deferred) (H H1:Hp) (R W:Nat),i6 P ds H=some ((),H1,R,W)->Ft H R W H1
 | [],H,H1,R,W,e=>by
   simp only[i6,Option.some.injEq,Prod.mk.injEq,true_and]at e;obtain⟨rfl,rfl,rfl⟩:=e;exact Ft.refl _
 |d::ds,H,H1,R,W,e=>by
  obtain⟨t,args⟩:=d;cases t<;>simp only[i6]at e<;>try(cases e;done)
  split at e<;>try(cases e;done)
  rename_i e1;split at e<;>try(cases e;done)
  rename_i e2;simp only[Option.some.injEq,Prod.mk.injEq,true_and]at e;obtain⟨rfl,rfl,rfl⟩:=e;exact(bk P _ e1).trans (iD ds _ _ _ _ e2)
theorem DE (fQ:jh P S K nS ce) {f:Nat} (e:BF P (eC P) ce n f args H=some (v,H1,R,W)):Ft H R W H1:=by
 unfold BF at e;split at e<;>try(cases e;done)
 split at e<;>try(cases e;done)
 split at e<;>try(cases e;done)
 rename_i j _ _ _ _ _ e1;cases hr:y6 j<;>rw[hr]at e<;>simp only[cond_true,cond_false]at e
 .cases e
 split at e<;>try(cases e;done)
 rename_i e2;split at e<;>try(cases e;done)
 rename_i e3;simp only[Option.some.injEq,Prod.mk.injEq]at e;obtain⟨rfl,rfl,rfl,rfl⟩:=e;exact(eW fQ _ _ _ _ _ _ _ _ _ _ _ _ _ _ e1).1.trans ((iD _ _ _ _ _ e2).trans (bk P _ e3))
theorem rW (fQ:jh P S K nS ce) {f:Nat} (e:nY P (eC P) ce n l f tmps assign body H=some (v,H1,R,W)):Ft H R W H1:=by
 unfold nY at e;split at e<;>try(cases e;done)
 rename_i e1;split at e<;>try(cases e;done)
 rename_i e2;split at e<;>try(cases e;done)
 rename_i e3;split at e<;>try(cases e;done)
 rename_i e4;simp only[Option.some.injEq,Prod.mk.injEq]at e;obtain⟨rfl,rfl,rfl,rfl⟩:=e;exact(eW fQ _ _ _ _ _ _ _ _ _ _ _ _ _ _ e1).1.trans ((bk P _ e2).trans ((eW fQ _ _ _ _ _ _ _ _ _ _ _ _ _ _ e3).1.trans (bk P _ e4)))
end
section
variable {P:Program} {b:Frame} {tm:Array Value} {ds:List Deferred} {k:List Item} {cs:List Frame} {w:World}
theorem Is {mark:List Deferred} {nx:Next} {g:Frame}
 (h1:(Instr.enterLoop b.fn tm params assign body b.roundOf).run P w=.ok (l,mark) w1) (h2:(eu (bh b tm (mark++ds) (.inRangeFunc l::k)).eval f l).run P w1=.ok nx w2) (hg:pa P nx=some g):
 step P (lone (bh b tm ds (.code (.rangeFunc f params assign body)::k)) cs w)=.next (lone g (bh b tm (mark++ds) (.inRangeFunc l::k)::cs) w2):=by
 refine bm rfl ?_;have:=(iA (P:=P) (cs:=cs) (fr:=bh b tm (mark++ds) (.inRangeFunc l::k)) rfl h2).2.2 g hg;rw[<-this];unfold stepG.exec;simp only[bh]at h1⊢;simp only[Sem.runT_eq,h1,GStep.bare_after];rfl
theorem y7 (h:(Instr.endLoop l).run P w=.ok j w1):
 step P (lone (bh b tm ds (.endRangeFunc l::k)) cs w)=.next (lone (bh b tm ds ((j.map Item.code).toList++k)) cs w1):=by
 refine bm rfl ?_;unfold stepG.exec;simp only[bh];simp only[Sem.runT_eq,h,GStep.bare_after];rfl
theorem tK (hl:b.roundOf=some l) (h:(Instr.beginRound l).run P w=.ok () w1):
 step P (lone (bh b tm ds (.beginRound::k)) cs w)=.next (lone (bh b tm ds k) cs w1):=by
 refine bm rfl ?_
 have hs:(do (bh b tm ds (.beginRound::k)).roundOf.elim (Go.stuck "beginRound: no round") Instr.beginRound;Pure.pure Next.skip:Sem Next).run P w=.ok .skip w1:=by
  show(do b.roundOf.elim (Go.stuck "beginRound: no round") Instr.beginRound;Pure.pure Next.skip:Sem Next).run P w=.ok .skip w1;rw[hl];exact da P _ _ w h
 have:=(iA (P:=P) (cs:=cs) (fr:=bh b tm ds (.beginRound::k)) rfl hs).2.1 rfl;rw[show(bh b tm ds (.beginRound::k)).finish undef=bh b tm ds k from rfl]at this;rw[<-this];rfl
end
def rX (j:Option Code) (k todo:List Item):Prop:=match j with
 |none=>todo=k
 |some .ret=>∃k2,todo=.code .ret::k2
 |some (.exit id)=>∃k2,todo=.code (.exit id)::k2/\exitTo id k2=exitTo id k
 |some (.goto l)=>∃k2,todo=.code (.goto l)::k2/\gotoIn l k2=gotoIn l k
 |some _=>False
structure KF (P:Program) (S:Nat->Bool) (Fp:Nat->Prop) (p:Pi) (H:Hp) (T:List Value) (ds:List Deferred) (tm:Array Value) (jI:List Deferred) (w:World):Prop where
 sz:tm.size=T.length
 rl:Rl P S (cK P S) p H.get Fp w
 tr:∀x,VR S p (bB T x) (tm.getD x undef)
 dl:DL p ds jI
 gl:yS P S p
 hg:P.globals.size<=H.n
def It (P:Program) (S:Nat->Bool) (Fp:Nat->Prop) (b:Frame) (cs:List Frame) (k:List Item) (p:Pi) (n:Nat) (w:World) (m:Machine) (j:Option Code) (T1:List Value) (gN:List Deferred) (H1:Hp) (W:Nat):Prop:=
 ∃bA mq w' q todo,Steps P m (lone (bh b bA mq todo) cs w')/\Mv (fun r=>W.testBit r=true) p n w q H1.n w'/\KF P S Fp q H1 T1 gN bA mq w'/\rX j k todo
section
variable {P:Program} {S:Nat->Bool} {Fp:Nat->Prop} {b:Frame} {cs:List Frame} {ce:Next->Hp->Rs Value}
theorem rX.pass {x:Item} (hx:x.plain=true) {c:Code} (hj:j=some c) {k todo:List Item} (h:rX j (x::k) todo):rX j k todo:=by
 subst hj;cases c<;>try exact h
 .obtain⟨k2,h1,h2⟩:=h;refine⟨k2,h1,h2.trans ?_⟩;cases x<;>first|rfl|cases hx
 .obtain⟨k2,h1,h2⟩:=h;refine⟨k2,h1,h2.trans ?_⟩;cases x<;>first|rfl|cases hx
theorem bd {W:Nat->Prop} {N:Nat} {w:World} (h:∀r,n<=r->r<N->∀r',¬p r r') (m:Mv W p n w q n1 w1):∀r,n1<=r->r<N->∀r',¬q r r':=fun r a c r' hq=>by
 rcases m.new r r' hq with x|⟨_,x,_⟩
 .exact h r (Nat.le_trans m.nn a) c r' x
 .omega
theorem eX (h:∀r,((R|||R1).testBit r=true\/(W|||W1).testBit r=true)->Fp r):∀r,(R.testBit r=true\/W.testBit r=true)->Fp r:=fun r x=>h r (x.imp (fun x=>by rw[Nat.testBit_or,x];rfl) fun x=>by rw[Nat.testBit_or,x];rfl)
theorem bR (h:∀r,((R|||R1).testBit r=true\/(W|||W1).testBit r=true)->Fp r):∀r,(R1.testBit r=true\/W1.testBit r=true)->Fp r:=fun r x=>h r (x.imp (fun x=>by rw[Nat.testBit_or,x,Bool.or_true]) fun x=>by rw[Nat.testBit_or,x,Bool.or_true])
theorem Mv.or {s:Pi} {n2 W2:Nat} {w:World} (h:Mv (fun r=>W1.testBit r=true) p n w q n1 w1) (k:Mv (fun r=>W2.testBit r=true) q n1 w1 s n2 w2):Mv (fun r=>(W1|||W2).testBit r=true) p n w s n2 w2:=
 h.trans k (fun r x=>by rw[Nat.testBit_or,x];rfl) (fun r x=>by rw[Nat.testBit_or,x,Bool.or_true])
theorem gD {α β:Type} {Q:Pi->α->β->Prop} {s:Sem α} {s':Sem β} {a:α} {w:World} (h:SR P P.funcs S (cK P S) 0 Q s s' p) (e:aA P s H=some (a,H1,R,W))
 (hr:Rl P S (cK P S) p H.get Fp w) (hg:P.globals.size<=H.n) (hn:∀r,H.n<=r->r<H1.n->∀r',¬p r r') (hF:∀r,(R.testBit r=true\/W.testBit r=true)->Fp r):
 ∃a' w1 q,s'.run P w=.ok a' w1/\Q q a a'/\Mv (fun r=>W.testBit r=true) p H.n w q H1.n w1/\Rl P S (cK P S) q H1.get Fp w1:=by
 obtain⟨a',w1,q,c1,c2,c3,c4⟩:=jV (P:=P) (F:=P.funcs) s (h hr.ok) e hr hg hn (fun r x=>.inr (hF r x));exact⟨a',w1,q,c1,c2,c3,c4.mono fun r x=>.inl x⟩
theorem gO {tm:Array Value} (h1:tm.size=T.length) (h2:∀x,VR S p (bB T x) (tm.getD x undef)):AR S p T.toArray tm:=by
 refine⟨by simp[h1],fun i v v' hv np=>?_⟩
 have e1:bB T i=v:=by
  have:∀(L:List Value) i,L[i]?=some v->bB L i=v:=by
   intro L;induction L with
   |nil=>intro i h;simp at h
   |cons y L ih=>intro i h;cases i with
    |zero=>simpa [bB]using h
    |succ i=>exact ih i (by simpa using h)
  exact this T i (by simpa using hv)
 have:=h2 i;rw[e1,Array.getD_eq_getD_getElem?,np]at this;exact this
theorem SR.eu {K:Kz} (hb:oT P P.funcs S) {r r':Operand->Value} (hE:qs P S p r r') (hf:gJ P S f=true) (hl:p l l'):
 SR P P.funcs S K 0 (QX S K) (aq.eu r f l) (aq.eu r' f l') p:=by
 have e:∀(r:Operand->Value),(∀v,r (.const v)=v)->∀l,aq.eu r f l=(Deferred.ofValue (r f) #[.func (.yield l) #[] #[]]>>=fun d=>invoke d.target d.args):=fun r hr l=>by
  unfold aq.eu resolve;simp[hr]
 rw[e r (fun v=>(hE.const v).1),e r' (fun v=>(hE.const v).2)];exact SR.kM hb (hE.at hf) (AR.one (VR.yield hl))
theorem Fl (hk:Ok P P.funcs S) (fQ:jh P S (cK P S) (fun _ _=>False) ce) {ds:List Deferred}
 (e:nX P ce ro b.fn f params assign body T ds H=some (j,T1,gN,H1,R,W)) (hf:gJ P S f=true) (ha:cE P S assign=true) (hb:cE P S body=true) (hS:S b.fn=true)
 {tm:Array Value} {jI:List Deferred} {w:World} {k:List Item} (oM:RR p ro b.roundOf) (bM:KF P S Fp p H T ds tm jI w) (hn:∀r,H.n<=r->r<H1.n->∀r',¬p r r') (hF:∀r,(R.testBit r=true\/W.testBit r=true)->Fp r):
 It P S Fp b cs k p H.n w (lone (bh b tm jI (.code (.rangeFunc f params assign body)::k)) cs w) j T1 gN H1 W:=by
 unfold nX at e;split at e<;>try(cases e;done)
 rename_i l mark Ha Ra Wa e1;split at e<;>try(cases e;done)
 rename_i nx Hb Rb Wb e2;split at e<;>try(cases e;done)
 rename_i v Hc Rc Wc e3;split at e<;>try(cases e;done)
 rename_i j' Hd Rd Wd e4;cases hj:Zi j'<;>rw[hj]at e<;>simp only[cond_true,cond_false]at e
 .cases e
 simp only[Option.some.injEq,Prod.mk.injEq]at e;obtain⟨rfl,rfl,rfl,rfl,rfl,rfl⟩:=e;have f1:=bk P _ e1;have f2:=bk P _ e2;have f3:=fQ.ft _ _ _ _ _ _ e3;have f4:=bk P _ e4;have n1:=f1.nn;have n2:=f2.nn;have n3:=f3.nn;have n4:=f4.nn
 obtain⟨⟨l',rz⟩,w1,q1,a1,⟨a2,a3⟩,a4,a5⟩:=gD (SR.enterLoop (K:=cK P S) (f:=b.fn) (f':=b.fn) rfl hS (show cE P S _=true from rfl) (gO bM.sz bM.tr) params ha hb oM) e1 bM.rl bM.hg (fun r x y=>hn r x (by omega)) (eX hF);have yO:=bd hn a4;have hE:=PY (b:=b) (ds:=rz++jI) (k:=.inRangeFunc l'::k) (bM.gl.mono a4.le) (τ:=bB T) (tm:=tm) fun x=>(bM.tr x).mono a4.le;obtain⟨th,w2,q2,b1,b2,b3,b4⟩:=gD (s':=eu (bh b tm (rz++jI) (.inRangeFunc l'::k)).eval f l') (SR.eu hk.mI hE hf a2) e2 a5 (by have:=bM.hg;omega) (fun r x y=>yO r x (by omega)) (eX (bR hF));have Az:=bd yO b3;rcases fQ.run _ _ _ _ _ _ e3 q2 Fp w2 th (bh b tm (rz++jI) (.inRangeFunc l'::k)) cs b2 b4 ((bM.gl.mono a4.le).mono b3.le) (by have:=bM.hg;omega) (fun r x y=>Az r x (by omega)) (eX (bR (bR hF)))with⟨g,v',w3,c1,c2,q3,c3,c4,c5⟩|⟨_,_,_,_,_,h⟩
 rotate_left
 .exact h.elim
 have SG:=bd Az c4;obtain⟨j2,w4,q4,d1,⟨d2,d3⟩,d4,d5⟩:=gD (SR.endLoop (c4.le _ _ (b3.le _ _ a2))) e4 (c5.mono fun r x=>.inl x) (by have:=bM.hg;omega) (fun r x y=>SG r x (by omega)) (bR (bR (bR hF)));subst d2;have rI:(bh b tm (rz++jI) (.inRangeFunc l'::k)).finish v'=bh b tm (rz++jI) (.endRangeFunc l'::k):=rfl;rw[rI]at c2;refine⟨tm,rz++jI,w4,q4,(j'.map Item.code).toList++k,.head (Is a1 b1 c1) (c2.trans (.one (y7 d1))),a4.or (b3.or (c4.or d4)),⟨bM.sz,d5,fun x=>((((bM.tr x).mono a4.le).mono b3.le).mono c4.le).mono d4.le,DL.append (((a3.mono b3.le).mono c4.le).mono d4.le) ((((bM.dl.mono a4.le).mono b3.le).mono c4.le).mono d4.le),(((bM.gl.mono a4.le).mono b3.le).mono c4.le).mono d4.le,by have:=bM.hg;omega⟩,?_⟩;cases j' with
 |none=>rfl
 |some c=>cases c<;>first|(cases hj;done)|exact⟨k,rfl⟩|exact⟨k,rfl,rfl⟩
theorem It.of_steps {k:List Item} {w:World} {m':Machine} (h:Steps P m m') (g:It P S Fp b cs k p n w m' j T1 gN H1 W):It P S Fp b cs k p n w m j T1 gN H1 W:=by
 obtain⟨bA,mq,w',q,todo,a,c⟩:=g;exact⟨bA,mq,w',q,todo,h.trans a,c⟩
theorem BH {m1 f:Machine} (h:Steps P m f) (hs:step P m=.next m1) (bC:m≠f):Steps P m1 f:=by
 obtain⟨n,hn⟩:=h;cases n with
 |zero=>
  simp only[runN]at hn;cases hn;exact absurd rfl bC
 |succ n=>
  simp only[runN,hs]at hn;exact⟨n,hn⟩
theorem kZ (hk:Ok P P.funcs S) (fQ:jh P S (cK P S) (fun _ _=>False) ce) (ro:Option Nat) (hS:S b.fn=true):∀(n:Nat) (sc:Option Code) (c:Code) (T:List Value) (ds:List Deferred) (H:Hp) (j:Option Code) (T1:List Value) (gN:List Deferred) (H1:Hp) (R W:Nat),
 ji P (eC P) ce ro b.fn n sc c T ds H=some (j,T1,gN,H1,R,W)->cE P S c=true->(∀x,sc=some x->cE P S x=true)->∀(p:Pi) (tm:Array Value) (jI:List Deferred) (w:World) (k:List Item),RR p ro b.roundOf->KF P S Fp p H T ds tm jI w->
 (∀r,H.n<=r->r<H1.n->∀r',¬p r r')->(∀r,(R.testBit r=true\/W.testBit r=true)->Fp r)->
 It P S Fp b cs k p H.n w (lone (bh b tm jI (.code c::(match sc with|none=>k|some x=>.inScope x::k))) cs w) j T1 gN H1 W:=by
 intro n;induction n with
 |zero=>intro sc c T ds H j T1 gN H1 R W e;simp[ji]at e
 |succ n ih=>
  intro sc c T ds H j T1 gN H1 R W e hc LH p tm jI w k oM bM hn hF
  have two:∀{sc2 c2 T2 xI H2 R2 W2 m k2},Ft H R2 W2 H2->It P S Fp b cs k2 p H.n w m none T2 xI H2 W2->k2=(.code c2::(match sc2 with|none=>k|some x=>.inScope x::k))->pO R2 W2 (ji P (eC P) ce ro b.fn n sc2 c2 T2 xI H2)=some (j,T1,gN,H1,R,W)->cE P S c2=true->(∀x,sc2=some x->cE P S x=true)->
   It P S Fp b cs k p H.n w m j T1 gN H1 W:=by
   intro sc2 c2 T2 xI H2 R2 W2 m k2 AB P5 mO BI GL Zj;obtain⟨R3,W3,e3,rfl,rfl⟩:=jW BI;obtain⟨bA,mq,w',q,todo,g1,g2,g3,g4⟩:=P5;have g4:todo=k2:=g4;subst g4;subst mO;obtain⟨iE,LP,w2,q2,uF,k1,k2,k3,k4⟩:=ih sc2 c2 T2 xI H2 j T1 gN H1 R3 W3 e3 GL Zj q bA mq w' k (oM.mono g2.le) g3 (bd hn g2) (bR hF);exact⟨iE,LP,w2,q2,uF,g1.trans k1,g2.or k2,k3,k4⟩
  have P6:∀{sc2 c2 R3 W3 T3 Xi H3},pO R3 W3 (ji P (eC P) ce ro b.fn n sc2 c2 T3 Xi H3)=some (j,T1,gN,H1,R,W)->H3.n<=H1.n/\∀r,(R3.testBit r=true\/W3.testBit r=true)->Fp r:=by
   intro sc2 c2 R3 W3 T3 Xi H3 BI;obtain⟨R4,W4,e4,rfl,rfl⟩:=jW BI;exact⟨(eW fQ _ _ _ _ _ _ _ _ _ _ _ _ _ _ e4).1.nn,eX hF⟩
  have here:∀{todo m},Steps P m (lone (bh b tm jI todo) cs w)->some (j,T,ds,H,0,0)=some (j,T1,gN,H1,R,W)->rX j k todo->It P S Fp b cs k p H.n w m j T1 gN H1 W:=by
   intro todo m hs e he;simp only[Option.some.injEq,Prod.mk.injEq]at e;obtain⟨_,rfl,rfl,rfl,rfl,rfl⟩:=e;exact⟨tm,jI,w,p,todo,hs,Mv.refl _ _ _ _,bM,he⟩
  cases sc with
  |some sc=>
   simp only[ji]at e;have Zk:=LH sc rfl
   have pop:∀{j2 T2 xI H2 W2},It P S Fp b cs (.inScope sc::k) p H.n w (lone (bh b tm jI (.code c:: .inScope sc::k)) cs w) j2 T2 xI H2 W2->(∀l,j2=some (.goto l)->findLabel sc l=none)->It P S Fp b cs k p H.n w (lone (bh b tm jI (.code c:: .inScope sc::k)) cs w) j2 T2 xI H2 W2:=by
    intro j2 T2 xI H2 W2 ⟨bA,mq,w',q,todo,g1,g2,g3,g4⟩ Fm;cases j2 with
    |none=>
     have g4:todo=_:=g4;subst g4;exact⟨bA,mq,w',q,k,g1.trans (.one BC),g2,g3,rfl⟩
    |some c2=>
     refine⟨bA,mq,w',q,todo,g1,g2,g3,?_⟩;cases c2<;>try exact g4
     .rename_i l;obtain⟨k2,h1,h2⟩:=g4;refine⟨k2,h1,h2.trans ?_⟩;show(match findLabel sc l with|some rest=>(some (Item.code rest::Item.inScope sc::k):Option (List Item))|none=>gotoIn l k)=_;rw[Fm l rfl]
   split at e
   .rename_i l T2 xI H2 R2 W2 e1;split at e
    .rename_i rest Fm;have⟨x1,x2⟩:=P6 e;have P5:=ih none c T ds H _ T2 xI H2 R2 W2 e1 hc (fun _ h=>by cases h) p tm jI w (.inScope sc::k) oM bM (fun r a c=>hn r a (by omega)) x2;obtain⟨bA,mq,w',q,todo,g1,g2,g3,k2,rfl,g5⟩:=P5
     have g6:gotoIn l k2=some (.code rest:: .inScope sc::k):=by
      rw[g5];show(match findLabel sc l with|some rest=>(some (Item.code rest::Item.inScope sc::k):Option (List Item))|none=>gotoIn l k)=_;rw[Fm]
     exact two (sc2:=some sc) (eW fQ _ _ _ _ _ _ _ _ _ _ _ _ _ _ e1).1 ⟨bA,mq,w',q,_,g1.trans (.one (LL g6)),g2,g3,rfl⟩ rfl e (wy Zk Fm) LH
    .rename_i Fm;simp only[Option.some.injEq,Prod.mk.injEq]at e;obtain⟨rfl,rfl,rfl,rfl,rfl,rfl⟩:=e;exact pop (ih none c T ds H _ _ _ _ _ _ e1 hc (fun _ h=>by cases h) p tm jI w (.inScope sc::k) oM bM hn hF) fun l' h=>by cases h;exact Fm
   .rename_i gT;refine pop (ih none c T ds H _ _ _ _ _ _ e hc (fun _ h=>by cases h) p tm jI w (.inScope sc::k) oM bM hn hF) fun l h=>?_;subst h;exact absurd e (gT _ _ _ _ _ _)
  |none=>
   cases c with
   |skip=>
    simp only[ji,Option.some.injEq,Prod.mk.injEq]at e;obtain⟨rfl,e⟩:=e;exact here (.one qP) (by obtain⟨rfl,rfl,rfl,rfl,rfl⟩:=e;rfl) rfl
   |label l=>
    simp only[ji,Option.some.injEq,Prod.mk.injEq]at e;obtain⟨rfl,e⟩:=e;exact here (.one Ij) (by obtain⟨rfl,rfl,rfl,rfl,rfl⟩:=e;rfl) rfl
   |exit id=>
    simp only[ji,Option.some.injEq,Prod.mk.injEq]at e;obtain⟨rfl,e⟩:=e;exact here (.refl _ _) (by obtain⟨rfl,rfl,rfl,rfl,rfl⟩:=e;rfl) ⟨k,rfl,rfl⟩
   |goto l=>
    simp only[ji,Option.some.injEq,Prod.mk.injEq]at e;obtain⟨rfl,e⟩:=e;exact here (.refl _ _) (by obtain⟨rfl,rfl,rfl,rfl,rfl⟩:=e;rfl) ⟨k,rfl,rfl⟩
   |ret=>
    simp only[ji,Option.some.injEq,Prod.mk.injEq]at e;obtain⟨rfl,e⟩:=e;exact here (.refl _ _) (by obtain⟨rfl,rfl,rfl,rfl,rfl⟩:=e;rfl) ⟨k,rfl⟩
   |refuse w=>simp[ji]at e
   |region id ops draw=>
    simp only[ji]at e;split at e<;>try(cases e;done)
    rename_i T2 H2 R2 W2 e1;simp only[Option.some.injEq,Prod.mk.injEq]at e;obtain⟨rfl,rfl,rfl,rfl,rfl,rfl⟩:=e;rcases nW hk (Ur P S) fQ hc e1 bM.hg hF bM.sz bM.rl bM.tr bM.gl hn id b jI k cs with⟨bA,w',q,a1,a2,a3,a4,a5⟩|⟨_,_,_,_,_,h⟩
    .exact⟨bA,jI,w',q,k,a1,a3,⟨a2.trans (d8 fQ e1).2.symm,a4,a5,bM.dl.mono a3.le,bM.gl.mono a3.le,Nat.le_trans bM.hg a3.nn⟩,rfl⟩
    .exact h.elim
   |seq a c=>
    simp only[cE,Bool.and_eq_true]at hc;simp only[ji]at e;split at e
    .rename_i T2 xI H2 R2 W2 e1;have⟨x1,x2⟩:=P6 e;exact(two (sc2:=none) (eW fQ _ _ _ _ _ _ _ _ _ _ _ _ _ _ e1).1 (ih none a T ds H _ _ _ _ _ _ e1 hc.1 (fun _ h=>by cases h) p tm jI w (.code c::k) oM bM (fun r a c=>hn r a (by omega)) x2) rfl e hc.2 fun _ h=>by cases h).of_steps (.one dD)
    .rename_i gT;obtain⟨bA,mq,w',q,todo,g1,g2,g3,g4⟩:=ih none a T ds H _ _ _ _ _ _ e hc.1 (fun _ h=>by cases h) p tm jI w (.code c::k) oM bM hn hF;cases j with
     |none=>exact absurd e (gT _ _ _ _ _)
     |some c2=>exact⟨bA,mq,w',q,todo,.head dD g1,g2,g3,g4.pass (c:=c2) (x:=.code c) rfl rfl⟩
   |cond x a c=>
    simp only[cE,Bool.and_eq_true]at hc;simp only[ji]at e;split at e<;>try(cases e;done)
    rename_i t ht;have hE:=(PY (b:=b) (ds:=jI) (k:=.code (.cond x a c)::k) bM.gl bM.tr).at hc.1.1
    have hx:(bh b tm jI (.code (.cond x a c)::k)).eval x=.bool t:=by
     rw[ht]at hE;generalize(bh b tm jI (.code (.cond x a c)::k)).eval x=y at hE;cases hE;rfl
    refine It.of_steps (.one (lM hx)) ?_;rw[show(if t=true then a else c)=(bif t then a else c) by cases t<;>rfl];exact ih none _ T ds H _ _ _ _ _ _ e (by cases t;exact hc.2;exact hc.1.2) (fun _ h=>by cases h) p tm jI w k oM bM hn hF
   |block id a=>
    simp only[ji]at e;split at e
    .rename_i i T2 xI H2 R2 W2 e1;cases hb:Nat.beq i id<;>rw[hb]at e<;>simp only[cond_true,cond_false,Option.some.injEq,Prod.mk.injEq]at e<;>obtain⟨rfl,rfl,rfl,rfl,rfl,rfl⟩:=e
     .obtain⟨bA,mq,w',q,todo,g1,g2,g3,k2,g4,g5⟩:=ih none a T ds H _ _ _ _ _ _ e1 hc (fun _ h=>by cases h) p tm jI w (.inBlock id::k) oM bM hn hF;refine⟨bA,mq,w',q,todo,.head nQ g1,g2,g3,k2,g4,g5.trans ?_⟩;show(if id==i then some k else exitTo i k)=_;rw[if_neg];intro h;have:id=i:=by simpa using h
      subst this;rw[Nat.beq_refl]at hb;cases hb
     .have:i=id:=Nat.eq_of_beq_eq_true hb;subst this;obtain⟨bA,mq,w',q,todo,g1,g2,g3,k2,rfl,g5⟩:=ih none a T ds H _ _ _ _ _ _ e1 hc (fun _ h=>by cases h) p tm jI w (.inBlock i::k) oM bM hn hF;refine⟨bA,mq,w',q,k,.head nQ (g1.trans (.one (LK ?_))),g2,g3,rfl⟩;rw[g5];show(if i==i then some k else exitTo i k)=_;simp
    .rename_i gT;obtain⟨bA,mq,w',q,todo,g1,g2,g3,g4⟩:=ih none a T ds H _ _ _ _ _ _ e hc (fun _ h=>by cases h) p tm jI w (.inBlock id::k) oM bM hn hF;cases j with
     |none=>
      have g4:todo=_:=g4;subst g4;exact⟨bA,mq,w',q,k,.head nQ (g1.trans (.one BB)),g2,g3,rfl⟩
     |some c2=>
      refine⟨bA,mq,w',q,todo,.head nQ g1,g2,g3,?_⟩;cases c2<;>try exact g4
      exact absurd e (gT _ _ _ _ _ _)
   |loop a=>
    simp only[ji]at e;split at e
    .rename_i T2 xI H2 R2 W2 e1;have⟨x1,x2⟩:=P6 e;obtain⟨R3,W3,e3,rfl,rfl⟩:=jW e;obtain⟨bA,mq,w',q,todo,g1,g2,g3,g4⟩:=ih none a T ds H _ _ _ _ _ _ e1 hc (fun _ h=>by cases h) p tm jI w (.inLoop a::k) oM bM (fun r a c=>hn r a (by omega)) x2;have g4:todo=_:=g4;subst g4;obtain⟨iE,LP,w2,q2,uF,k1,k2,k3,k4⟩:=ih none (.loop a) T2 xI H2 j T1 gN H1 R3 W3 e3 hc (fun _ h=>by cases h) q bA mq w' k (oM.mono g2.le) g3 (bd hn g2) (bR hF);refine⟨iE,LP,w2,q2,uF,.head wi (g1.trans (.head Fe (BH k1 wi fun hm=>?_))),g2.or k2,k3,k4⟩
     have h1:(bh b bA mq (.code (.loop a)::k)).todo=(bh b iE LP uF).todo:=by
      have:=congrArg (fun m:Machine=>(m.gs[0]?).map fun g=>g.frame.todo) hm;simpa [lone]using this
     have h1:.code (.loop a)::k=uF:=h1;cases j with
     |none=>
      have k4:uF=k:=k4;have:=congrArg List.length (h1.trans k4);simp at this
     |some c=>
      cases c<;>try exact k4.elim
      all_goals(obtain⟨k9,k5⟩:=k4;first|(rw[<-h1]at k5;simp at k5;done)|(rw[<-h1]at k5;have k6:=k5.1;simp at k6;done))
    .rename_i gT;obtain⟨bA,mq,w',q,todo,g1,g2,g3,g4⟩:=ih none a T ds H _ _ _ _ _ _ e hc (fun _ h=>by cases h) p tm jI w (.inLoop a::k) oM bM hn hF;cases j with
     |none=>exact absurd e (gT _ _ _ _ _)
     |some c2=>exact⟨bA,mq,w',q,todo,.head wi g1,g2,g3,g4.pass (c:=c2) (x:=.inLoop a) rfl rfl⟩
   |scope a=>
    simp only[ji]at e;exact(ih (some a) a T ds H _ _ _ _ _ _ e hc (fun x h=>by cases h;exact hc) p tm jI w k oM bM hn hF).of_steps (.one Ik)
   |rangeFunc f params assign body=>
    simp only[cE,Bool.and_eq_true]at hc;simp only[ji]at e;exact Fl hk fQ e hc.1.1 hc.1.2 hc.2 hS oM bM hn hF
end
def tL (b:Frame) (tm:Array Value) (ds:List Deferred) (todo:List Item):Frame:={bh b tm ds todo with mode:=.returning}
section
variable {P:Program} {b:Frame} {tm:Array Value} {ds:List Deferred} {todo:List Item} {cs:List Frame} {w:World}
theorem uG {fr Uh:Frame} {jH:List Frame} {w':World} (hm:fr.mode=.returning) (h:(unwind P true fr cs none w).bare=.go {frame:=Uh,callers:=jH,status:=.running,dying:=none} w'):
 step P (lone fr cs w)=.next (lone Uh jH w'):=by
 refine step_lone_go ?_;rw[<-h];obtain⟨fn,tmps,todo,ds,mode,kind,ro⟩:=fr;simp only at hm;subst hm;rfl
theorem LQ {r:Nat} (h:(Instr.takeDeferred r).run P w=.ok [] w1):step P (lone (tL b tm ({target:=.collected r,args}::ds) todo) cs w)=.next (lone (tL b tm ds todo) cs w1):=by
 refine uG rfl ?_;unfold unwind;simp only[tL,bh,Sem.runT_eq,h,GStep.bare_after];rfl
theorem pf {fn:Func} (hf:P.funcs[b.fn]?=some fn) (Of:b.kind=.normal) (h:(results fn tm).run P w=.ok v w1) (c:Frame):step P (lone (tL b tm [] todo) (c::cs) w)=.next (lone (c.finish v) cs w1):=by
 refine uG rfl ?_;unfold unwind;simp only[tL,bh,hf,Sem.runT_eq,h,GStep.bare_after];unfold doReturn;simp only[Of];rfl
theorem lg (hj:y6 j=true) (h:rX j [] todo) (oM:b.roundOf=none):step P (lone (bh b tm ds todo) cs w)=.next (lone (tL b tm ds todo) cs w):=by
 refine bm rfl ?_;cases j with
 |none=>
  have h:todo=[]:=h;subst h;rw[Go.aq.dV true rfl,Go.aq.iP true (f:=bh b tm ds _) oM];rfl
 |some c=>
  cases c<;>try(cases hj;done)
  obtain⟨k2,rfl⟩:=h;rw[Go.aq.dW true rfl,Go.aq.iP true (f:=bh b tm ds _) oM];rfl
theorem tM (h:rX j [] todo) (oM:b.roundOf=some l) (Of:b.kind=.normal) (hr:(Instr.endRound l j).run P w=.ok v w1) (c:Frame):
 step P (lone (bh b tm ds todo) (c::cs) w)=.next (lone (c.finish v) cs w1):=by
 have fin:(Go.aq.gU P true (bh b tm ds todo) (c::cs) j w).bare=.go {frame:=c.finish v,callers:=cs,status:=.running,dying:=none} w1:=by
  rw[Go.aq.iQ true (f:=bh b tm ds todo) oM,GStep.bare_after];simp only[Sem.runT_eq,hr];unfold doReturn;simp only[bh,Of];rfl
 refine bm rfl ?_;cases j with
 |none=>
  have h:todo=[]:=h;subst h;rw[Go.aq.dV true rfl];exact fin
 |some c=>
  cases c<;>try exact h.elim
  .obtain⟨k2,rfl,h2⟩:=h;rw[Go.aq.dG true rfl,h2];exact fin
  .obtain⟨k2,rfl,h2⟩:=h;rw[Go.aq.dH true rfl,h2];exact fin
  .obtain⟨k2,rfl⟩:=h;rw[Go.aq.dW true rfl];exact fin
end
def BJ (P:Program) (S ex:Nat->Bool):Prop:=∀(f:Nat) (fn:Func) (body:Code),S f=true->ex f=false->P.funcs[f]?=some fn->fn.body=some body->cE P S body=true
section
variable {P:Program} {S:Nat->Bool} {Fp:Nat->Prop} {b:Frame} {cs:List Frame} {ce:Next->Hp->Rs Value}
theorem rY {todo:List Item} {tm:Array Value}:∀(ds:List Deferred) {H H1:Hp} {R W:Nat} {p:Pi} {jI:List Deferred} {w:World},i6 P ds H=some ((),H1,R,W)->DL p ds jI->Rl P S (cK P S) p H.get Fp w->P.globals.size<=H.n->
 (∀r,H.n<=r->r<H1.n->∀r',¬p r r')->(∀r,(R.testBit r=true\/W.testBit r=true)->Fp r)->
 ∃w1 q,Steps P (lone (tL b tm jI todo) cs w) (lone (tL b tm [] todo) cs w1)/\Mv (fun r=>W.testBit r=true) p H.n w q H1.n w1/\Rl P S (cK P S) q H1.get Fp w1
 | [],H,H1,R,W,p,jI,w,e,hd,hr,hg,hn,hF=>by
   cases hd;simp only[i6,Option.some.injEq,Prod.mk.injEq,true_and]at e;obtain⟨rfl,rfl,rfl⟩:=e;exact⟨w,p,.refl _ _,Mv.refl _ _ _ _,hr⟩
 |d::ds,H,H1,R,W,p,jI,w,e,hd,hr,hg,hn,hF=>by
  cases hd with
  | @cons _ l' r r' h t=>
    simp only[i6]at e;split at e<;>try(cases e;done)
    rename_i x Ha Ra Wa e1;split at e<;>try(cases e;done)
    rename_i y Hb Rb Wb e2;simp only[Option.some.injEq,Prod.mk.injEq,true_and]at e;obtain⟨rfl,rfl,rfl⟩:=e;have n1:=(bk P _ e1).nn;have n2:=(iD _ _ _ _ _ e2).nn;obtain⟨a',w1,q1,a1,⟨_,rfl⟩,a3,a4⟩:=gD (SR.takeDeferred h) e1 hr hg (fun r x y=>hn r x (by omega)) (eX hF);obtain⟨w2,q2,b1,b2,b3⟩:=rY ds e2 (t.mono a3.le) a4 (by omega) (bd hn a3) (bR hF);exact⟨w2,q2,.head (LQ a1) b1,a3.or b2,b3⟩
theorem pP (l:List Value) (n:Nat) (x:Nat):bB (l++List.replicate n undef) x=bB l x:=by
 induction l generalizing x with
 |nil=>
  have:∀(n x:Nat),bB (List.replicate n undef) x=undef:=by
   intro n;induction n with
   |zero=>intro x;rfl
   |succ n ih=>intro x;cases x with
    |zero=>rfl
    |succ x=>exact ih x
  rw[List.nil_append,this];rfl
 |cons y l ih=>cases x with
  |zero=>rfl
  |succ x=>exact ih x
theorem pQ (a:Array Value) (x:Nat):bB a.toList x=a.getD x undef:=by
 rw[Array.getD_eq_getD_getElem?,<-Array.getElem?_toList];generalize a.toList=l;induction l generalizing x with
 |nil=>rfl
 |cons y l ih=>cases x with
  |zero=>rfl
  |succ x=>simpa [bB]using ih x
theorem lh (h:AR S p args bu) (n:Nat):
 (bu++Array.replicate (n-bu.size) undef).size=(args.toList++List.replicate (n-args.size) undef).length/\
 ∀x,VR S p (bB (args.toList++List.replicate (n-args.size) undef) x) ((bu++Array.replicate (n-bu.size) undef).getD x undef):=by
 refine⟨by simp[h.1],fun x=>?_⟩;rw[pP,pQ]
 have:(bu++Array.replicate (n-bu.size) undef).getD x undef=bu.getD x undef:=by
  rw[Array.getD_eq_getD_getElem?,Array.getD_eq_getD_getElem?];rcases Nat.lt_or_ge x bu.size with hx|hx
  .rw[Array.getElem?_append_left hx]
  .rw[Array.getElem?_append_right hx,Array.getElem?_eq_none hx,Array.getElem?_replicate];split<;>rfl
 rw[this];exact h.getD x VR.undef
theorem P7 (hk:Ok P P.funcs S) (hB:BJ P S ex) (fQ:jh P S (cK P S) (fun _ _=>False) ce) {f:Nat} (e:BF P (eC P) ce n f args H=some (v,H1,R,W)) (hS:S f=true) (hx:ex f=false)
 {w:World} (ha:AR S p args bu) (hr:Rl P S (cK P S) p H.get Fp w) (hG:yS P S p) (hg:P.globals.size<=H.n) (hn:∀r,H.n<=r->r<H1.n->∀r',¬p r r') (hF:∀r,(R.testBit r=true\/W.testBit r=true)->Fp r) (fr:Frame):
 ∃v' w1 q,Steps P (lone (Frame.enter P f bu .normal) (fr::cs) w) (lone (fr.finish v') cs w1)/\VR S q v v'/\Mv (fun r=>W.testBit r=true) p H.n w q H1.n w1/\Rl P S (cK P S) q H1.get Fp w1:=by
 unfold BF at e;split at e<;>try(cases e;done)
 rename_i fn tN;split at e<;>try(cases e;done)
 rename_i body jz;split at e<;>try(cases e;done)
 rename_i j T1 gN Ha Ra Wa e1;cases hj:y6 j<;>rw[hj]at e<;>simp only[cond_true,cond_false]at e
 .cases e
 split at e<;>try(cases e;done)
 rename_i u Hb Rb Wb e2;split at e<;>try(cases e;done)
 rename_i x Hc Rc Wc e3;simp only[Option.some.injEq,Prod.mk.injEq]at e;obtain⟨rfl,rfl,rfl,rfl⟩:=e;have f1:=eW fQ _ _ _ _ _ _ _ _ _ _ _ _ _ _ e1;have n1:=f1.1.nn;have n2:=(iD _ _ _ _ _ e2).nn;have n3:=(bk P _ e3).nn;let b0:Frame:=Frame.enter P f bu .normal
 have Og:lone (Frame.enter P f bu .normal) (fr::cs) w=lone (bh b0 (bu++Array.replicate (fn.ntmps-bu.size) undef) [] [.code body]) (fr::cs) w:=by
  simp[b0,bh,Frame.enter,tN,jz]
 rw[Og];obtain⟨s1,s2⟩:=lh ha fn.ntmps;obtain⟨bA,mq,w1,q1,todo,a1,a2,a3,a4⟩:=kZ (b:=b0) (cs:=fr::cs) hk fQ none hS n none body _ [] H j T1 gN Ha Ra Wa e1 (hB f fn body hS hx tN jz) (fun _ h=>by cases h) p _ [] w [] .none ⟨s1,hr,s2,.nil,hG,hg⟩ (fun r x y=>hn r x (by omega)) (eX hF);have yO:=bd hn a2;obtain⟨w2,q2,b1,b2,b3⟩:=rY (b:=b0) (cs:=fr::cs) (todo:=todo) (tm:=bA) gN e2 a3.dl a3.rl (by omega) (fun r x y=>yO r x (by omega)) (eX (bR hF));have Az:=bd yO b2;obtain⟨v',w3,q3,c1,c2,c3,c4⟩:=gD (SR.results (fn:=fn) (kE:=fn) rfl (gO a3.sz fun x=>(a3.tr x).mono b2.le)) e3 b3 (by omega) Az (bR (bR hF));exact⟨v',w3,q3,a1.trans (.head (lg hj a4 rfl) (b1.trans (.one (pf (b:=b0) tN rfl c1 fr)))),c2,a2.or (b2.or c3),c4⟩
theorem Fq (hk:Ok P P.funcs S) (fQ:jh P S (cK P S) (fun _ _=>False) ce) {f:Nat} {rx:Array Value} (e:nY P (eC P) ce n l f tmps assign body H=some (v,H1,R,W)) (hS:S f=true) (Zl:cE P S assign=true) (Zm:cE P S body=true)
 {w:World} (hl:p l l') (ha:AR S p tmps rx) (hr:Rl P S (cK P S) p H.get Fp w) (hG:yS P S p) (hg:P.globals.size<=H.n) (hn:∀r,H.n<=r->r<H1.n->∀r',¬p r r') (hF:∀r,(R.testBit r=true\/W.testBit r=true)->Fp r) (fr:Frame):
 ∃v' w1 q,Steps P (lone (Frame.round l' f rx assign body .normal) (fr::cs) w) (lone (fr.finish v') cs w1)/\VR S q v v'/\Mv (fun r=>W.testBit r=true) p H.n w q H1.n w1/\Rl P S (cK P S) q H1.get Fp w1:=by
 unfold nY at e;split at e<;>try(cases e;done)
 rename_i T1 gN Ha Ra Wa e1;split at e<;>try(cases e;done)
 rename_i u Hb Rb Wb e2;split at e<;>try(cases e;done)
 rename_i j T3 Xi Hc Rc Wc e3;split at e<;>try(cases e;done)
 rename_i x Hd Rd Wd e4;simp only[Option.some.injEq,Prod.mk.injEq]at e;obtain⟨rfl,rfl,rfl,rfl⟩:=e;have n1:=(eW fQ _ _ _ _ _ _ _ _ _ _ _ _ _ _ e1).1.nn;have n2:=(bk P _ e2).nn;have n3:=(eW fQ _ _ _ _ _ _ _ _ _ _ _ _ _ _ e3).1.nn;have n4:=(bk P _ e4).nn;let b0:Frame:=Frame.round l' f rx assign body .normal
 have s2:∀x,VR S p (bB tmps.toList x) (rx.getD x undef):=fun x=>by rw[pQ];exact ha.getD x VR.undef
 obtain⟨gP,Zn,w1,q1,Us,a1,a2,a3,a4⟩:=kZ (b:=b0) (cs:=fr::cs) hk fQ (some l) hS n none assign _ [] H none T1 gN Ha Ra Wa e1 Zl (fun _ h=>by cases h) p rx [] w [.beginRound,.code body] (.some hl) ⟨by simp[ha.1],hr,s2,.nil,hG,hg⟩ (fun r x y=>hn r x (by omega)) (eX hF);have a4:Us=_:=a4;subst a4;have yO:=bd hn a2;obtain⟨u',w2,q2,b1,b2,b3,b4⟩:=gD (SR.beginRound (a2.le _ _ hl)) e2 a3.rl (by omega) (fun r x y=>yO r x (by omega)) (eX (bR hF));have Az:=bd yO b3;obtain⟨pg,zf6,w3,q3,zdo,c1,c2,c3,c4⟩:=kZ (b:=b0) (cs:=fr::cs) hk fQ (some l) hS n none body _ gN Hb j T3 Xi Hc Rc Wc e3 Zm (fun _ h=>by cases h) q2 gP Zn w2 [] (.some (b3.le _ _ (a2.le _ _ hl))) ⟨a3.sz,b4,fun x=>(a3.tr x).mono b3.le,a3.dl.mono b3.le,a3.gl.mono b3.le,by omega⟩ (fun r x y=>Az r x (by omega)) (eX (bR (bR hF)));have SG:=bd Az c2
 have hj:∀c,j=some c->cE P S c=true:=fun c hc=>by
  subst hc;cases c<;>first|rfl|exact c4.elim
 obtain⟨v',w4,q4,d1,d2,d3,d4⟩:=gD (SR.endRound (K:=cK P S) (c2.le _ _ (b3.le _ _ (a2.le _ _ hl))) j hj) e4 c3.rl (by omega) SG (bR (bR (bR hF)));exact⟨v',w4,q4,a1.trans (.head (tK (b:=b0) rfl b1) (c1.trans (.one (tM (b:=b0) c4 rfl rfl d1 fr)))),d2,a2.or (b3.or (c2.or d3)),d4⟩
theorem BL (hk:Ok P P.funcs S) (hB:BJ P S ex):∀n,jh P S (cK P S) (fun _ _=>False) (Up P ex n):=by
 intro n;induction n with
 |zero=>exact⟨fun nx H v H1 R W e=>by simp[Up,qA]at e,fun nx H v H1 R W e=>by simp[Up,qA]at e⟩
 |succ n ih=>
  refine⟨fun nx H v H1 R W e=>?_,fun nx H v H1 R W e p Fp w th fr cs GN hr hG hg hn hF=>?_⟩
  .cases nx<;>simp only[Up,qA]at e<;>try(cases e;done)
   .rename_i f args;cases hx:ex f<;>rw[hx]at e<;>simp only[cond_true,cond_false]at e
    .exact DE ih e
    .cases e
   .exact rW ih e
  .cases GN<;>simp only[Up,qA]at e<;>try(cases e;done)
   .rename_i f xs cD hS ha;cases hx:ex f<;>rw[hx]at e<;>simp only[cond_true,cond_false]at e;rotate_left
    .cases e
    obtain⟨v',w1,q,a1,a2,a3,a4⟩:=P7 (cs:=cs) hk hB ih e hS hx ha hr hG hg hn hF fr;refine .inl ⟨_,v',w1,rfl,a1,q,a2,a3,a4.mono fun r x=>?_⟩;rcases x with x|⟨x,y⟩
    .exact x
    .exact hF r (.inr ((DE ih e).nw r x y))
   .rename_i l l' f xs cD a c hl hf ha Zl Zm _;obtain⟨v',w1,q,a1,a2,a3,a4⟩:=Fq (cs:=cs) hk ih e hf Zl Zm hl ha hr hG hg hn hF fr;refine .inl ⟨_,v',w1,rfl,a1,q,a2,a3,a4.mono fun r x=>?_⟩;rcases x with x|⟨x,y⟩
    .exact x
    .exact hF r (.inr ((rW ih e).nw r x y))
end
end Go.aq
