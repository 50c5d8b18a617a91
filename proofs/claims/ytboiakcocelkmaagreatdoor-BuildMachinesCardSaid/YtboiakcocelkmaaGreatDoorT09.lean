/- A part. Conditions: none. -/
import Derived.Test.YtboiakcocelkmaaGreatDoorT07
import Derived.Test.YtboiakcocelkmaaGreatDoorT08
import Derived.Orders
set_option linter.all false
namespace Go.au
variable {D:Nat->Bool} {Fp:Nat->Prop} {Hs:Nat->Hp} {T T1:List Value} {Ts:Nat->List Value} {b:Frame} {ds:List Deferred} {i j:Nat} {ops:Array Oper} {p:Pi} {r':Operand->Value} {tm:Array Value} {τ:Nat->Value}
def bt:List Value->Nat->Value
 | [],_=>undef
 |x::_,0=>x
 |_::l,n+1=>bt l n
def kx:List Value->Nat->Value->List Value
 | [],_,_=>[]
 |_::l,0,v=>v::l
 |x::l,n+1,v=>x::kx l n v
theorem iC:∀(l:List Value) (n:Nat) (v:Value),(kx l n v).length=l.length
 | [],_,_=>rfl
 |_::_,0,_=>rfl
 |_::l,n+1,v=>by simp[kx,iC l n v]
theorem tL:∀(l:List Value) (n:Nat) (v:Value) (m:Nat),bt (kx l n v) m=if m=n/\n<l.length then v else bt l m
 | [],n,v,m=>by simp[kx,bt]
 |x::l,0,v,0=>by simp[kx,bt]
 |x::l,0,v,m+1=>by simp[kx,bt]
 |x::l,n+1,v,0=>by simp[kx,bt]
 |x::l,n+1,v,m+1=>by simp[kx,bt,tL l n v m]
def xt (τ:Nat->Value):Operand->Value
 |.tmp t=>τ t
 |.const v=>v
 |.global g=>.pointer (some ⟨g,0,none⟩)
 |.func f=>.func (.func f) #[] #[]
def pO (T:List Value) (dst:Option Tmp) (v:Value):List Value:=match dst with
 |some d=>kx T d v
 |none=>T
def cW (P:Program) (ce:Next->Hp->Rs Value) (r:Operand->Value) (o:Oper) (H:Hp):Rs Value:=
 match kv P r o H with
 |some (.value v,H1,R,W)=>some (v,H1,R,W)
 |some (.skip,H1,R,W)=>some (undef,H1,R,W)
 |some (nx,H1,R,W)=>match ce nx H1 with
  |some (v,H2,R2,W2)=>some (v,H2,R|||R2,W|||W2)
  |none=>none
 |none=>none
def xu (P:Program) (S:Nat->Bool) (p:Pi):Prop:=∀g,g<P.globals.size->S (P.funcs.size+g)=true->p g g
theorem xu.mono {P:Program} {S:Nat->Bool} {q:Pi} (h:xu P S p) (hq:Le p q):xu P S q:=fun g a b=>hq _ _ (h g a b)
def gv (P:Program) (mZ:List PanicEntry->World->Prop) (b:Frame) (ds:List Deferred) (cs:List Frame) (m:Machine):Prop:=
 ∃tm todo chain w1,Steps P m (lone ((aY b tm ds todo).raise chain) cs w1)/\mZ chain w1
theorem gv.of_steps {P:Program} {mZ:List PanicEntry->World->Prop} {cs:List Frame} {m m':Machine} (h:Steps P m m') (t:gv P mZ b ds cs m'):gv P mZ b ds cs m:=
 let⟨tm,todo,chain,w1,a,e⟩:=t;⟨tm,todo,chain,w1,h.trans a,e⟩
structure iL (P:Program) (S:Nat->Bool) (K:Kz) (mZ:List PanicEntry->World->Prop) (ce:Next->Hp->Rs Value):Prop where
 ft:∀nx H v H1 R W,ce nx H=some (v,H1,R,W)->Ft H R W H1
 run:∀nx H v H1 R W,ce nx H=some (v,H1,R,W)->∀(p:Pi) (Fp:Nat->Prop) (w:World) (sw:Next) (fr:Frame) (cs:List Frame),NX S K p nx sw->Rl P S K p H.get Fp w->xu P S p->P.globals.size<=H.n->
  (∀r,H.n<=r->r<H1.n->∀r',¬p r r')->(∀r,(R.testBit r=true\/W.testBit r=true)->Fp r)->
  (QH P sw fr cs w fun v' w1=>∃q,VR S q v v'/\Mv (fun r=>W.testBit r=true) p H.n w q H1.n w1/\Rl P S K q H1.get (fun r=>Fp r\/(H.n<=r/\r<H1.n)) w1)\/
  ∃g chain w1,oh P sw=some g/\Steps P (lone g (fr::cs) w) (lone (fr.raise chain) cs w1)/\mZ chain w1
section
variable {P:Program} {S:Nat->Bool} {K:Kz} {mZ:List PanicEntry->World->Prop} {ce:Next->Hp->Rs Value} {r:Operand->Value} {o:Oper} {H:Hp} {v:Value} {H1:Hp} {R W:Nat}
theorem tM (e:cW P ce r o H=some (v,H1,R,W)):
 kv P r o H=some (.value v,H1,R,W)\/(kv P r o H=some (.skip,H1,R,W)/\v=undef)\/
 ∃nx Ha Ra Wa Rb Wb,kv P r o H=some (nx,Ha,Ra,Wa)/\ce nx Ha=some (v,H1,Rb,Wb)/\R=Ra|||Rb/\W=Wa|||Wb:=by
 unfold cW at e;split at e
 .rename_i h;simp only[Option.some.injEq,Prod.mk.injEq]at e;obtain⟨rfl,rfl,rfl,rfl⟩:=e;exact .inl h
 .rename_i h;simp only[Option.some.injEq,Prod.mk.injEq]at e;obtain⟨rfl,rfl,rfl,rfl⟩:=e;exact .inr (.inl ⟨h,rfl⟩)
 .rename_i h;split at e<;>try(cases e;done)
  rename_i h2;simp only[Option.some.injEq,Prod.mk.injEq]at e;obtain⟨rfl,rfl,rfl,rfl⟩:=e;exact .inr (.inr ⟨_,_,_,_,_,_,h,h2,rfl,rfl⟩)
 .cases e
theorem Fh (eZ:iL P S K mZ ce) (e:cW P ce r o H=some (v,H1,R,W)):Ft H R W H1:=by
 rcases tM e with h|⟨h,_⟩|⟨nx,Ha,Ra,Wa,Rb,Wb,h,h2,rfl,rfl⟩
 .exact qg h
 .exact qg h
 .exact(qg h).trans (eZ.ft _ _ _ _ _ _ h2)
theorem zZ {r:Operand->Value} (ho:iB P S o.op=true) (h:∀x∈o.op.operands,r x=r' x):kv P r o H=kv P r' o H:=by
 have hs:∀cs b,o.op≠ .select cs b:=fun cs b e=>by
  rw[e]at ho;simp[iB,mK]at ho
 have e1:execOp r o=execOp r' o:=execOp_congr o hs h
 have e2:jN r o.op=jN r' o.op:=by
  unfold jN;split
  .rename_i b as ts bD;split
   .rename_i x hx;rw[h x (by rw[bD];simp only[Op.operands,Call.operands];exact Array.mem_append_right _ (Array.mem_of_getElem? hx))]
   .rfl
  .rename_i t x lo hi mx bD;rw[h x (by rw[bD];simp[Op.operands])]
  .rfl
 unfold kv;rw[e1,e2];cases jN r' o.op<;>simp only[cond_true,cond_false];split
 .rename_i t x lo hi mx bD;rw[h x (by rw[bD];simp[Op.operands])]
 .rename_i as ts bD;have:as.map r=as.map r':=Array.map_congr_left fun x hx=>h x (by rw[bD];simp[Op.operands,Call.operands,hx]);rw[this]
 .rename_i s d x bD;rw[h x (by rw[bD];simp[Op.operands])]
 .rfl
theorem xv {r:Operand->Value} (ho:iB P S o.op=true) (h:∀x∈o.op.operands,r x=r' x):cW P ce r o H=cW P ce r' o H:=by
 unfold cW;rw[zZ ho h]
theorem Na (hG:xu P S p) {k:List Item} (hT:∀t,VR S p (τ t) (tm.getD t undef)):pK P S p (xt τ) (aY b tm ds k).eval:=
 ⟨fun t=>hT t,fun v=>⟨rfl,rfl⟩,fun g a c=>.ptr 0 none (hG g a c),fun f=>⟨rfl,rfl⟩⟩
theorem xw (ho:iB P S o.op=true):mY o.op=true:=by
 cases h:o.op<;>first|rfl|(rw[h]at ho;simp[iB,mK]at ho)
theorem Jp (hk:Ok P P.funcs S) (hZ:Pe P K) (eZ:iL P S K mZ ce) {w:World} (ho:ops[i]?=some o) (lQ:iB P S o.op=true) (hw:Region.wanted o (yielded ops tm)=true)
 (hT:∀t,VR S p (τ t) (tm.getD t undef)) (e:cW P ce (xt τ) o H=some (v,H1,R,W)) (hr:Rl P S K p H.get Fp w) (hG:xu P S p) (hg:P.globals.size<=H.n)
 (hn:∀r,H.n<=r->r<H1.n->∀r',¬p r r') (hF:∀r,(R.testBit r=true\/W.testBit r=true)->Fp r) (b:Frame) (ds:List Deferred) (rest:List Nat) (k:List Item) (cs:List Frame):
 (∃v' w1 q,Steps P (lone (aY b tm ds (.inRegion ops (i::rest)::k)) cs w) (lone (aY b (gX tm o.dst v') ds (.inRegion ops rest::k)) cs w1)/\VR S q v v'/\Mv (fun r=>W.testBit r=true) p H.n w q H1.n w1/\Rl P S K q H1.get (fun r=>Fp r\/(H.n<=r/\r<H1.n)) w1)\/
 gv P mZ b ds cs (lone (aY b tm ds (.inRegion ops (i::rest)::k)) cs w):=by
 have hwf:ag P P.funcs=P:=rfl;have hex:=uY (P:=P) (b:=b) (ds:=ds) (k:=k) (cs:=cs) (w:=w) (rest:=rest) ho hw (xw lQ);have hE:=Na (b:=b) (ds:=ds) (k:=.inRegion ops (i::rest)::k) hG hT;rcases tM e with h|⟨h,rfl⟩|⟨nx,Ha,Ra,Wa,Rb,Wb,h,h2,rfl,rfl⟩
 .obtain⟨sw,w1,q,c1,c2,c3,c4⟩:=lW hk hZ hE o lQ h hr hg hn fun r x=>.inr (hF r x);cases c2 with
  | @value _ v' hv=>
    refine .inl ⟨v',w1,q,.one ?_,hv,c3,c4⟩;rw[<-je v' ho];refine bc rfl ?_;rw[hex];exact(gY rfl c1).1 v' rfl
 .obtain⟨sw,w1,q,c1,c2,c3,c4⟩:=lW hk hZ hE o lQ h hr hg hn fun r x=>.inr (hF r x);cases c2 with
  |skip=>
   refine .inl ⟨undef,w1,q,.one ?_,VR.undef,c3,c4⟩;rw[<-je undef ho];refine bc rfl ?_;rw[hex];exact(gY rfl c1).2.1 rfl
 .have fa:=qg h;have fb:=eZ.ft _ _ _ _ _ _ h2;have n1:=fa.nn;have n2:=fb.nn;obtain⟨sw,w1,q,c1,c2,c3,c4⟩:=lW hk hZ hE o lQ h hr hg (fun r a1 a2=>hn r a1 (by omega)) (fun r oT=>.inr (hF r (oT.imp (fun x=>by rw[Nat.testBit_or,x];rfl) fun x=>by rw[Nat.testBit_or,x];rfl)))
  have QI:=eZ.run _ _ _ _ _ _ h2 q (fun r=>Fp r\/(H.n<=r/\r<Ha.n)) w1 sw (aY b tm ds (.inRegion ops (i::rest)::k)) cs c2 c4 (hG.mono c3.le) (by omega) (fun r a1 a2 r' hq=>by
   rcases c3.new r r' hq with x|⟨_,x,_⟩
   .exact hn r (by omega) a2 r' x
   .omega) (fun r oT=>.inl (hF r (oT.imp (fun x=>by rw[Nat.testBit_or,x,Bool.or_true]) fun x=>by rw[Nat.testBit_or,x,Bool.or_true])))
  rcases QI with⟨g,v',w2,d1,d2,q2,d3,d4,d5⟩|⟨g,chain,w2,d1,d2,d3⟩
  rotate_left
  .refine .inr ⟨_,_,chain,w2,.head (bc rfl ?_) d2,d3⟩;rw[hex];exact(gY rfl c1).2.2 g d1
  refine .inl ⟨v',w2,q2,?_,d3,c3.trans d4 (fun r x=>by rw[Nat.testBit_or,x];rfl) (fun r x=>by rw[Nat.testBit_or,x,Bool.or_true]),d5.mono fun r x=>?_⟩
  .rw[<-je v' ho];refine .head (bc rfl ?_) d2;rw[hex];exact(gY rfl c1).2.2 g d1
  .rcases x with x|⟨a,b⟩
   .exact .inl (.inl x)
   .by_cases az:r<Ha.n
    .exact .inl (.inr ⟨a,az⟩)
    .exact .inr ⟨by omega,b⟩
end
section
variable {κ β:Type} (A:Nat->κ->β) (wr:Nat->κ->Bool)
def last (D:Nat->Bool):Nat->κ->β
 |0,k=>A 0 k
 |i+1,k=>if D i&&wr i k then A (i+1) k else last D i k
variable {A wr}
theorem qi {n:Nat} {k:κ} (hA:∀i,i<n->wr i k=false->A (i+1) k=A i k) (hi:i<=n) (h1:∀j,j<i->wr j k=true->D j=true) (h2:∀j,i<=j->j<n->wr j k=true->D j=false):
 last A wr D n k=A i k:=by
 have lo:∀m,m<=i->last A wr D m k=A m k:=by
  intro m;induction m with
  |zero=>intro _;rfl
  |succ m ih=>
   intro hm;simp only[last];cases hw:wr m k with
   |false=>simp only[Bool.and_false,Bool.false_eq_true,if_false];rw[ih (by omega),hA m (by omega) hw]
   |true=>rw[h1 m (by omega) hw];rfl
 have uv:∀m,i<=m->m<=n->last A wr D m k=A i k:=by
  intro m;induction m with
  |zero=>intro a _;have:i=0:=by omega
         rw[this];rfl
  |succ m ih=>
   intro a b;by_cases e:i=m+1
   .rw[<-e];exact lo i (Nat.le_refl i)
   .simp only[last];cases hw:wr m k with
    |false=>simp only[Bool.and_false,Bool.false_eq_true,if_false];exact ih (by omega) (by omega)
    |true=>rw[h2 m (by omega) (by omega) hw];simp only[Bool.false_and,Bool.false_eq_true,if_false];exact ih (by omega) (by omega)
 exact uv n hi (Nat.le_refl n)
def add (D:Nat->Bool) (i:Nat):Nat->Bool:=fun j=>j==i||D j
theorem uZ {k:κ} (h:wr i k=false):∀n,last A wr (add D i) n k=last A wr D n k:=by
 intro n;induction n with
 |zero=>rfl
 |succ n ih=>
  simp only[last,ih];by_cases e:n=i
  .subst e;rw[h];simp
  .have:add D i n=D n:=by simp[add,e]
   rw[this]
theorem BD {k:κ} (h:wr i k=true):∀n,i<n->(∀j,i<j->j<n->wr j k=true->D j=false)->last A wr (add D i) n k=A (i+1) k:=by
 intro n;induction n with
 |zero=>intro a _;omega
 |succ n ih=>
  intro a b;simp only[last];by_cases e:n=i
  .subst e;rw[h];simp[add]
  .have e2:add D i n=D n:=by simp[add,e]
   rw[e2];cases hw:wr n k with
   |false=>simp only[Bool.and_false,Bool.false_eq_true,if_false];exact ih (by omega) fun j x y=>b j x (by omega)
   |true=>rw[b n (by omega) (by omega) hw];simp only[Bool.false_and,Bool.false_eq_true,if_false];exact ih (by omega) fun j x y=>b j x (by omega)
end
def gZ (ops:Array Oper) (τ:Nat->Value) (j:Nat):Option Bool:=
 match(ops[j]?).bind (·.dst)with
 |some d=>match τ d with
  |.bool b=>some b
  |_=>none
 |none=>none
def m6 (P:Program) (ce:Next->Hp->Rs Value) (ops:Array Oper) (i:Nat) (T:List Value) (H:Hp):Rs (List Value):=
 match ops[i]? with
 |none=>none
 |some o=>bif Region.wanted o (gZ ops (bt T))then match cW P ce (xt (bt T)) o H with
   |some (v,H1,R,W)=>some (pO T o.dst v,H1,R,W)
   |none=>none
  else some (pO T o.dst undef,H,0,0)
theorem pn (T:List Value) (d:Option Tmp) (v:Value):(pO T d v).length=T.length:=by
 cases d<;>simp[pO,iC]
theorem tN (T:Array Value) (d:Option Tmp) (v:Value):(gX T d v).size=T.size:=by
 cases d<;>simp[gX]
theorem oq (T:List Value) (d:Option Tmp) (v:Value) (t:Nat):bt (pO T d v) t=if d=some t/\t<T.length then v else bt T t:=by
 cases d with
 |none=>simp[pO]
 |some d=>
  simp only[pO,tL,Option.some.injEq];by_cases e:d=t
  .subst e;simp
  .have:¬t=d:=fun h=>e h.symm;simp[e,this]
theorem tO (T:Array Value) (d:Option Tmp) (v:Value) (t:Nat):(gX T d v).getD t undef=if d=some t/\t<T.size then v else T.getD t undef:=by
 cases d with
 |none=>simp[gX]
 |some d=>
  simp only[gX,Option.some.injEq,Array.getD_eq_getD_getElem?,Array.getElem?_setIfInBounds];by_cases e:d=t
  .subst e;by_cases h:d<T.size<;>simp[h]
  .simp[e]
section
variable {P:Program} {S:Nat->Bool} {K:Kz} {mZ:List PanicEntry->World->Prop} {ce:Next->Hp->Rs Value}
theorem Db {o:Oper} (h:∀g b d,o.guard=some (g,b)->(ops[g]?).bind (·.dst)=some d->VR S p (τ d) (tm.getD d undef)):
 Region.wanted o (yielded ops tm)=Region.wanted o (gZ ops τ):=by
 unfold Region.wanted;cases hg:o.guard with
 |none=>rfl
 |some gb=>
  obtain⟨g,b⟩:=gb;simp only
  have:yielded ops tm g=gZ ops τ g:=by
   unfold yielded gZ;cases hd:(ops[g]?).bind (·.dst)with
   |none=>rfl
   |some d=>
    have hv:=h g b d hg hd;simp only[Option.bind_some];rw[Array.getD_eq_getD_getElem?]at hv;cases hx:tm[d]? with
    |none=>
     rw[hx]at hv;simp only[Option.getD_none]at hv;generalize τ d=x at hv;cases hv<;>first|rfl|(rename_i h;cases h)
    |some y=>
     rw[hx]at hv;simp only[Option.getD_some]at hv;generalize τ d=x at hv;cases hv<;>first|rfl|(rename_i h;cases y<;>first|rfl|cases h)
  rw[this]
theorem jf {H:Hp} {H1:Hp} {R W:Nat} (e:m6 P ce ops i T H=some (T1,H1,R,W)):
 ∃o,ops[i]?=some o/\((Region.wanted o (gZ ops (bt T))=true/\∃v,cW P ce (xt (bt T)) o H=some (v,H1,R,W)/\T1=pO T o.dst v)\/
  (Region.wanted o (gZ ops (bt T))=false/\T1=pO T o.dst undef/\H1=H/\R=0/\W=0)):=by
 unfold m6 at e;split at e
 .cases e
 .rename_i o ho;refine⟨o,ho,?_⟩;cases hw:Region.wanted o (gZ ops (bt T))<;>rw[hw]at e<;>simp only[cond_true,cond_false]at e
  .simp only[Option.some.injEq,Prod.mk.injEq]at e;obtain⟨rfl,rfl,rfl,rfl⟩:=e;exact .inr ⟨rfl,rfl,rfl,rfl,rfl⟩
  .split at e<;>try(cases e;done)
   rename_i v H2 R2 W2 ha;simp only[Option.some.injEq,Prod.mk.injEq]at e;obtain⟨rfl,rfl,rfl,rfl⟩:=e;exact .inl ⟨rfl,v,ha,rfl⟩
theorem m7 (eZ:iL P S K mZ ce) {H:Hp} {H1:Hp} {R W:Nat} (e:m6 P ce ops i T H=some (T1,H1,R,W)):Ft H R W H1:=by
 obtain⟨o,_,h⟩:=jf e;rcases h with⟨_,v,h,_⟩|⟨_,_,rfl,rfl,rfl⟩
 .exact Fh eZ h
 .exact Ft.refl _
structure Pf (P:Program) (ce:Next->Hp->Rs Value) (ops:Array Oper) (Ts:Nat->List Value) (Hs:Nat->Hp) (R W:Nat->Nat):Prop where
 one:∀i,i<ops.size->m6 P ce ops i (Ts i) (Hs i)=some (Ts (i+1),Hs (i+1),R i,W i)
def Good (Fo:Nat->Nat->Prop) (n:Nat):(Nat->Bool)->List Nat->Prop
 |D,[]=>∀i,i<n->D i=true
 |D,i::l=>i<n/\D i=false/\(∀a,Fo a i->D a=true)/\Good Fo n (add D i) l
def zd (W:Nat->Nat) (i r:Nat):Bool:=(W i).testBit r
def ze (ops:Array Oper) (i t:Nat):Bool:=(ops[i]?).bind (·.dst)==some t
def QJ (R W:Nat->Nat) (i j:Nat):Prop:=∀r,((W i).testBit r=true->(R j).testBit r=false/\(W j).testBit r=false)/\((W j).testBit r=true->(R i).testBit r=false)
theorem Pf.Fi {R W:Nat->Nat} (t:Pf P ce ops Ts Hs R W) (eZ:iL P S K mZ ce) (hj:j<=ops.size) (h:i<=j):(Hs i).n<=(Hs j).n:=by
 induction j with
 |zero=>have:i=0:=by omega
        subst this;exact Nat.le_refl _
 |succ j ih=>
  by_cases e:i=j+1
  .subst e;exact Nat.le_refl _
  .exact Nat.le_trans (ih (by omega) (by omega)) (m7 eZ (t.one j (by omega))).nn
theorem Pf.length {R W:Nat->Nat} (t:Pf P ce ops Ts Hs R W) (hj:j<=ops.size):(Ts j).length=(Ts 0).length:=by
 induction j with
 |zero=>rfl
 |succ j ih=>
  rw[<-ih (by omega)];obtain⟨o,_,h⟩:=jf (t.one j (by omega));rcases h with⟨_,v,_,h⟩|⟨_,h,_⟩<;>rw[h,pn]
theorem Jq (hk:Ok P P.funcs S) (hZ:Pe P K) (eZ:iL P S K mZ ce) (qF:∀(i:Nat) (o:Oper),ops[i]?=some o->iB P S o.op=true)
 {R W:Nat->Nat} (t:Pf P ce ops Ts Hs R W) {Fo:Nat->Nat->Prop}
 (hm:∀i j,i<j->j<ops.size->Fo i j\/QJ R W i j) (ht:∀(i j:Nat) (oi oj:Oper),i<j->ops[i]?=some oi->ops[j]?=some oj->Fo i j\/oi.apart ops oj=true)
 (hg:P.globals.size<=(Hs 0).n) (TS:∀i,i<ops.size->∀r,((R i).testBit r=true\/(W i).testBit r=true)->Fp r) (b:Frame) (ds:List Deferred) (k:List Item) (cs:List Frame):
 ∀(l:List Nat) (D:Nat->Bool) (p:Pi) (tm:Array Value) (w:World),Good Fo ops.size D l->(∀a c,Fo a c->D c=true->D a=true)->tm.size=(Ts 0).length->
  Rl P S K p (last (fun i=>(Hs i).get) (zd W) D ops.size) Fp w->(∀x,VR S p (last (fun i=>bt (Ts i)) (ze ops) D ops.size x) (tm.getD x undef))->xu P S p->
  (∀j,j<ops.size->D j=false->∀r,(Hs j).n<=r->r<(Hs (j+1)).n->∀r',¬p r r')->
  (∃br w' q,Steps P (lone (aY b tm ds (.inRegion ops l::k)) cs w) (lone (aY b br ds (.inRegion ops []::k)) cs w')/\br.size=(Ts 0).length/\
    Mv (fun r=>∃i,i<ops.size/\(W i).testBit r=true) p (Hs 0).n w q (Hs ops.size).n w'/\Rl P S K q (Hs ops.size).get Fp w'/\∀x,VR S q (bt (Ts ops.size) x) (br.getD x undef))\/
  gv P mZ b ds cs (lone (aY b tm ds (.inRegion ops l::k)) cs w):=by
 have mono:=fun i j=>t.Fi (i:=i) (j:=j) eZ;have Lt:∀i,i<ops.size->∀r,zd W i r=false->(Hs (i+1)).get r=(Hs i).get r:=fun i hi r hr=>(m7 eZ (t.one i hi)).same r hr
 have Lu:∀i,i<ops.size->∀x,ze ops i x=false->bt (Ts (i+1)) x=bt (Ts i) x:=fun i hi x hx=>by
  obtain⟨o,ho,h⟩:=jf (t.one i hi);have hd:¬(o.dst=some x):=fun e=>by simp[ze,ho,e]at hx
  rcases h with⟨_,v,_,h⟩|⟨_,h,_⟩<;>rw[h,oq,if_neg (fun a=>hd a.1)]
 intro l;induction l with
 |nil=>
  intro D p tm w hl hD bP hr hT hG hn;have hl:∀i,i<ops.size->D i=true:=hl;refine .inl ⟨tm,w,p,.refl _ _,bP,(Mv.refl _ p _ w).wide (Nat.le_refl _) (mono 0 ops.size (Nat.le_refl _) (Nat.zero_le _)),hr.congr fun r _=>?_,fun x=>?_⟩
  .exact(qi (A:=fun i=>(Hs i).get) (wr:=zd W) (k:=r) (fun i hi h=>Lt i hi r h) (Nat.le_refl _) (fun j hj _=>hl j hj) (fun j a b _=>by omega)).symm
  .rw[<-qi (A:=fun i=>bt (Ts i)) (wr:=ze ops) (k:=x) (fun i hi h=>Lu i hi x h) (Nat.le_refl _) (fun j hj _=>hl j hj) (fun j a b _=>by omega)];exact hT x
 |cons i l ih=>
  intro D p tm w hl hD bP hr hT hG hn;obtain⟨hi,Pg,qQ,hl⟩:=hl;have e1:=t.one i hi;have zc:=m7 eZ e1;obtain⟨o,ho,i6⟩:=jf e1
  have later:∀j,i<j->Fo i j->D j=false:=fun j hj hf=>by
   cases hx:D j with
   |false=>rfl
   |true=>rw[hD i j hf hx]at Pg;cases Pg
  have Lv:∀r,((R i).testBit r=true\/(W i).testBit r=true)->(Hs i).get r=last (fun i=>(Hs i).get) (zd W) D ops.size r:=fun r hr=>by
   refine(qi (A:=fun i=>(Hs i).get) (wr:=zd W) (k:=r) (fun i hi h=>Lt i hi r h) (Nat.le_of_lt hi) (fun j hj hw=>?_) (fun j a c hw=>?_)).symm
   .rcases hm j i hj hi with h|h
    .exact qQ j h
    .have:=(h r).1 hw;rcases hr with x|x<;>simp_all
   .by_cases e:j=i
    .subst e;exact Pg
    .have oS:i<j:=by omega
     rcases hm i j oS c with h|h
     .exact later j oS h
     .have h2:=h r;have hw:(W j).testBit r=true:=hw;rcases hr with x|x
      .have:=h2.2 hw;rw[x]at this;cases this
      .have:=(h2.1 x).2;rw[hw]at this;cases this
  have Fj:∀x,x∈o.looksAt ops->last (fun i=>bt (Ts i)) (ze ops) D ops.size x=bt (Ts i) x:=fun x hx=>by
   refine qi (A:=fun i=>bt (Ts i)) (wr:=ze ops) (k:=x) (fun i hi h=>Lu i hi x h) (Nat.le_of_lt hi) (fun j hj hw=>?_) (fun j a c hw=>?_)
   .have hjs:j<ops.size:=by omega
    have Fk:ops[j]?=some ops[j]:=Array.getElem?_eq_getElem hjs;have hd:ops[j].dst=some x:=by simpa [ze,Fk]using hw
    rcases ht j i _ _ hj Fk ho with h|h
    .exact qQ j h
    .exact absurd hx ((Oper.apart_spec h).1 x hd)
   .by_cases e:j=i
    .subst e;exact Pg
    .have oS:i<j:=by omega
     have Fk:ops[j]?=some ops[j]:=Array.getElem?_eq_getElem c;have hd:ops[j].dst=some x:=by simpa [ze,Fk]using hw
     rcases ht i j _ _ oS ho Fk with h|h
     .exact later j oS h
     .exact absurd hx ((Oper.apart_spec h).2.2 x hd)
  have km:Region.wanted o (yielded ops tm)=Region.wanted o (gZ ops (bt (Ts i))):=by
   refine Db (S:=S) (p:=p) fun g c d If hd=>?_;rw[<-Fj d (by simp[Oper.looksAt,If,hd])];exact hT d
  have BE:∀a c,Fo a c->add D i c=true->add D i a=true:=fun a c ZC hc=>by
   simp only[add,Bool.or_eq_true,beq_iff_eq]at hc⊢;rcases hc with rfl|hc
   .exact .inr (qQ a ZC)
   .exact .inr (hD a c ZC hc)
  have BF:∀{v v':Value} {q:Pi},Le p q->VR S q v v'->Ts (i+1)=pO (Ts i) o.dst v->∀x,VR S q (last (fun i=>bt (Ts i)) (ze ops) (add D i) ops.size x) ((gX tm o.dst v').getD x undef):=fun{v v' q} hq hv Ph x=>by
   rw[tO];cases hw:ze ops i x with
   |false=>
    have hd:¬(o.dst=some x):=fun e=>by simp[ze,ho,e]at hw
    rw[uZ hw,if_neg fun a=>hd a.1];exact(hT x).mono hq
   |true=>
    have hd:o.dst=some x:=by simpa [ze,ho]using hw
    rw[BD hw ops.size hi fun j oS c QK=>?_]
    .rw[Ph,oq,t.length (Nat.le_of_lt hi),<-bP];by_cases az:x<tm.size
     .rw[if_pos ⟨hd,az⟩,if_pos ⟨hd,az⟩];exact hv
     .rw[if_neg fun a=>az a.2,if_neg fun a=>az a.2];have e2:tm.getD x undef=undef:=by rw[Array.getD_eq_getD_getElem?,Array.getElem?_eq_none (by omega)];rfl
      have e3:bt (Ts i) x=undef:=by
       have:∀(L:List Value) n,L.length<=n->bt L n=undef:=by
        intro L;induction L with
        |nil=>intro n _;rfl
        |cons y L ih=>intro n hn;cases n with
         |zero=>simp at hn
         |succ n=>exact ih n (by simpa using hn)
       exact this _ _ (by rw[t.length (Nat.le_of_lt hi),<-bP];omega)
      rw[e2,e3];exact VR.undef
    .have Fk:ops[j]?=some ops[j]:=Array.getElem?_eq_getElem c;have TO:ops[j].dst=some x:=by simpa [ze,Fk]using QK
     rcases ht i j _ _ oS ho Fk with h|h
     .exact later j oS h
     .exact absurd TO ((Oper.apart_spec h).2.1 x hd)
  have xx:∀{q:Pi} {w1:World},Mv (fun r=>(W i).testBit r=true) p (Hs i).n w q (Hs (i+1)).n w1->∀j,j<ops.size->add D i j=false->∀r,(Hs j).n<=r->r<(Hs (j+1)).n->∀r',¬q r r':=fun{q w1} pM j hj VG r h1 h2 r' hq=>by
   simp only[add,Bool.or_eq_false_iff,beq_eq_false_iff_ne,ne_eq]at VG;rcases pM.new r r' hq with x|⟨a,c,_⟩
   .exact hn j hj VG.2 r h1 h2 r' x
   .rcases Nat.lt_or_gt_of_ne VG.1 with h|h
    .have:=mono (j+1) i (by omega) (by omega);omega
    .have:=mono (i+1) j (by omega) (by omega);omega
  have m0:=mono 0 i (Nat.le_of_lt hi) (Nat.zero_le _);have m1:=mono (i+1) ops.size (Nat.le_refl _) hi;have Fl:∀{q:Pi} {w1:World},Mv (fun r=>(W i).testBit r=true) p (Hs i).n w q (Hs (i+1)).n w1->Mv (fun r=>∃i,i<ops.size/\(W i).testBit r=true) p (Hs 0).n w q (Hs ops.size).n w1:=fun h=>(h.wide m0 m1).mono fun r x=>⟨i,hi,x⟩
  rcases i6 with⟨hw,v,aS,Ph⟩|⟨hw,Ph,Qy,hR,hW⟩
  .have VH:cW P ce (xt (last (fun i=>bt (Ts i)) (ze ops) D ops.size)) o (Hs i)=some (v,Hs (i+1),R i,W i):=by
    rw[<-aS];refine xv (qF i o ho) fun x hx=>?_;cases x with
    |tmp x=>exact Fj x (List.mem_append_left _ (List.mem_filterMap.2 ⟨.tmp x,by simpa using hx,rfl⟩))
    |_=>rfl
   have VI:=Jp hk hZ eZ (Fp:=fun r=>(R i).testBit r=true\/(W i).testBit r=true) ho (qF i o ho) (km.trans hw) hT VH ((hr.mono (TS i hi)).congr fun r x=>Lv r x) hG (by omega) (hn i hi Pg) (fun r x=>x) b ds l k cs;rcases VI with⟨v',w1,q,c1,c2,c3,c4⟩|Fm;rotate_left
   .exact .inr Fm
   have iK:∀r,(W i).testBit r=true->((Hs i).n<=r/\r<(Hs (i+1)).n)\/(last (fun i=>(Hs i).get) (zd W) D ops.size r).isSome:=fun r hr=>(zc.wr r hr).imp id fun x=>by rw[<-Lv r (.inr hr)];exact x
   have QL:=hr.join c3 c4 (h2:=last (fun i=>(Hs i).get) (zd W) (add D i) ops.size) (fun r x=>.inl (.inr x)) (fun r x=>TS i hi r (.inr x)) zc.nw (hn i hi Pg) iK (fun r x=>BD (wr:=zd W) x ops.size hi fun j oS c QK=>by
    rcases hm i j oS c with h|h
    .exact later j oS h
    .have h2:=((h r).1 x).2;have QK:(W j).testBit r=true:=QK;rw[QK]at h2;cases h2) (fun r x=>uZ (wr:=zd W) (by simpa [zd]using x) ops.size)
   rcases ih (add D i) q (gX tm o.dst v') w1 hl BE (by rw[tN];exact bP) QL (BF c3.le c2 Ph) (hG.mono c3.le) (xx c3)with⟨br,w',q',d1,d2,d3,d4,d5⟩|Fm;rotate_left
   .exact .inr (.of_steps c1 Fm)
   exact .inl ⟨br,w',q',c1.trans d1,d2,(Fl c3).Fe d3 (fun _ x=>x) (fun _ x=>x),d4,d5⟩
  .have lE:∀r,last (fun i=>(Hs i).get) (zd W) (add D i) ops.size r=last (fun i=>(Hs i).get) (zd W) D ops.size r:=fun r=>uZ (wr:=zd W) (by simp[zd,hW]) ops.size;have pM:Mv (fun r=>(W i).testBit r=true) p (Hs i).n w p (Hs (i+1)).n w:=(Mv.refl _ p _ w).wide (Nat.le_refl _) zc.nn;rcases ih (add D i) p (gX tm o.dst undef) w hl BE (by rw[tN];exact bP) (hr.congr fun r _=>lE r) (BF (Le.refl p) VR.undef Ph) hG (xx pM)with⟨br,w',q',d1,d2,d3,d4,d5⟩|Fm;rotate_left
   .exact .inr (.of_steps (.one (lG ho (km.trans hw))) Fm)
   exact .inl ⟨br,w',q',.head (lG ho (km.trans hw)) d1,d2,(Fl pM).Fe d3 (fun _ x=>x) (fun _ x=>x),d4,d5⟩
end
end Go.au
namespace Go.au
open Go.au (Ln Es)
variable {H H1:Hp} {R R1 W W1 j n:Nat} {T T1:List Value} {draw:Bool} {l:List Nat} {listed:Array Bool} {m:Region.Mode}
inductive eR (ops:Array Oper):Nat->Nat->Prop
 |Nb {i j:Nat} {o:Oper} {e:Edge} (h:ops[j]?=some o) (he:e∈o.after) (hb:Region.binds .any e=true) (hi:e.on=i):eR ops i j
 |step {i k j:Nat} {o:Oper} {e:Edge} (t:eR ops i k) (h:ops[j]?=some o) (he:e∈o.after) (hb:Region.binds .any e=true) (hi:e.on=k):eR ops i j
def Dc (m i:Nat):Bool:=Nat.beq (Nat.land 1 (Nat.shiftRight m i)) 1
theorem xy {m i:Nat} (h:Dc m i=true):m.testBit i=true:=by
 have h:=Nat.eq_of_beq_eq_true h;have h:1&&&(m>>>i)=1:=h;simp[Nat.testBit,h]
def re:List Nat->Nat->Nat
 | [],_=>0
 |x::_,0=>x
 |_::l,n+1=>re l n
theorem va:∀(l:List Nat) (n:Nat),re l n=(l[n]?).getD 0
 | [],n=>rfl
 |x::l,0=>rfl
 |x::l,n+1=>by simp[re,va l n]
def Nc (l:List Nat):List Edge->Nat->Nat
 | [],m=>m
 |e::es,m=>Nc l es (bif Region.binds .any e then Nat.lor m (Nat.lor (2^e.on) (re l e.on))else m)
def pP (ops:Array Oper):Nat->List Nat
 |0=>[]
 |n+1=>pP ops n++[match ops[n]? with|none=>0|some o=>Nc (pP ops n) o.after.toList 0]
theorem iD (ops:Array Oper):∀n,(pP ops n).length=n
 |0=>rfl
 |n+1=>by simp[pP,iD ops n]
theorem De {ops:Array Oper} {o:Oper} (ho:ops[j]?=some o) (hl:∀k i,(re l k).testBit i=true->eR ops i k):∀(es:List Edge) (m:Nat),(∀e∈es,e∈o.after)->(∀i,m.testBit i=true->eR ops i j)->∀i,(Nc l es m).testBit i=true->eR ops i j:=by
 intro es;induction es with
 |nil=>intro m _ hm i h;exact hm i h
 |cons e es ih=>
  intro m he hm i h;refine ih _ (fun x hx=>he x (List.mem_cons_of_mem _ hx)) (fun i h=>?_) i h;cases hb:Region.binds .any e<;>rw[hb]at h<;>simp only[cond_true,cond_false]at h
  .exact hm i h
  .have h:(m|||(2^e.on|||re l e.on)).testBit i=true:=h;rw[Nat.testBit_or,Nat.testBit_or,Bool.or_eq_true,Bool.or_eq_true]at h;rcases h with h|h|h
   .exact hm i h
   .rw[tb]at h;exact .Nb ho (he e (by simp)) hb h.symm
   .exact .step (hl _ _ h) ho (he e (by simp)) hb rfl
theorem tP (ops:Array Oper):∀n k i,(re (pP ops n) k).testBit i=true->eR ops i k:=by
 intro n;induction n with
 |zero=>intro k i h;simp[pP,re]at h
 |succ n ih=>
  intro k i h;rw[va]at h;simp only[pP]at h;rcases Nat.lt_or_ge k n with hk|hk
  .rw[List.getElem?_append_left (by rw[iD];exact hk),<-va]at h;exact ih k i h
  .rw[List.getElem?_append_right (by rw[iD];exact hk),iD]at h;by_cases e:k=n
   .subst e;simp only[Nat.sub_self,List.getElem?_cons_zero,Option.getD_some]at h;cases ho:ops[k]? with
    |none=>rw[ho]at h;simp at h
    |some o=>
     rw[ho]at h;exact De ho ih o.after.toList 0 (fun e he=>by simpa using he) (fun i h=>by simp at h) i h
   .rw[List.getElem?_eq_none (by simp;omega)]at h;simp at h
def Ij (listed:Array Bool):Nat->Nat
 |0=>0
 |m+1=>Ij listed m+(bif listed.getD m true then 0 else 1)
theorem xz {listed:Array Bool}:∀{m:Nat},Ij listed m=0->∀i,i<m->listed.getD i true=true
 |0,_,i,hi=>absurd hi (Nat.not_lt_zero _)
 |m+1,h,i,hi=>by
  simp only[Ij]at h;by_cases e:i=m
  .subst e;cases hx:listed.getD i true with
   |true=>rfl
   |false=>rw[hx]at h;simp at h
  .exact xz (m:=m) (by omega) i (by omega)
theorem BG {listed:Array Bool} {i:Nat} (hi:listed.getD i true=false):∀{m:Nat},Ij (listed.setIfInBounds i true) m+(if i<m then 1 else 0)=Ij listed m
 |0=>by simp[Ij]
 |m+1=>by
  have ih:=BG hi (m:=m);simp only[Ij];by_cases e:i=m
  .subst e
   have az:i<listed.size:=by
    rcases Nat.lt_or_ge i listed.size with h|h
    .exact h
    .simp[h]at hi
   have:(listed.setIfInBounds i true).getD i true=true:=by simp[az]
   rw[this,hi];simp only[Nat.lt_irrefl,if_false,Nat.lt_succ_self,if_true,cond_true,cond_false]at ih⊢;omega
  .rw[Go.getD_set_ne true e];by_cases h:i<m
   .rw[if_pos h]at ih;rw[if_pos (by omega)];omega
   .rw[if_neg h]at ih;rw[if_neg (by omega)];omega
theorem BH {ops:Array Oper}:j∈Es m ops listed↔listed.getD j true=false/\∃o,ops[j]?=some o/\∀e∈o.after,Region.binds m e=true->listed.getD e.on false=true:=
 Go.mem_ready
theorem tQ {e:Edge} (h:Region.binds .any e=true):Region.binds m e=true:=by
 unfold Region.binds at*;split at h<;>first|(cases h;done)|rfl
theorem hQ {Fo:Nat->Nat->Prop}:∀{l:List Nat} {D E:Nat->Bool},(∀i,i<n->D i=E i)->(∀a b,Fo a b->b<n->a<n)->Good Fo n D l->Good Fo n E l
 | [],D,E,h,_,g=>fun i hi=>by rw[<-h i hi];exact g i hi
 |i::l,D,E,h,hFo,⟨g1,g2,g3,g4⟩=>⟨g1,by rw[<-h i g1];exact g2,fun a ha=>by rw[<-h a (hFo a i ha g1)];exact g3 a ha,hQ (fun j hj=>by simp only[add,h j hj]) hFo g4⟩
section
variable {ops:Array Oper} (hE:∀ (i:Nat) (o:Oper) (e:Edge),ops[i]?=some o->e ∈ o.after->Region.binds .any e=true->e.on < i)
include hE
theorem tR {a b:Nat} (h:eR ops a b):a<b:=by
 induction h with
 |Nb h he hb hi=>have:=hE _ _ _ h he hb;omega
 |step t h he hb hi ih=>have:=hE _ _ _ h he hb;omega
theorem Fq {xA:Nat->Nat} (hR:∀(i:Nat) (o:Oper) (e:Edge),ops[i]?=some o->e∈o.after->Region.binds m e=true->e.on<ops.size/\xA e.on<xA i)
 (h:Ln m ops n listed l):listed.size=ops.size->Ij listed ops.size<=n->
 (∀a b,eR ops a b->listed.getD b false=true->listed.getD a false=true)->Good (eR ops) ops.size (fun j=>listed.getD j false) l:=by
 induction h with
 | @stop n listed h=>
   intro hs hu hc i hi
   have all:∀i,i<ops.size->listed.getD i true=true:=by
    rcases h with h|h
    .subst h;exact xz (by omega)
    .have:∀k i,xA i=k->i<ops.size->listed.getD i true=true:=by
      intro k;induction k using Nat.strongRecOn with
      |ind k ih=>
       intro i hk hi;cases hx:listed.getD i true with
       |true=>rfl
       |false=>
        have ho:ops[i]?=some ops[i]:=Array.getElem?_eq_getElem hi
        have:i∈Es m ops listed:=BH.2 ⟨hx,_,ho,fun e he hb=>by
         obtain⟨h1,h2⟩:=hR _ _ _ ho he hb;have:=ih (xA e.on) (by omega) e.on rfl h1;have h2:e.on<listed.size:=by omega
         simpa [h2]using this⟩
        rw[h]at this;cases this
     exact fun i hi=>this _ i rfl hi
   have:=all i hi;have h2:i<listed.size:=by omega
   simpa [h2]using this
 | @next n i listed l h t ih=>
   intro hs hu hc;obtain⟨h1,o,ho,h2⟩:=BH.1 h;have hi:i<ops.size:=(Array.getElem?_eq_some_iff.1 ho).1;have ZD:i<listed.size:=by omega
   have qQ:∀a,eR ops a i->listed.getD a false=true:=fun a ha=>by
    cases ha with
    |Nb h he hb hi=>rw[ho]at h;cases h;rw[<-hi];exact h2 _ he (tQ hb)
    |step t h he hb hi=>rw[ho]at h;cases h;exact hc _ _ t (by rw[<-hi];exact h2 _ he (tQ hb))
   have e1:∀j,j<ops.size->(listed.setIfInBounds i true).getD j false=add (fun j=>listed.getD j false) i j:=fun j hj=>by
    by_cases e:j=i
    .subst e;simp[add,ZD]
    .rw[Go.getD_set_ne false (Ne.symm e)];simp only[add,beq_false_of_ne e,Bool.false_or]
   refine⟨hi,by simpa [ZD]using h1,qQ,?_⟩;have az:∀a b,eR ops a b->b<ops.size->a<ops.size:=fun a b mH hb=>Nat.lt_trans (tR hE mH) hb;refine hQ (fun j hj=>e1 j hj) az (ih (by simpa using hs) ?_ fun a b mH hb=>?_)
   .have:=BG h1 (m:=ops.size);rw[if_pos hi]at this;omega
   .by_cases e:i=b
    .subst e;exact Go.getD_set_true (qQ a mH)
    .rw[Go.getD_set_ne false e]at hb;exact Go.getD_set_true (hc a b mH hb)
end
theorem tS:∀(n m:Nat),Ij (Array.replicate n false) m<=m
 |n,0=>Nat.le_refl _
 |n,m+1=>by
  have:=tS n m;simp only[Ij];cases(Array.replicate n false).getD m true<;>simp<;>omega
def pos:List Nat->Nat->Nat
 | [],_=>0
 |x::l,i=>bif Nat.beq x i then 0 else pos l i+1
def kY (ops:Array Oper):Bool:=
 ((List.range ops.size).all fun i=>match ops[i]? with|some o=>o.after.all fun e=>Nat.blt e.on ops.size&&(!(Region.binds .any e||Region.binds .text e)||Nat.blt e.on i)|none=>true)&&
 (!Region.departs ops||(let l:=Region.linearise .gc ops 0;(List.range ops.size).all fun i=>match ops[i]? with|some o=>o.after.all fun e=>!Region.binds .gc e||Nat.blt (pos l e.on) (pos l i)|none=>true))
theorem rf {ops:Array Oper} (h:kY ops=true):
 (∀(i:Nat) (o:Oper) (e:Edge),ops[i]?=some o->e∈o.after->Region.binds .any e=true->e.on<i)/\
 ∀m,(m=.gc->Region.departs ops=true)->∃xA:Nat->Nat,∀(i:Nat) (o:Oper) (e:Edge),ops[i]?=some o->e∈o.after->Region.binds m e=true->e.on<ops.size/\xA e.on<xA i:=by
 simp only[kY,Bool.and_eq_true]at h
 have arr:∀{f:Edge->Bool} {a:Array Edge},a.all f=true->∀e∈a,f e=true:=fun{f a} h e he=>by
  obtain⟨j,hj,hje⟩:=Array.mem_iff_getElem.1 he;have h3:=Array.all_eq_true.1 h j hj;rw[hje]at h3;exact h3
 have h1:∀(i:Nat) (o:Oper) (e:Edge),ops[i]?=some o->e∈o.after->e.on<ops.size/\((Region.binds .any e=true\/Region.binds .text e=true)->e.on<i):=fun i o e ho he=>by
  have hi:i<ops.size:=(Array.getElem?_eq_some_iff.1 ho).1;have:=List.all_eq_true.1 h.1 i (List.mem_range.2 hi);rw[ho]at this;have:=arr this e he;simp only[Bool.and_eq_true]at this;refine⟨Nat.lt_of_lt_of_le (Nat.lt_succ_self _) (Nat.le_of_ble_eq_true this.1),fun hb=>?_⟩;have h2:=this.2;rw[show(Region.binds .any e||Region.binds .text e)=true by rcases hb with x|x<;>simp[x]]at h2;exact Nat.lt_of_lt_of_le (Nat.lt_succ_self _) (Nat.le_of_ble_eq_true h2)
 refine⟨fun i o e ho he hb=>(h1 i o e ho he).2 (.inl hb),fun m hm=>?_⟩;cases m with
 |text=>exact⟨id,fun i o e ho he hb=>⟨(h1 i o e ho he).1,(h1 i o e ho he).2 (.inr hb)⟩⟩
 |any=>exact⟨id,fun i o e ho he hb=>⟨(h1 i o e ho he).1,(h1 i o e ho he).2 (.inl hb)⟩⟩
 |gc=>
  have h2:=h.2;rw[hm rfl]at h2;simp only[Bool.not_true,Bool.false_or]at h2;refine⟨pos (Region.linearise .gc ops 0),fun i o e ho he hb=>⟨(h1 i o e ho he).1,?_⟩⟩;have hi:i<ops.size:=(Array.getElem?_eq_some_iff.1 ho).1;have:=List.all_eq_true.1 h2 i (List.mem_range.2 hi);rw[ho]at this;have:=arr this e he;rw[hb]at this;exact Nat.lt_of_lt_of_le (Nat.lt_succ_self _) (Nat.le_of_ble_eq_true this)
theorem sM {ops:Array Oper} (hE:kY ops=true) (mixed:Bool) (t:Nat):Good (eR ops) ops.size (fun _=>false) (Region.schedule mixed ops t):=by
 obtain⟨hA,hR⟩:=rf hE
 have key:∀m t,(m=.gc->Region.departs ops=true)->Good (eR ops) ops.size (fun _=>false) (Region.linearise m ops t):=fun m t hm=>by
  obtain⟨xA,Nf⟩:=hR m hm
  have hr:∀j,(Array.replicate ops.size false).getD j false=false:=fun j=>by
   rw[Array.getD_eq_getD_getElem?,Array.getElem?_replicate];split<;>rfl
  refine hQ (fun j _=>hr j) (fun a b mH hb=>Nat.lt_trans (tR hA mH) hb) (Fq hA Nf (Go.au.zO m ops t) (by simp) (tS _ _) fun a b mH hb=>?_);rw[hr]at hb;cases hb
 unfold Region.schedule;split
 .exact key _ _ fun h=>by cases h
 .rename_i hc
  have hd:Region.departs ops=true:=by
   cases hx:Region.departs ops with
   |true=>rfl
   |false=>rw[hx]at hc;simp at hc
  exact key _ _ fun _=>hd
theorem rh (n:Nat):∀(m i:Nat),i+m=n->Good (·<·) n (fun j=>decide (j<i)) (List.range' i m)
 |0,i,h=>fun j hj=>by simp;omega
 |m+1,i,h=>by
  refine⟨by omega,by simp,fun a ha=>by simpa using ha,?_⟩;refine hQ (D:=fun j=>decide (j<i+1)) (fun j hj=>?_) (fun a b mH hb=>by omega) (rh n m (i+1) (by omega));simp only[add];by_cases e:j=i
  .subst e;simp
  .by_cases h:j<i
   .have:j<i+1:=by omega
    simp[h,this]
   .have:¬j<i+1:=by omega
    simp[h,this,e]
def fL (P:Program) (ce:Next->Hp->Rs Value) (ops:Array Oper):Nat->Nat->List Value->Hp->Option (List Value×Hp×List (Nat×Nat))
 |0,_,T,H=>some (T,H,[])
 |n+1,i,T,H=>match m6 P ce ops i T H with
  |none=>none
  |some (T1,H1,R,W)=>match fL P ce ops n (i+1) T1 H1 with
   |none=>none
   |some (T2,H2,l)=>some (T2,H2,(R,W)::l)
def nc (R1 W1 R2 W2:Nat):Bool:=Nat.beq (Nat.land W1 (Nat.lor R2 W2)) 0&&Nat.beq (Nat.land W2 R1) 0
def BI (m R W:Nat):List (Nat×Nat×Nat)->Bool
 | []=>true
 |(i,R1,W1)::l=>(Dc m i||nc R1 W1 R W)&&BI m R W l
def jg:List Nat->List (Nat×Nat)->Nat->List (Nat×Nat×Nat)->Nat->Nat->Bool
 |_,[],_,_,_,_=>true
 | [],_::_,_,_,_,_=>false
 |m::ms,(R,W)::l,j,prev,RU,WU=>(nc RU WU R W||BI m R W prev)&&jg ms l (j+1) ((j,R,W)::prev) (Nat.lor RU R) (Nat.lor WU W)
def Et:List (Nat×Nat)->Nat
 | []=>0
 |(R,_)::l=>Nat.lor R (Et l)
def Df:List (Nat×Nat)->Nat
 | []=>0
 |(_,W)::l=>Nat.lor W (Df l)
def et (P:Program) (ce:Next->Hp->Rs Value) (ops:Array Oper) (draw:Bool) (T:List Value) (H:Hp):Rs (List Value):=
 match fL P ce ops ops.size 0 T H with
 |none=>none
 |some (T1,H1,l)=>bif !draw||jg (pP ops ops.size) l 0 [] 0 0 then some (T1,H1,Et l,Df l)else none
def Dg (ops:Array Oper) (l:List Nat):Bool:=
 (List.range ops.size).all fun j=>(List.range j).all fun i=>Dc (re l j) i||(match ops[i]?,ops[j]? with|some oi,some oj=>oi.apart ops oj|_,_=>true)
def dY (P:Program) (S:Nat->Bool) (ops:Array Oper) (draw:Bool):Bool:=
 (ops.all fun o=>iB P S o.op)&&(!draw||(kY ops&&Dg ops (pP ops ops.size)))
theorem BJ {R2 W2:Nat} (h:nc R1 W1 R2 W2=true) (r:Nat):(W1.testBit r=true->R2.testBit r=false/\W2.testBit r=false)/\(W2.testBit r=true->R1.testBit r=false):=by
 simp only[nc,Bool.and_eq_true]at h;have h1:W1&&&(R2|||W2)=0:=Nat.eq_of_beq_eq_true h.1;have h2:W2&&&R1=0:=Nat.eq_of_beq_eq_true h.2;have e1:=congrArg (fun x=>Nat.testBit x r) h1;have e2:=congrArg (fun x=>Nat.testBit x r) h2;simp only[Nat.testBit_and,Nat.testBit_or,Nat.zero_testBit,Bool.and_eq_false_iff,Bool.or_eq_false_iff]at e1 e2;refine⟨fun x=>?_,fun x=>?_⟩
 .rcases e1 with e|e
  .rw[x]at e;cases e
  .exact e
 .rcases e2 with e|e
  .rw[x]at e;cases e
  .exact e
theorem tT {m:Nat}:∀{l:List (Nat×Nat×Nat)},BI m R W l=true->∀i R1 W1,(i,R1,W1)∈l->Dc m i=true\/nc R1 W1 R W=true
 | [],_,_,_,_,h=>by cases h
 |(i,R1,W1)::l,h,j,R2,W2,hm=>by
  simp only[BI,Bool.and_eq_true,Bool.or_eq_true]at h;rcases List.mem_cons.1 hm with e|hm
  .cases e;exact h.1
  .exact tT h.2 _ _ _ hm
theorem Ng {RU WU:Nat} (h:nc RU WU R W=true) (hr:∀r,R1.testBit r=true->RU.testBit r=true) (hw:∀r,W1.testBit r=true->WU.testBit r=true) (r:Nat):
 (W1.testBit r=true->R.testBit r=false/\W.testBit r=false)/\(W.testBit r=true->R1.testBit r=false):=by
 obtain⟨a,b⟩:=BJ h r;refine⟨fun x=>a (hw r x),fun x=>?_⟩;cases hx:R1.testBit r with
 |false=>rfl
 |true=>have:=b x;rw[hr r hx]at this;cases this
theorem z6:∀(ms:List Nat) (l:List (Nat×Nat)) (j:Nat) (prev:List (Nat×Nat×Nat)) (RU WU:Nat),jg ms l j prev RU WU=true->
 (∀i R1 W1,(i,R1,W1)∈prev->∀r,(R1.testBit r=true->RU.testBit r=true)/\(W1.testBit r=true->WU.testBit r=true))->
 (∀(b:Nat) (R W:Nat),l[b]?=some (R,W)->(∀i R1 W1,(i,R1,W1)∈prev->Dc (re ms b) i=true\/∀r,(W1.testBit r=true->R.testBit r=false/\W.testBit r=false)/\(W.testBit r=true->R1.testBit r=false))/\
   ∀(a R1 W1:Nat),a<b->l[a]?=some (R1,W1)->Dc (re ms b) (j+a)=true\/∀r,(W1.testBit r=true->R.testBit r=false/\W.testBit r=false)/\(W.testBit r=true->R1.testBit r=false)):=by
 intro ms l;induction l generalizing ms with
 |nil=>intro j prev RU WU _ _ b R W h;simp at h
 |cons x l ih=>
  obtain⟨Rx,Wx⟩:=x;intro j prev RU WU h Fr;cases ms with
  |nil=>simp[jg]at h
  |cons m ms=>
   simp only[jg,Bool.and_eq_true,Bool.or_eq_true]at h;obtain⟨h1,h2⟩:=h
   have ih:=ih ms (j+1) ((j,Rx,Wx)::prev) _ _ h2 (fun i R1 W1 hm r=>by
    have e1:(Nat.lor RU Rx).testBit r=(RU.testBit r||Rx.testBit r):=Nat.testBit_or _ _ _;have e2:(Nat.lor WU Wx).testBit r=(WU.testBit r||Wx.testBit r):=Nat.testBit_or _ _ _;rw[e1,e2];rcases List.mem_cons.1 hm with e|hm
    .cases e;exact⟨fun x=>by rw[x,Bool.or_true],fun x=>by rw[x,Bool.or_true]⟩
    .have:=Fr i R1 W1 hm r;exact⟨fun x=>by rw[this.1 x];rfl,fun x=>by rw[this.2 x];rfl⟩)
   intro b R W hb;cases b with
   |zero=>
    simp only[List.getElem?_cons_zero,Option.some.injEq,Prod.mk.injEq]at hb;obtain⟨rfl,rfl⟩:=hb;refine⟨fun i R1 W1 hm=>?_,fun a _ _ ha _=>by omega⟩;rcases h1 with h1|h1
    .exact .inr (Ng h1 (fun r=>(Fr i R1 W1 hm r).1) fun r=>(Fr i R1 W1 hm r).2)
    .exact(tT h1 i R1 W1 hm).imp id fun x=>BJ x
   |succ b=>
    simp only[List.getElem?_cons_succ]at hb;obtain⟨k1,k2⟩:=ih b R W hb;refine⟨fun i R1 W1 hm=>k1 i R1 W1 (List.mem_cons_of_mem _ hm),fun a R1 W1 mH ha=>?_⟩;cases a with
    |zero=>
     simp only[List.getElem?_cons_zero,Option.some.injEq,Prod.mk.injEq]at ha;obtain⟨rfl,rfl⟩:=ha;exact k1 j Rx Wx (by simp)
    |succ a=>
     simp only[List.getElem?_cons_succ]at ha;have:=k2 a R1 W1 (by omega) ha;rw[show j+(a+1)=j+1+a by omega];exact this
theorem BK:∀{l:List (Nat×Nat)} {i R W r:Nat},l[i]?=some (R,W)->R.testBit r=true->(Et l).testBit r=true
 | [],i,R,W,r,h,_=>by simp at h
 |(Rx,Wx)::l,i,R,W,r,h,hr=>by
  have e:(Et ((Rx,Wx)::l)).testBit r=(Rx.testBit r||(Et l).testBit r):=Nat.testBit_or _ _ _;rw[e];cases i with
  |zero=>simp only[List.getElem?_cons_zero,Option.some.injEq,Prod.mk.injEq]at h;obtain⟨rfl,rfl⟩:=h;rw[hr];rfl
  |succ i=>simp only[List.getElem?_cons_succ]at h;rw[BK h hr,Bool.or_true]
theorem vd:∀{l:List (Nat×Nat)} {i R W r:Nat},l[i]?=some (R,W)->W.testBit r=true->(Df l).testBit r=true
 | [],i,R,W,r,h,_=>by simp at h
 |(Rx,Wx)::l,i,R,W,r,h,hr=>by
  have e:(Df ((Rx,Wx)::l)).testBit r=(Wx.testBit r||(Df l).testBit r):=Nat.testBit_or _ _ _;rw[e];cases i with
  |zero=>simp only[List.getElem?_cons_zero,Option.some.injEq,Prod.mk.injEq]at h;obtain⟨rfl,rfl⟩:=h;rw[hr];rfl
  |succ i=>simp only[List.getElem?_cons_succ]at h;rw[vd h hr,Bool.or_true]
section
variable {P:Program} {S:Nat->Bool} {K:Kz} {mZ:List PanicEntry->World->Prop} {ce:Next->Hp->Rs Value}
theorem ve {ops:Array Oper}:∀(n i:Nat) (T:List Value) (H:Hp) (T2:List Value) (H2:Hp) (l:List (Nat×Nat)),fL P ce ops n i T H=some (T2,H2,l)->
 ∃(Ts:Nat->List Value) (Hs:Nat->Hp) (R W:Nat->Nat),Ts i=T/\Hs i=H/\Ts (i+n)=T2/\Hs (i+n)=H2/\(∀a,a<n->l[a]?=some (R (i+a),W (i+a)))/\∀a,i<=a->a<i+n->m6 P ce ops a (Ts a) (Hs a)=some (Ts (a+1),Hs (a+1),R a,W a):=by
 intro n;induction n with
 |zero=>
  intro i T H T2 H2 l e;simp only[fL,Option.some.injEq,Prod.mk.injEq]at e;obtain⟨rfl,rfl,rfl⟩:=e;exact⟨fun _=>T,fun _=>H,fun _=>0,fun _=>0,rfl,rfl,rfl,rfl,fun a h=>by omega,fun a h1 h2=>by omega⟩
 |succ n ih=>
  intro i T H T2 H2 l e;simp only[fL]at e;split at e<;>try(cases e;done)
  rename_i T1 H1 R1 W1 e1;split at e<;>try(cases e;done)
  rename_i VJ VK l' e2;simp only[Option.some.injEq,Prod.mk.injEq]at e;obtain⟨rfl,rfl,rfl⟩:=e;obtain⟨Ts,Hs,R,W,a1,a2,a3,a4,a5,a6⟩:=ih (i+1) T1 H1 VJ VK l' e2;refine⟨fun j=>if j=i then T else Ts j,fun j=>if j=i then H else Hs j,fun j=>if j=i then R1 else R j,fun j=>if j=i then W1 else W j,if_pos rfl,if_pos rfl,?_,?_,?_,?_⟩
  .show(if i+(n+1)=i then T else Ts (i+(n+1)))=VJ;rw[if_neg (by omega),show i+(n+1)=i+1+n by omega];exact a3
  .show(if i+(n+1)=i then H else Hs (i+(n+1)))=VK;rw[if_neg (by omega),show i+(n+1)=i+1+n by omega];exact a4
  .intro a ha;show _=some ((if i+a=i then R1 else R (i+a)),(if i+a=i then W1 else W (i+a)));cases a with
   |zero=>simp
   |succ a=>
    simp only[List.getElem?_cons_succ];rw[a5 a (by omega),if_neg (by omega),if_neg (by omega),show i+1+a=i+(a+1) by omega]
  .intro a h1 h2;show m6 P ce ops a (if a=i then T else Ts a) (if a=i then H else Hs a)=some ((if a+1=i then T else Ts (a+1)),(if a+1=i then H else Hs (a+1)),(if a=i then R1 else R a),(if a=i then W1 else W a));by_cases e:a=i
   .subst e;simp only[if_true];rw[if_neg (by omega),if_neg (by omega),e1,a1,a2]
   .rw[if_neg e,if_neg e,if_neg (by omega),if_neg (by omega),if_neg e,if_neg e];exact a6 a (by omega) (by omega)
theorem Dh (eZ:iL P S K mZ ce) {ops:Array Oper}:∀(n i:Nat) (T:List Value) (H:Hp) (T2:List Value) (H2:Hp) (l:List (Nat×Nat)),fL P ce ops n i T H=some (T2,H2,l)->Ft H (Et l) (Df l) H2/\T2.length=T.length:=by
 intro n;induction n with
 |zero=>
  intro i T H T2 H2 l e;simp only[fL,Option.some.injEq,Prod.mk.injEq]at e;obtain⟨rfl,rfl,rfl⟩:=e;exact⟨Ft.refl _,rfl⟩
 |succ n ih=>
  intro i T H T2 H2 l e;simp only[fL]at e;split at e<;>try(cases e;done)
  rename_i T1 H1 R1 W1 e1;split at e<;>try(cases e;done)
  rename_i VJ VK l' e2;simp only[Option.some.injEq,Prod.mk.injEq]at e;obtain⟨rfl,rfl,rfl⟩:=e;obtain⟨a,b⟩:=ih _ _ _ _ _ _ e2;refine⟨(m7 eZ e1).trans a,b.trans ?_⟩;obtain⟨o,_,h⟩:=jf e1;rcases h with⟨_,v,_,h⟩|⟨_,h,_⟩<;>rw[h,pn]
theorem tU {ops:Array Oper} (e:et P ce ops draw T H=some (T1,H1,R,W)):
 ∃l,fL P ce ops ops.size 0 T H=some (T1,H1,l)/\(draw=true->jg (pP ops ops.size) l 0 [] 0 0=true)/\R=Et l/\W=Df l:=by
 unfold et at e;split at e
 .cases e
 .rename_i T1 H1 l e1;cases hc:(!draw||jg (pP ops ops.size) l 0 [] 0 0)<;>rw[hc]at e<;>simp only[cond_true,cond_false]at e
  .cases e
  simp only[Option.some.injEq,Prod.mk.injEq]at e;obtain⟨rfl,rfl,rfl,rfl⟩:=e;exact⟨l,e1,fun hd=>by rw[hd]at hc;simpa using hc,rfl,rfl⟩
theorem dR (eZ:iL P S K mZ ce) {ops:Array Oper} (e:et P ce ops draw T H=some (T1,H1,R,W)):Ft H R W H1/\T1.length=T.length:=by
 obtain⟨l,e1,_,rfl,rfl⟩:=tU e;exact Dh eZ _ _ _ _ _ _ _ e1
theorem m8 (hk:Ok P P.funcs S) (hZ:Pe P K) (eZ:iL P S K mZ ce) {ops:Array Oper} (bF:dY P S ops draw=true) (e:et P ce ops draw T H=some (T1,H1,R,W))
 {Fp:Nat->Prop} {p:Pi} {tm:Array Value} {w:World} (hg:P.globals.size<=H.n) (hF:∀r,(R.testBit r=true\/W.testBit r=true)->Fp r) (bP:tm.size=T.length) (hr:Rl P S K p H.get Fp w) (hT:∀x,VR S p (bt T x) (tm.getD x undef)) (hG:xu P S p)
 (hn:∀r,H.n<=r->r<H1.n->∀r',¬p r r') (id:Nat) (b:Frame) (ds:List Deferred) (k:List Item) (cs:List Frame):
 (∃br w' q,Steps P (lone (aY b tm ds (.code (.region id ops draw)::k)) cs w) (lone (aY b br ds k) cs w')/\br.size=T.length/\
   Mv (fun r=>W.testBit r=true) p H.n w q H1.n w'/\Rl P S K q H1.get Fp w'/\∀x,VR S q (bt T1 x) (br.getD x undef))\/gv P mZ b ds cs (lone (aY b tm ds (.code (.region id ops draw)::k)) cs w):=by
 obtain⟨l,e1,hp,rfl,rfl⟩:=tU e;obtain⟨Ts,Hs,R,W,a1,a2,a3,a4,a5,a6⟩:=ve _ _ _ _ _ _ _ e1;rw[Nat.zero_add]at a3 a4 a6;have t:Pf P ce ops Ts Hs R W:=⟨fun i hi=>a6 i (Nat.zero_le _) hi⟩
 have lR:∀i,i<ops.size->l[i]?=some (R i,W i):=fun i hi=>by have:=a5 i hi;rwa [Nat.zero_add]at this
 simp only[dY,Bool.and_eq_true]at bF
 have qF:∀(i:Nat) (o:Oper),ops[i]?=some o->iB P S o.op=true:=fun i o ho=>by
  obtain⟨az,he⟩:=Array.getElem?_eq_some_iff.1 ho;have:=Array.all_eq_true.1 bF.1 i az;rw[he]at this;exact this
 have mono:=fun i j=>t.Fi (i:=i) (j:=j) eZ;have TS:∀i,i<ops.size->∀r,((R i).testBit r=true\/(W i).testBit r=true)->Fp r:=fun i hi r hr=>hF r (hr.imp (fun x=>BK (lR i hi) x) fun x=>vd (lR i hi) x)
 have l0:∀r,last (fun i=>(Hs i).get) (zd W) (fun _=>false) ops.size r=H.get r:=fun r=>by
  have:∀n,last (fun i=>(Hs i).get) (zd W) (fun _=>false) n r=H.get r:=by
   intro n;induction n with
   |zero=>show(Hs 0).get r=_;rw[a2]
   |succ n ih=>simp only[last,Bool.false_and,Bool.false_eq_true,if_false];exact ih
  exact this _
 have l1:∀x,last (fun i=>bt (Ts i)) (ze ops) (fun _=>false) ops.size x=bt T x:=fun r=>by
  have:∀n,last (fun i=>bt (Ts i)) (ze ops) (fun _=>false) n r=bt T r:=by
   intro n;induction n with
   |zero=>show bt (Ts 0) r=_;rw[a1]
   |succ n ih=>simp only[last,Bool.false_and,Bool.false_eq_true,if_false];exact ih
  exact this _
 have fin:∀{order:List Nat} {Fo:Nat->Nat->Prop} {w0:World},w0.heap=w.heap->Good Fo ops.size (fun _=>false) order->(∀i j,i<j->j<ops.size->Fo i j\/QJ R W i j)->(∀(i j:Nat) (oi oj:Oper),i<j->ops[i]?=some oi->ops[j]?=some oj->Fo i j\/oi.apart ops oj=true)->
  (∃br w' q,Steps P (lone (aY b tm ds (.inRegion ops order::k)) cs w0) (lone (aY b br ds k) cs w')/\br.size=T.length/\Mv (fun r=>(Df l).testBit r=true) p H.n w q H1.n w'/\Rl P S K q H1.get Fp w'/\∀x,VR S q (bt T1 x) (br.getD x undef))\/gv P mZ b ds cs (lone (aY b tm ds (.inRegion ops order::k)) cs w0):=by
  intro order Fo w0 TT QM hm ht;rcases Jq hk hZ eZ qF t hm ht (by rw[a2];exact hg) TS b ds k cs order (fun _=>false) p tm w0 QM (fun a c _ h=>by cases h) (by rw[a1];exact bP) ((hr.heap TT).congr fun r _=>l0 r) (fun x=>by rw[l1];exact hT x) hG (fun j hj _ r h1 h2=>hn r (by have:=mono 0 j (Nat.le_of_lt hj) (Nat.zero_le _);rw[a2]at this;omega) (by have:=mono (j+1) ops.size (Nat.le_refl _) hj;rw[a4]at this;omega))with⟨br,w',q,c1,c2,c3,c4,c5⟩|Fm;rotate_left
  .exact .inr Fm
  rw[a1]at c2;rw[a2,a4]at c3;rw[a4]at c4;rw[a3]at c5;exact .inl ⟨br,w',q,c1.trans (.one dr),c2,(c3.Fc TT.symm).mono fun r ⟨i,hi,x⟩=>vd (lR i hi) x,c4,c5⟩
 cases draw with
 |false=>
  rcases fin (order:=List.range ops.size) (Fo:=(·<·)) (w0:=w) rfl (by
   have:=rh ops.size ops.size 0 (Nat.zero_add _);rw[<-List.range_eq_range']at this;exact hQ (fun j _=>by simp) (fun a b mH hb=>by omega) this) (fun i j h _=>.inl h) (fun i j _ _ h _ _=>.inl h)with⟨br,w',q,c⟩|Fm
  .exact .inl ⟨br,w',q,.head gP c.1,c.2⟩
  .exact .inr (.of_steps (.one gP) Fm)
 |true=>
  have Nh:=bF.2;simp only[Bool.not_true,Bool.false_or,Bool.and_eq_true]at Nh;have hpz:=z6 _ _ _ _ _ _ (hp rfl) (fun _ _ _ h=>by cases h);obtain⟨tt,w0,TT,QO⟩:=BC (P:=P) (b:=b) (tm:=tm) (ds:=ds) (k:=k) (cs:=cs) (w:=w) (id:=id) (ops:=ops)
  rcases fin (order:=Region.schedule (P.follows .mixedOrders) ops tt) (Fo:=eR ops) (w0:=w0) TT (sM Nh.1 _ _) (fun i j h hj=>by
   rcases(hpz j _ _ (lR j hj)).2 i _ _ h (lR i (by omega))with x|x
   .rw[Nat.zero_add]at x;exact .inl (tP _ _ _ _ (xy x))
   .exact .inr x) (fun i j oi oj h hoi Fk=>by
   have hj:j<ops.size:=(Array.getElem?_eq_some_iff.1 Fk).1;have h2:=List.all_eq_true.1 (List.all_eq_true.1 Nh.2 j (List.mem_range.2 hj)) i (List.mem_range.2 h);rw[hoi,Fk,Bool.or_eq_true]at h2;rcases h2 with x|x
   .exact .inl (tP _ _ _ _ (xy x))
   .exact .inr x)with⟨br,w',q,c⟩|Fm
  .exact .inl ⟨br,w',q,.head QO c.1,c.2⟩
  .exact .inr (.of_steps (.one QO) Fm)
end
end Go.au
namespace Go.au
variable {H H1:Hp} {R R1 W W1 l l' n n1:Nat} {T T1:List Value} {args bh tmps:Array Value} {assign body:Code} {ex:Nat->Bool} {f:Operand} {f7:List Deferred} {j:Option Code} {m:Machine} {p q:Pi} {params:Array Tmp} {ro:Option Nat} {v:Value} {w1 w2:World}
abbrev Rc:=Option (Option Code×List Value×List Deferred×Hp×Nat×Nat)
def pp (R W:Nat):Rc->Rc
 |some (j,T,ds,H,R1,W1)=>some (j,T,ds,H,R|||R1,W|||W1)
 |none=>none
theorem jA {x:Rc} {ds:List Deferred} (h:pp R W x=some (j,T,ds,H,R1,W1)):∃R2 W2,x=some (j,T,ds,H,R2,W2)/\R1=R|||R2/\W1=W|||W2:=by
 cases x with
 |none=>cases h
 |some y=>
  obtain⟨a,b,c,d,e,f⟩:=y;simp only[pp,Option.some.injEq,Prod.mk.injEq]at h;obtain⟨rfl,rfl,rfl,rfl,rfl,rfl⟩:=h;exact⟨_,_,rfl,rfl,rfl⟩
def VL:Option Code->Bool
 |none=>true
 |some .ret=>true
 |some (.exit _)=>true
 |some (.goto _)=>true
 |_=>false
def dZ (r:Operand->Value) (f:Operand) (l:Nat):Sem Next:=do
 let d<-resolve r {callee:=.value f,args:=#[.const (.func (.yield l) #[] #[])],argTypes:=#[]} 0
 invoke d.target d.args
def m9 (P:Program) (ce:Next->Hp->Rs Value) (ro:Option Nat) (fn:Nat) (f:Operand) (params:Array Tmp) (assign body:Code) (T:List Value) (ds:List Deferred) (H:Hp):Rc:=
 match aA P (Instr.enterLoop fn T.toArray params assign body ro) H with
 |none=>none
 |some ((l,mark),H1,R1,W1)=>match aA P (dZ (xt (bt T)) f l) H1 with
  |none=>none
  |some (nx,H2,R2,W2)=>match ce nx H2 with
   |none=>none
   |some (_,H3,R3,W3)=>match aA P (Instr.endLoop l) H3 with
    |none=>none
    |some (j,H4,R4,W4)=>bif VL j then some (j,T,mark++ds,H4,R1|||(R2|||(R3|||R4)),W1|||(W2|||(W3|||W4)))else none
abbrev Rg:=(Next->Hp->Rs Value)->Array Oper->Bool->List Value->Hp->Rs (List Value)
def iM (P:Program) (rg:Rg) (ce:Next->Hp->Rs Value) (ro:Option Nat) (fn:Nat):Nat->Option Code->Code->List Value->List Deferred->Hp->Rc
 |0,_,_,_,_,_=>none
 |n+1,some sc,c,T,ds,H=>match iM P rg ce ro fn n none c T ds H with
  |some (some (.goto l),T1,f7,H1,R,W)=>match findLabel sc l with
   |some rest=>pp R W (iM P rg ce ro fn n (some sc) rest T1 f7 H1)
   |none=>some (some (.goto l),T1,f7,H1,R,W)
  |x=>x
 |n+1,none,c,T,ds,H=>match c with
  |.skip=>some (none,T,ds,H,0,0)
  |.label _=>some (none,T,ds,H,0,0)
  |.region _ ops draw=>match rg ce ops draw T H with
   |some (T1,H1,R,W)=>some (none,T1,ds,H1,R,W)
   |none=>none
  |.seq a b=>match iM P rg ce ro fn n none a T ds H with
   |some (none,T1,f7,H1,R,W)=>pp R W (iM P rg ce ro fn n none b T1 f7 H1)
   |x=>x
  |.cond x a b=>match xt (bt T) x with
   |.bool t=>iM P rg ce ro fn n none (bif t then a else b) T ds H
   |_=>none
  |.block id a=>match iM P rg ce ro fn n none a T ds H with
   |some (some (.exit i),T1,f7,H1,R,W)=>bif Nat.beq i id then some (none,T1,f7,H1,R,W)else some (some (.exit i),T1,f7,H1,R,W)
   |x=>x
  |.loop a=>match iM P rg ce ro fn n none a T ds H with
   |some (none,T1,f7,H1,R,W)=>pp R W (iM P rg ce ro fn n none (.loop a) T1 f7 H1)
   |x=>x
  |.scope a=>iM P rg ce ro fn n (some a) a T ds H
  |.exit id=>some (some (.exit id),T,ds,H,0,0)
  |.goto l=>some (some (.goto l),T,ds,H,0,0)
  |.ret=>some (some .ret,T,ds,H,0,0)
  |.rangeFunc f params assign body=>m9 P ce ro fn f params assign body T ds H
  |.refuse _=>none
def xB:Option Code->Bool
 |none=>true
 |some .ret=>true
 |_=>false
def iE (P:Program):List Deferred->Hp->Rs Unit
 | [],H=>some ((),H,0,0)
 |{target:=.collected r,.. }::ds,H=>match aA P (Instr.takeDeferred r) H with
  |some (_,H1,R,W)=>match iE P ds H1 with
   |some (_,H2,R2,W2)=>some ((),H2,R|||R2,W|||W2)
   |none=>none
  |none=>none
 |_::_,_=>none
def z7 (P:Program) (rg:Rg) (ce:Next->Hp->Rs Value) (n:Nat) (f:Nat) (args:Array Value) (H:Hp):Rs Value:=
 match P.funcs[f]? with
 |none=>none
 |some fn=>match fn.body with
  |none=>none
  |some body=>match iM P rg ce none f n none body (args.toList++List.replicate (fn.ntmps-args.size) undef) [] H with
   |none=>none
   |some (j,T1,f7,H1,R1,W1)=>bif xB j then match iE P f7 H1 with
    |none=>none
    |some (_,H2,R2,W2)=>match aA P (results fn T1.toArray) H2 with
     |none=>none
     |some (v,H3,R3,W3)=>some (v,H3,R1|||(R2|||R3),W1|||(W2|||W3))else none
def na (P:Program) (rg:Rg) (ce:Next->Hp->Rs Value) (n:Nat) (l f:Nat) (tmps:Array Value) (assign body:Code) (H:Hp):Rs Value:=
 match iM P rg ce (some l) f n none assign tmps.toList [] H with
 |some (none,T1,f7,H1,R1,W1)=>match aA P (Instr.beginRound l) H1 with
  |none=>none
  |some (_,H2,R2,W2)=>match iM P rg ce (some l) f n none body T1 f7 H2 with
   |none=>none
   |some (j,_,_,H3,R3,W3)=>match aA P (Instr.endRound l j) H3 with
    |none=>none
    |some (v,H4,R4,W4)=>some (v,H4,R1|||(R2|||(R3|||R4)),W1|||(W2|||(W3|||W4)))
 |_=>none
def pQ (P:Program) (rg:Rg) (ex:Nat->Bool):Nat->Next->Hp->Rs Value
 |0,_,_=>none
 |n+1,nx,H=>match nx with
  |.enter f args=>bif ex f then none else z7 P rg (pQ P rg ex n) n f args H
  |.round l f tmps assign body=>na P rg (pQ P rg ex n) n l f tmps assign body H
  |_=>none
abbrev QP (P:Program) (ex:Nat->Bool):=pQ P (et P) ex
def cE (P:Program) (S:Nat->Bool):Code->Bool
 |.skip|.label _|.exit _|.goto _|.ret=>true
 |.region _ ops draw=>dY P S ops draw
 |.seq a b=>cE P S a&&cE P S b
 |.cond c a b=>fX P S c&&cE P S a&&cE P S b
 |.block _ a=>cE P S a
 |.loop a=>cE P S a
 |.scope a=>cE P S a
 |.rangeFunc f _ a b=>fX P S f&&cE P S a&&cE P S b
 |.refuse _=>false
def QQ (P:Program) (e:TypeId) (v:Value):Prop:=∃i z,P.info? e=some i/\i.zero=some z/\v∈z.cells
def cK (P:Program) (S:Nat->Bool):Kz:=⟨fun c=>cE P S c=true,QQ P⟩
theorem QR (P:Program) (S:Nat->Bool):Pe P (cK P S):=fun e i z h1 h2 u hu=>⟨i,z,h1,h2,hu⟩
theorem vg {P:Program} {S:Nat->Bool}:∀{c:Code} {l:Nat} {r:Code},cE P S c=true->findLabel c l=some r->cE P S r=true:=by
 intro c;induction c with
 |seq a b P5 P6=>
  intro l r h e;simp only[cE,Bool.and_eq_true]at h;simp only[findLabel]at e;split at e
  .rename_i rest h1;simp only[Option.some.injEq]at e;subst e;simp only[cE,Bool.and_eq_true];exact⟨P5 h.1 h1,h.2⟩
  .exact P6 h.2 e
 |label l'=>
  intro l r h e;simp only[findLabel]at e;split at e
  .cases e;rfl
  .cases e
 |_=>intro l r h e;simp[findLabel]at e
section
variable {P:Program} {S:Nat->Bool} {K:Kz} {mZ:List PanicEntry->World->Prop} {ce:Next->Hp->Rs Value}
theorem z8 (eZ:iL P S K mZ ce) {fn:Nat} {ds:List Deferred}
 (e:m9 P ce ro fn f params assign body T ds H=some (j,T1,f7,H1,R,W)):Ft H R W H1/\T1.length=T.length:=by
 unfold m9 at e;split at e<;>try(cases e;done)
 rename_i e1;split at e<;>try(cases e;done)
 rename_i e2;split at e<;>try(cases e;done)
 rename_i e3;split at e<;>try(cases e;done)
 rename_i j _ _ _ e4;cases hj:VL j<;>rw[hj]at e<;>simp only[cond_true,cond_false]at e
 .cases e
 simp only[Option.some.injEq,Prod.mk.injEq]at e;obtain⟨rfl,rfl,rfl,rfl,rfl,rfl⟩:=e;exact⟨(ba P _ e1).trans ((ba P _ e2).trans ((eZ.ft _ _ _ _ _ _ e3).trans (ba P _ e4))),rfl⟩
theorem eS (eZ:iL P S K mZ ce) (ro:Option Nat) (fn:Nat):∀(n:Nat) (sc:Option Code) (c:Code) (T:List Value) (ds:List Deferred) (H:Hp) (j:Option Code) (T1:List Value) (f7:List Deferred) (H1:Hp) (R W:Nat),
 iM P (et P) ce ro fn n sc c T ds H=some (j,T1,f7,H1,R,W)->Ft H R W H1/\T1.length=T.length:=by
 intro n;induction n with
 |zero=>intro sc c T ds H j T1 f7 H1 R W e;simp[iM]at e
 |succ n ih=>
  intro sc c T ds H j T1 f7 H1 R W e
  have add:∀{sc c T2 wi H2 R2 W2 j T1 f7 H1 R W},Ft H R2 W2 H2/\T2.length=T.length->pp R2 W2 (iM P (et P) ce ro fn n sc c T2 wi H2)=some (j,T1,f7,H1,R,W)->Ft H R W H1/\T1.length=T.length:=by
   intro sc c T2 wi H2 R2 W2 j T1 f7 H1 R W h e;obtain⟨R3,W3,e2,rfl,rfl⟩:=jA e;obtain⟨a,b⟩:=ih _ _ _ _ _ _ _ _ _ _ _ e2;exact⟨h.1.trans a,b.trans h.2⟩
  cases sc with
  |some sc=>
   simp only[iM]at e;split at e
   .rename_i e1;split at e
    .exact add (ih _ _ _ _ _ _ _ _ _ _ _ e1) e
    .simp only[Option.some.injEq,Prod.mk.injEq]at e;obtain⟨rfl,rfl,rfl,rfl,rfl,rfl⟩:=e;exact ih _ _ _ _ _ _ _ _ _ _ _ e1
   .exact ih _ _ _ _ _ _ _ _ _ _ _ e
  |none=>
   have Fs:∀{j':Option Code},some (j',T,ds,H,0,0)=some (j,T1,f7,H1,R,W)->Ft H R W H1/\T1.length=T.length:=fun e=>by
    simp only[Option.some.injEq,Prod.mk.injEq]at e;obtain⟨rfl,rfl,rfl,rfl,rfl,rfl⟩:=e;exact⟨Ft.refl _,rfl⟩
   cases c with
   |skip=>exact Fs e
   |label l=>exact Fs e
   |exit id=>exact Fs e
   |goto l=>exact Fs e
   |ret=>exact Fs e
   |refuse w=>simp[iM]at e
   |region id ops draw=>
    simp only[iM]at e;split at e<;>try(cases e;done)
    rename_i e1;simp only[Option.some.injEq,Prod.mk.injEq]at e;obtain⟨rfl,rfl,rfl,rfl,rfl,rfl⟩:=e;exact dR eZ e1
   |seq a b=>
    simp only[iM]at e;split at e
    .rename_i e1;exact add (ih _ _ _ _ _ _ _ _ _ _ _ e1) e
    .exact ih _ _ _ _ _ _ _ _ _ _ _ e
   |cond x a b=>
    simp only[iM]at e;split at e<;>try(cases e;done)
    exact ih _ _ _ _ _ _ _ _ _ _ _ e
   |block id a=>
    simp only[iM]at e;split at e
    .rename_i i _ _ _ _ _ e1;have:=ih _ _ _ _ _ _ _ _ _ _ _ e1;cases hb:Nat.beq i id<;>rw[hb]at e<;>simp only[cond_true,cond_false,Option.some.injEq,Prod.mk.injEq]at e<;>obtain⟨rfl,rfl,rfl,rfl,rfl,rfl⟩:=e<;>exact this
    .exact ih _ _ _ _ _ _ _ _ _ _ _ e
   |loop a=>
    simp only[iM]at e;split at e
    .rename_i e1;exact add (ih _ _ _ _ _ _ _ _ _ _ _ e1) e
    .exact ih _ _ _ _ _ _ _ _ _ _ _ e
   |scope a=>exact ih _ _ _ _ _ _ _ _ _ _ _ e
   |rangeFunc f params assign body=>exact z8 eZ e
theorem hU:∀(ds:List Deferred) (H H1:Hp) (R W:Nat),iE P ds H=some ((),H1,R,W)->Ft H R W H1
 | [],H,H1,R,W,e=>by
   simp only[iE,Option.some.injEq,Prod.mk.injEq,true_and]at e;obtain⟨rfl,rfl,rfl⟩:=e;exact Ft.refl _
 |d::ds,H,H1,R,W,e=>by
  obtain⟨t,args⟩:=d;cases t<;>simp only[iE]at e<;>try(cases e;done)
  split at e<;>try(cases e;done)
  rename_i e1;split at e<;>try(cases e;done)
  rename_i e2;simp only[Option.some.injEq,Prod.mk.injEq,true_and]at e;obtain⟨rfl,rfl,rfl⟩:=e;exact(ba P _ e1).trans (hU ds _ _ _ _ e2)
theorem BL (eZ:iL P S K mZ ce) {f:Nat} (e:z7 P (et P) ce n f args H=some (v,H1,R,W)):Ft H R W H1:=by
 unfold z7 at e;split at e<;>try(cases e;done)
 split at e<;>try(cases e;done)
 split at e<;>try(cases e;done)
 rename_i j _ _ _ _ _ e1;cases hr:xB j<;>rw[hr]at e<;>simp only[cond_true,cond_false]at e
 .cases e
 split at e<;>try(cases e;done)
 rename_i e2;split at e<;>try(cases e;done)
 rename_i e3;simp only[Option.some.injEq,Prod.mk.injEq]at e;obtain⟨rfl,rfl,rfl,rfl⟩:=e;exact(eS eZ _ _ _ _ _ _ _ _ _ _ _ _ _ _ e1).1.trans ((hU _ _ _ _ _ e2).trans (ba P _ e3))
theorem ri (eZ:iL P S K mZ ce) {f:Nat} (e:na P (et P) ce n l f tmps assign body H=some (v,H1,R,W)):Ft H R W H1:=by
 unfold na at e;split at e<;>try(cases e;done)
 rename_i e1;split at e<;>try(cases e;done)
 rename_i e2;split at e<;>try(cases e;done)
 rename_i e3;split at e<;>try(cases e;done)
 rename_i e4;simp only[Option.some.injEq,Prod.mk.injEq]at e;obtain⟨rfl,rfl,rfl,rfl⟩:=e;exact(eS eZ _ _ _ _ _ _ _ _ _ _ _ _ _ _ e1).1.trans ((ba P _ e2).trans ((eS eZ _ _ _ _ _ _ _ _ _ _ _ _ _ _ e3).1.trans (ba P _ e4)))
end
section
variable {P:Program} {b:Frame} {tm:Array Value} {ds:List Deferred} {k:List Item} {cs:List Frame} {w:World}
theorem Fu {mark:List Deferred} {nx:Next} {g:Frame}
 (h1:(Instr.enterLoop b.fn tm params assign body b.roundOf).run P w=.ok (l,mark) w1) (h2:(dZ (aY b tm (mark++ds) (.inRangeFunc l::k)).eval f l).run P w1=.ok nx w2) (hg:oh P nx=some g):
 step P (lone (aY b tm ds (.code (.rangeFunc f params assign body)::k)) cs w)=.next (lone g (aY b tm (mark++ds) (.inRangeFunc l::k)::cs) w2):=by
 refine bc rfl ?_;have:=(gY (P:=P) (cs:=cs) (fr:=aY b tm (mark++ds) (.inRangeFunc l::k)) rfl h2).2.2 g hg;rw[<-this];unfold stepG.exec;simp only[aY]at h1⊢;simp only[Sem.runT_eq,h1,GStep.bare_after];rfl
theorem xC (h:(Instr.endLoop l).run P w=.ok j w1):
 step P (lone (aY b tm ds (.endRangeFunc l::k)) cs w)=.next (lone (aY b tm ds ((j.map Item.code).toList++k)) cs w1):=by
 refine bc rfl ?_;unfold stepG.exec;simp only[aY];simp only[Sem.runT_eq,h,GStep.bare_after];rfl
theorem sN (hl:b.roundOf=some l) (h:(Instr.beginRound l).run P w=.ok () w1):
 step P (lone (aY b tm ds (.beginRound::k)) cs w)=.next (lone (aY b tm ds k) cs w1):=by
 refine bc rfl ?_
 have hs:(do (aY b tm ds (.beginRound::k)).roundOf.elim (Go.stuck "beginRound: no round") Instr.beginRound;Pure.pure Next.skip:Sem Next).run P w=.ok .skip w1:=by
  show(do b.roundOf.elim (Go.stuck "beginRound: no round") Instr.beginRound;Pure.pure Next.skip:Sem Next).run P w=.ok .skip w1;rw[hl];exact cQ P _ _ w h
 have:=(gY (P:=P) (cs:=cs) (fr:=aY b tm ds (.beginRound::k)) rfl hs).2.1 rfl;rw[show(aY b tm ds (.beginRound::k)).finish undef=aY b tm ds k from rfl]at this;rw[<-this];rfl
end
def rj (j:Option Code) (k todo:List Item):Prop:=match j with
 |none=>todo=k
 |some .ret=>∃k2,todo=.code .ret::k2
 |some (.exit id)=>∃k2,todo=.code (.exit id)::k2/\exitTo id k2=exitTo id k
 |some (.goto l)=>∃k2,todo=.code (.goto l)::k2/\gotoIn l k2=gotoIn l k
 |some _=>False
structure Ik (P:Program) (S:Nat->Bool) (Fp:Nat->Prop) (p:Pi) (H:Hp) (T:List Value) (ds:List Deferred) (tm:Array Value) (jp:List Deferred) (w:World):Prop where
 sz:tm.size=T.length
 rl:Rl P S (cK P S) p H.get Fp w
 tr:∀x,VR S p (bt T x) (tm.getD x undef)
 dl:DL p ds jp
 gl:xu P S p
 hg:P.globals.size<=H.n
def Fv (P:Program) (S:Nat->Bool) (Fp:Nat->Prop) (b:Frame) (cs:List Frame) (k:List Item) (p:Pi) (n:Nat) (w:World) (m:Machine) (j:Option Code) (T1:List Value) (f7:List Deferred) (H1:Hp) (W:Nat):Prop:=
 ∃br lB w' q todo,Steps P m (lone (aY b br lB todo) cs w')/\Mv (fun r=>W.testBit r=true) p n w q H1.n w'/\Ik P S Fp q H1 T1 f7 br lB w'/\rj j k todo
section
variable {P:Program} {S:Nat->Bool} {Fp:Nat->Prop} {b:Frame} {cs:List Frame} {ce:Next->Hp->Rs Value}
theorem rj.pass {x:Item} (hx:x.plain=true) {c:Code} (hj:j=some c) {k todo:List Item} (h:rj j (x::k) todo):rj j k todo:=by
 subst hj;cases c<;>try exact h
 .obtain⟨k2,h1,h2⟩:=h;refine⟨k2,h1,h2.trans ?_⟩;cases x<;>first|rfl|cases hx
 .obtain⟨k2,h1,h2⟩:=h;refine⟨k2,h1,h2.trans ?_⟩;cases x<;>first|rfl|cases hx
theorem aW {W:Nat->Prop} {N:Nat} {w:World} (h:∀r,n<=r->r<N->∀r',¬p r r') (m:Mv W p n w q n1 w1):∀r,n1<=r->r<N->∀r',¬q r r':=fun r a c r' hq=>by
 rcases m.new r r' hq with x|⟨_,x,_⟩
 .exact h r (Nat.le_trans m.nn a) c r' x
 .omega
theorem eT (h:∀r,((R|||R1).testBit r=true\/(W|||W1).testBit r=true)->Fp r):∀r,(R.testBit r=true\/W.testBit r=true)->Fp r:=fun r x=>h r (x.imp (fun x=>by rw[Nat.testBit_or,x];rfl) fun x=>by rw[Nat.testBit_or,x];rfl)
theorem bK (h:∀r,((R|||R1).testBit r=true\/(W|||W1).testBit r=true)->Fp r):∀r,(R1.testBit r=true\/W1.testBit r=true)->Fp r:=fun r x=>h r (x.imp (fun x=>by rw[Nat.testBit_or,x,Bool.or_true]) fun x=>by rw[Nat.testBit_or,x,Bool.or_true])
theorem Mv.or {s:Pi} {n2 W2:Nat} {w:World} (h:Mv (fun r=>W1.testBit r=true) p n w q n1 w1) (k:Mv (fun r=>W2.testBit r=true) q n1 w1 s n2 w2):Mv (fun r=>(W1|||W2).testBit r=true) p n w s n2 w2:=
 h.trans k (fun r x=>by rw[Nat.testBit_or,x];rfl) (fun r x=>by rw[Nat.testBit_or,x,Bool.or_true])
theorem fT {α β:Type} {Q:Pi->α->β->Prop} {s:Sem α} {s':Sem β} {a:α} {w:World} (h:SR P P.funcs S (cK P S) 0 Q s s' p) (e:aA P s H=some (a,H1,R,W))
 (hr:Rl P S (cK P S) p H.get Fp w) (hg:P.globals.size<=H.n) (hn:∀r,H.n<=r->r<H1.n->∀r',¬p r r') (hF:∀r,(R.testBit r=true\/W.testBit r=true)->Fp r):
 ∃a' w1 q,s'.run P w=.ok a' w1/\Q q a a'/\Mv (fun r=>W.testBit r=true) p H.n w q H1.n w1/\Rl P S (cK P S) q H1.get Fp w1:=by
 obtain⟨a',w1,q,c1,c2,c3,c4⟩:=jz (P:=P) (F:=P.funcs) s (h hr.ok) e hr hg hn (fun r x=>.inr (hF r x));exact⟨a',w1,q,c1,c2,c3,c4.mono fun r x=>.inl x⟩
theorem ga {tm:Array Value} (h1:tm.size=T.length) (h2:∀x,VR S p (bt T x) (tm.getD x undef)):AR S p T.toArray tm:=by
 refine⟨by simp[h1],fun i v v' hv mC=>?_⟩
 have e1:bt T i=v:=by
  have:∀(L:List Value) i,L[i]?=some v->bt L i=v:=by
   intro L;induction L with
   |nil=>intro i h;simp at h
   |cons y L ih=>intro i h;cases i with
    |zero=>simpa [bt]using h
    |succ i=>exact ih i (by simpa using h)
  exact this T i (by simpa using hv)
 have:=h2 i;rw[e1,Array.getD_eq_getD_getElem?,mC]at this;exact this
theorem SR.dZ {K:Kz} (hb:nV P P.funcs S) {r r':Operand->Value} (hE:pK P S p r r') (hf:fX P S f=true) (hl:p l l'):
 SR P P.funcs S K 0 (QX S K) (au.dZ r f l) (au.dZ r' f l') p:=by
 have e:∀(r:Operand->Value),(∀v,r (.const v)=v)->∀l,au.dZ r f l=(Deferred.ofValue (r f) #[.func (.yield l) #[] #[]]>>=fun d=>invoke d.target d.args):=fun r hr l=>by
  unfold au.dZ resolve;simp[hr]
 rw[e r (fun v=>(hE.const v).1),e r' (fun v=>(hE.const v).2)];exact SR.kh hb (hE.at hf) (AR.one (VR.yield hl))
theorem Di (hk:Ok P P.funcs S) (eZ:iL P S (cK P S) (fun _ _=>False) ce) {ds:List Deferred}
 (e:m9 P ce ro b.fn f params assign body T ds H=some (j,T1,f7,H1,R,W)) (hf:fX P S f=true) (ha:cE P S assign=true) (hb:cE P S body=true) (hS:S b.fn=true)
 {tm:Array Value} {jp:List Deferred} {w:World} {k:List Item} (ou:RR p ro b.roundOf) (bF:Ik P S Fp p H T ds tm jp w) (hn:∀r,H.n<=r->r<H1.n->∀r',¬p r r') (hF:∀r,(R.testBit r=true\/W.testBit r=true)->Fp r):
 Fv P S Fp b cs k p H.n w (lone (aY b tm jp (.code (.rangeFunc f params assign body)::k)) cs w) j T1 f7 H1 W:=by
 unfold m9 at e;split at e<;>try(cases e;done)
 rename_i l mark Ha Ra Wa e1;split at e<;>try(cases e;done)
 rename_i nx Hb Rb Wb e2;split at e<;>try(cases e;done)
 rename_i v Hc Rc Wc e3;split at e<;>try(cases e;done)
 rename_i j' Hd Rd Wd e4;cases hj:VL j'<;>rw[hj]at e<;>simp only[cond_true,cond_false]at e
 .cases e
 simp only[Option.some.injEq,Prod.mk.injEq]at e;obtain⟨rfl,rfl,rfl,rfl,rfl,rfl⟩:=e;have f1:=ba P _ e1;have f2:=ba P _ e2;have f3:=eZ.ft _ _ _ _ _ _ e3;have f4:=ba P _ e4;have n1:=f1.nn;have n2:=f2.nn;have n3:=f3.nn;have n4:=f4.nn
 obtain⟨⟨l',qI⟩,w1,q1,a1,⟨a2,a3⟩,a4,a5⟩:=fT (SR.enterLoop (K:=cK P S) (f:=b.fn) (f':=b.fn) rfl hS (show cE P S _=true from rfl) (ga bF.sz bF.tr) params ha hb ou) e1 bF.rl bF.hg (fun r x y=>hn r x (by omega)) (eT hF);have xl:=aW hn a4;have hE:=Na (b:=b) (ds:=qI++jp) (k:=.inRangeFunc l'::k) (bF.gl.mono a4.le) (τ:=bt T) (tm:=tm) fun x=>(bF.tr x).mono a4.le;obtain⟨sw,w2,q2,b1,b2,b3,b4⟩:=fT (s':=dZ (aY b tm (qI++jp) (.inRangeFunc l'::k)).eval f l') (SR.dZ hk.lP hE hf a2) e2 a5 (by have:=bF.hg;omega) (fun r x y=>xl r x (by omega)) (eT (bK hF));have zb:=aW xl b3;rcases eZ.run _ _ _ _ _ _ e3 q2 Fp w2 sw (aY b tm (qI++jp) (.inRangeFunc l'::k)) cs b2 b4 ((bF.gl.mono a4.le).mono b3.le) (by have:=bF.hg;omega) (fun r x y=>zb r x (by omega)) (eT (bK (bK hF)))with⟨g,v',w3,c1,c2,q3,c3,c4,c5⟩|⟨_,_,_,_,_,h⟩
 rotate_left
 .exact h.elim
 have Pj:=aW zb c4;obtain⟨j2,w4,q4,d1,⟨d2,d3⟩,d4,d5⟩:=fT (SR.endLoop (c4.le _ _ (b3.le _ _ a2))) e4 (c5.mono fun r x=>.inl x) (by have:=bF.hg;omega) (fun r x y=>Pj r x (by omega)) (bK (bK (bK hF)));subst d2;have qS:(aY b tm (qI++jp) (.inRangeFunc l'::k)).finish v'=aY b tm (qI++jp) (.endRangeFunc l'::k):=rfl;rw[qS]at c2;refine⟨tm,qI++jp,w4,q4,(j'.map Item.code).toList++k,.head (Fu a1 b1 c1) (c2.trans (.one (xC d1))),a4.or (b3.or (c4.or d4)),⟨bF.sz,d5,fun x=>((((bF.tr x).mono a4.le).mono b3.le).mono c4.le).mono d4.le,DL.append (((a3.mono b3.le).mono c4.le).mono d4.le) ((((bF.dl.mono a4.le).mono b3.le).mono c4.le).mono d4.le),(((bF.gl.mono a4.le).mono b3.le).mono c4.le).mono d4.le,by have:=bF.hg;omega⟩,?_⟩;cases j' with
 |none=>rfl
 |some c=>cases c<;>first|(cases hj;done)|exact⟨k,rfl⟩|exact⟨k,rfl,rfl⟩
theorem Fv.of_steps {k:List Item} {w:World} {m':Machine} (h:Steps P m m') (g:Fv P S Fp b cs k p n w m' j T1 f7 H1 W):Fv P S Fp b cs k p n w m j T1 f7 H1 W:=by
 obtain⟨br,lB,w',q,todo,a,c⟩:=g;exact⟨br,lB,w',q,todo,h.trans a,c⟩
theorem Aa {m1 f:Machine} (h:Steps P m f) (hs:step P m=.next m1) (bA:m≠f):Steps P m1 f:=by
 obtain⟨n,hn⟩:=h;cases n with
 |zero=>
  simp only[runN]at hn;cases hn;exact absurd rfl bA
 |succ n=>
  simp only[runN,hs]at hn;exact⟨n,hn⟩
theorem ky (hk:Ok P P.funcs S) (eZ:iL P S (cK P S) (fun _ _=>False) ce) (ro:Option Nat) (hS:S b.fn=true):∀(n:Nat) (sc:Option Code) (c:Code) (T:List Value) (ds:List Deferred) (H:Hp) (j:Option Code) (T1:List Value) (f7:List Deferred) (H1:Hp) (R W:Nat),
 iM P (et P) ce ro b.fn n sc c T ds H=some (j,T1,f7,H1,R,W)->cE P S c=true->(∀x,sc=some x->cE P S x=true)->∀(p:Pi) (tm:Array Value) (jp:List Deferred) (w:World) (k:List Item),RR p ro b.roundOf->Ik P S Fp p H T ds tm jp w->
 (∀r,H.n<=r->r<H1.n->∀r',¬p r r')->(∀r,(R.testBit r=true\/W.testBit r=true)->Fp r)->
 Fv P S Fp b cs k p H.n w (lone (aY b tm jp (.code c::(match sc with|none=>k|some x=>.inScope x::k))) cs w) j T1 f7 H1 W:=by
 intro n;induction n with
 |zero=>intro sc c T ds H j T1 f7 H1 R W e;simp[iM]at e
 |succ n ih=>
  intro sc c T ds H j T1 f7 H1 R W e hc Jj p tm jp w k ou bF hn hF
  have two:∀{sc2 c2 T2 wi H2 R2 W2 m k2},Ft H R2 W2 H2->Fv P S Fp b cs k2 p H.n w m none T2 wi H2 W2->k2=(.code c2::(match sc2 with|none=>k|some x=>.inScope x::k))->pp R2 W2 (iM P (et P) ce ro b.fn n sc2 c2 T2 wi H2)=some (j,T1,f7,H1,R,W)->cE P S c2=true->(∀x,sc2=some x->cE P S x=true)->
   Fv P S Fp b cs k p H.n w m j T1 f7 H1 W:=by
   intro sc2 c2 T2 wi H2 R2 W2 m k2 zc Ni pR Ab EN VM;obtain⟨R3,W3,e3,rfl,rfl⟩:=jA Ab;obtain⟨br,lB,w',q,todo,g1,g2,g3,g4⟩:=Ni;have g4:todo=k2:=g4;subst g4;subst pR;obtain⟨hY,Jr,w2,q2,tV,k1,k2,k3,k4⟩:=ih sc2 c2 T2 wi H2 j T1 f7 H1 R3 W3 e3 EN VM q br lB w' k (ou.mono g2.le) g3 (aW hn g2) (bK hF);exact⟨hY,Jr,w2,q2,tV,g1.trans k1,g2.or k2,k3,k4⟩
  have Nj:∀{sc2 c2 R3 W3 T3 TU H3},pp R3 W3 (iM P (et P) ce ro b.fn n sc2 c2 T3 TU H3)=some (j,T1,f7,H1,R,W)->H3.n<=H1.n/\∀r,(R3.testBit r=true\/W3.testBit r=true)->Fp r:=by
   intro sc2 c2 R3 W3 T3 TU H3 Ab;obtain⟨R4,W4,e4,rfl,rfl⟩:=jA Ab;exact⟨(eS eZ _ _ _ _ _ _ _ _ _ _ _ _ _ _ e4).1.nn,eT hF⟩
  have here:∀{todo m},Steps P m (lone (aY b tm jp todo) cs w)->some (j,T,ds,H,0,0)=some (j,T1,f7,H1,R,W)->rj j k todo->Fv P S Fp b cs k p H.n w m j T1 f7 H1 W:=by
   intro todo m hs e he;simp only[Option.some.injEq,Prod.mk.injEq]at e;obtain⟨_,rfl,rfl,rfl,rfl,rfl⟩:=e;exact⟨tm,jp,w,p,todo,hs,Mv.refl _ _ _ _,bF,he⟩
  cases sc with
  |some sc=>
   simp only[iM]at e;have VN:=Jj sc rfl
   have pop:∀{j2 T2 wi H2 W2},Fv P S Fp b cs (.inScope sc::k) p H.n w (lone (aY b tm jp (.code c:: .inScope sc::k)) cs w) j2 T2 wi H2 W2->(∀l,j2=some (.goto l)->findLabel sc l=none)->Fv P S Fp b cs k p H.n w (lone (aY b tm jp (.code c:: .inScope sc::k)) cs w) j2 T2 wi H2 W2:=by
    intro j2 T2 wi H2 W2 ⟨br,lB,w',q,todo,g1,g2,g3,g4⟩ Dj;cases j2 with
    |none=>
     have g4:todo=_:=g4;subst g4;exact⟨br,lB,w',q,k,g1.trans (.one zY),g2,g3,rfl⟩
    |some c2=>
     refine⟨br,lB,w',q,todo,g1,g2,g3,?_⟩;cases c2<;>try exact g4
     .rename_i l;obtain⟨k2,h1,h2⟩:=g4;refine⟨k2,h1,h2.trans ?_⟩;show(match findLabel sc l with|some rest=>(some (Item.code rest::Item.inScope sc::k):Option (List Item))|none=>gotoIn l k)=_;rw[Dj l rfl]
   split at e
   .rename_i l T2 wi H2 R2 W2 e1;split at e
    .rename_i rest Dj;have⟨x1,x2⟩:=Nj e;have Ni:=ih none c T ds H _ T2 wi H2 R2 W2 e1 hc (fun _ h=>by cases h) p tm jp w (.inScope sc::k) ou bF (fun r a c=>hn r a (by omega)) x2;obtain⟨br,lB,w',q,todo,g1,g2,g3,k2,rfl,g5⟩:=Ni
     have g6:gotoIn l k2=some (.code rest:: .inScope sc::k):=by
      rw[g5];show(match findLabel sc l with|some rest=>(some (Item.code rest::Item.inScope sc::k):Option (List Item))|none=>gotoIn l k)=_;rw[Dj]
     exact two (sc2:=some sc) (eS eZ _ _ _ _ _ _ _ _ _ _ _ _ _ _ e1).1 ⟨br,lB,w',q,_,g1.trans (.one (Jn g6)),g2,g3,rfl⟩ rfl e (vg VN Dj) Jj
    .rename_i Dj;simp only[Option.some.injEq,Prod.mk.injEq]at e;obtain⟨rfl,rfl,rfl,rfl,rfl,rfl⟩:=e;exact pop (ih none c T ds H _ _ _ _ _ _ e1 hc (fun _ h=>by cases h) p tm jp w (.inScope sc::k) ou bF hn hF) fun l' h=>by cases h;exact Dj
   .rename_i im;refine pop (ih none c T ds H _ _ _ _ _ _ e hc (fun _ h=>by cases h) p tm jp w (.inScope sc::k) ou bF hn hF) fun l h=>?_;subst h;exact absurd e (im _ _ _ _ _ _)
  |none=>
   cases c with
   |skip=>
    simp only[iM,Option.some.injEq,Prod.mk.injEq]at e;obtain⟨rfl,e⟩:=e;exact here (.one qh) (by obtain⟨rfl,rfl,rfl,rfl,rfl⟩:=e;rfl) rfl
   |label l=>
    simp only[iM,Option.some.injEq,Prod.mk.injEq]at e;obtain⟨rfl,e⟩:=e;exact here (.one Ff) (by obtain⟨rfl,rfl,rfl,rfl,rfl⟩:=e;rfl) rfl
   |exit id=>
    simp only[iM,Option.some.injEq,Prod.mk.injEq]at e;obtain⟨rfl,e⟩:=e;exact here (.refl _ _) (by obtain⟨rfl,rfl,rfl,rfl,rfl⟩:=e;rfl) ⟨k,rfl,rfl⟩
   |goto l=>
    simp only[iM,Option.some.injEq,Prod.mk.injEq]at e;obtain⟨rfl,e⟩:=e;exact here (.refl _ _) (by obtain⟨rfl,rfl,rfl,rfl,rfl⟩:=e;rfl) ⟨k,rfl,rfl⟩
   |ret=>
    simp only[iM,Option.some.injEq,Prod.mk.injEq]at e;obtain⟨rfl,e⟩:=e;exact here (.refl _ _) (by obtain⟨rfl,rfl,rfl,rfl,rfl⟩:=e;rfl) ⟨k,rfl⟩
   |refuse w=>simp[iM]at e
   |region id ops draw=>
    simp only[iM]at e;split at e<;>try(cases e;done)
    rename_i T2 H2 R2 W2 e1;simp only[Option.some.injEq,Prod.mk.injEq]at e;obtain⟨rfl,rfl,rfl,rfl,rfl,rfl⟩:=e;rcases m8 hk (QR P S) eZ hc e1 bF.hg hF bF.sz bF.rl bF.tr bF.gl hn id b jp k cs with⟨br,w',q,a1,a2,a3,a4,a5⟩|⟨_,_,_,_,_,h⟩
    .exact⟨br,jp,w',q,k,a1,a3,⟨a2.trans (dR eZ e1).2.symm,a4,a5,bF.dl.mono a3.le,bF.gl.mono a3.le,Nat.le_trans bF.hg a3.nn⟩,rfl⟩
    .exact h.elim
   |seq a c=>
    simp only[cE,Bool.and_eq_true]at hc;simp only[iM]at e;split at e
    .rename_i T2 wi H2 R2 W2 e1;have⟨x1,x2⟩:=Nj e;exact(two (sc2:=none) (eS eZ _ _ _ _ _ _ _ _ _ _ _ _ _ _ e1).1 (ih none a T ds H _ _ _ _ _ _ e1 hc.1 (fun _ h=>by cases h) p tm jp w (.code c::k) ou bF (fun r a c=>hn r a (by omega)) x2) rfl e hc.2 fun _ h=>by cases h).of_steps (.one dq)
    .rename_i im;obtain⟨br,lB,w',q,todo,g1,g2,g3,g4⟩:=ih none a T ds H _ _ _ _ _ _ e hc.1 (fun _ h=>by cases h) p tm jp w (.code c::k) ou bF hn hF;cases j with
     |none=>exact absurd e (im _ _ _ _ _)
     |some c2=>exact⟨br,lB,w',q,todo,.head dq g1,g2,g3,g4.pass (c:=c2) (x:=.code c) rfl rfl⟩
   |cond x a c=>
    simp only[cE,Bool.and_eq_true]at hc;simp only[iM]at e;split at e<;>try(cases e;done)
    rename_i t ht;have hE:=(Na (b:=b) (ds:=jp) (k:=.code (.cond x a c)::k) bF.gl bF.tr).at hc.1.1
    have hx:(aY b tm jp (.code (.cond x a c)::k)).eval x=.bool t:=by
     rw[ht]at hE;generalize(aY b tm jp (.code (.cond x a c)::k)).eval x=y at hE;cases hE;rfl
    refine Fv.of_steps (.one (kX hx)) ?_;rw[show(if t=true then a else c)=(bif t then a else c) by cases t<;>rfl];exact ih none _ T ds H _ _ _ _ _ _ e (by cases t;exact hc.2;exact hc.1.2) (fun _ h=>by cases h) p tm jp w k ou bF hn hF
   |block id a=>
    simp only[iM]at e;split at e
    .rename_i i T2 wi H2 R2 W2 e1;cases hb:Nat.beq i id<;>rw[hb]at e<;>simp only[cond_true,cond_false,Option.some.injEq,Prod.mk.injEq]at e<;>obtain⟨rfl,rfl,rfl,rfl,rfl,rfl⟩:=e
     .obtain⟨br,lB,w',q,todo,g1,g2,g3,k2,g4,g5⟩:=ih none a T ds H _ _ _ _ _ _ e1 hc (fun _ h=>by cases h) p tm jp w (.inBlock id::k) ou bF hn hF;refine⟨br,lB,w',q,todo,.head mX g1,g2,g3,k2,g4,g5.trans ?_⟩;show(if id==i then some k else exitTo i k)=_;rw[if_neg];intro h;have:id=i:=by simpa using h
      subst this;rw[Nat.beq_refl]at hb;cases hb
     .have:i=id:=Nat.eq_of_beq_eq_true hb;subst this;obtain⟨br,lB,w',q,todo,g1,g2,g3,k2,rfl,g5⟩:=ih none a T ds H _ _ _ _ _ _ e1 hc (fun _ h=>by cases h) p tm jp w (.inBlock i::k) ou bF hn hF;refine⟨br,lB,w',q,k,.head mX (g1.trans (.one (Jm ?_))),g2,g3,rfl⟩;rw[g5];show(if i==i then some k else exitTo i k)=_;simp
    .rename_i im;obtain⟨br,lB,w',q,todo,g1,g2,g3,g4⟩:=ih none a T ds H _ _ _ _ _ _ e hc (fun _ h=>by cases h) p tm jp w (.inBlock id::k) ou bF hn hF;cases j with
     |none=>
      have g4:todo=_:=g4;subst g4;exact⟨br,lB,w',q,k,.head mX (g1.trans (.one zX)),g2,g3,rfl⟩
     |some c2=>
      refine⟨br,lB,w',q,todo,.head mX g1,g2,g3,?_⟩;cases c2<;>try exact g4
      exact absurd e (im _ _ _ _ _ _)
   |loop a=>
    simp only[iM]at e;split at e
    .rename_i T2 wi H2 R2 W2 e1;have⟨x1,x2⟩:=Nj e;obtain⟨R3,W3,e3,rfl,rfl⟩:=jA e;obtain⟨br,lB,w',q,todo,g1,g2,g3,g4⟩:=ih none a T ds H _ _ _ _ _ _ e1 hc (fun _ h=>by cases h) p tm jp w (.inLoop a::k) ou bF (fun r a c=>hn r a (by omega)) x2;have g4:todo=_:=g4;subst g4;obtain⟨hY,Jr,w2,q2,tV,k1,k2,k3,k4⟩:=ih none (.loop a) T2 wi H2 j T1 f7 H1 R3 W3 e3 hc (fun _ h=>by cases h) q br lB w' k (ou.mono g2.le) g3 (aW hn g2) (bK hF);refine⟨hY,Jr,w2,q2,tV,.head uW (g1.trans (.head Da (Aa k1 uW fun hm=>?_))),g2.or k2,k3,k4⟩
     have h1:(aY b br lB (.code (.loop a)::k)).todo=(aY b hY Jr tV).todo:=by
      have:=congrArg (fun m:Machine=>(m.gs[0]?).map fun g=>g.frame.todo) hm;simpa [lone]using this
     have h1:.code (.loop a)::k=tV:=h1;cases j with
     |none=>
      have k4:tV=k:=k4;have:=congrArg List.length (h1.trans k4);simp at this
     |some c=>
      cases c<;>try exact k4.elim
      all_goals(obtain⟨k9,k5⟩:=k4;first|(rw[<-h1]at k5;simp at k5;done)|(rw[<-h1]at k5;have k6:=k5.1;simp at k6;done))
    .rename_i im;obtain⟨br,lB,w',q,todo,g1,g2,g3,g4⟩:=ih none a T ds H _ _ _ _ _ _ e hc (fun _ h=>by cases h) p tm jp w (.inLoop a::k) ou bF hn hF;cases j with
     |none=>exact absurd e (im _ _ _ _ _)
     |some c2=>exact⟨br,lB,w',q,todo,.head uW g1,g2,g3,g4.pass (c:=c2) (x:=.inLoop a) rfl rfl⟩
   |scope a=>
    simp only[iM]at e;exact(ih (some a) a T ds H _ _ _ _ _ _ e hc (fun x h=>by cases h;exact hc) p tm jp w k ou bF hn hF).of_steps (.one Fg)
   |rangeFunc f params assign body=>
    simp only[cE,Bool.and_eq_true]at hc;simp only[iM]at e;exact Di hk eZ e hc.1.1 hc.1.2 hc.2 hS ou bF hn hF
end
def sO (b:Frame) (tm:Array Value) (ds:List Deferred) (todo:List Item):Frame:={aY b tm ds todo with mode:=.returning}
section
variable {P:Program} {b:Frame} {tm:Array Value} {ds:List Deferred} {todo:List Item} {cs:List Frame} {w:World}
theorem tW {fr QG:Frame} {jn:List Frame} {w':World} (hm:fr.mode=.returning) (h:(unwind P true fr cs none w).bare=.go {frame:=QG,callers:=jn,status:=.running,dying:=none} w'):
 step P (lone fr cs w)=.next (lone QG jn w'):=by
 refine step_lone_go ?_;rw[<-h];obtain⟨fn,tmps,todo,ds,mode,kind,ro⟩:=fr;simp only at hm;subst hm;rfl
theorem Js {r:Nat} (h:(Instr.takeDeferred r).run P w=.ok [] w1):step P (lone (sO b tm ({target:=.collected r,args}::ds) todo) cs w)=.next (lone (sO b tm ds todo) cs w1):=by
 refine tW rfl ?_;unfold unwind;simp only[sO,aY,Sem.runT_eq,h,GStep.bare_after];rfl
theorem ow {fn:Func} (hf:P.funcs[b.fn]?=some fn) (QS:b.kind=.normal) (h:(results fn tm).run P w=.ok v w1) (c:Frame):step P (lone (sO b tm [] todo) (c::cs) w)=.next (lone (c.finish v) cs w1):=by
 refine tW rfl ?_;unfold unwind;simp only[sO,aY,hf,Sem.runT_eq,h,GStep.bare_after];unfold doReturn;simp only[QS];rfl
theorem kz (hj:xB j=true) (h:rj j [] todo) (ou:b.roundOf=none):step P (lone (aY b tm ds todo) cs w)=.next (lone (sO b tm ds todo) cs w):=by
 refine bc rfl ?_;cases j with
 |none=>
  have h:todo=[]:=h;subst h;rw[Go.au.dM true rfl,Go.au.ir true (f:=aY b tm ds _) ou];rfl
 |some c=>
  cases c<;>try(cases hj;done)
  obtain⟨k2,rfl⟩:=h;rw[Go.au.dN true rfl,Go.au.ir true (f:=aY b tm ds _) ou];rfl
theorem sP (h:rj j [] todo) (ou:b.roundOf=some l) (QS:b.kind=.normal) (hr:(Instr.endRound l j).run P w=.ok v w1) (c:Frame):
 step P (lone (aY b tm ds todo) (c::cs) w)=.next (lone (c.finish v) cs w1):=by
 have fin:(Go.au.gq P true (aY b tm ds todo) (c::cs) j w).bare=.go {frame:=c.finish v,callers:=cs,status:=.running,dying:=none} w1:=by
  rw[Go.au.it true (f:=aY b tm ds todo) ou,GStep.bare_after];simp only[Sem.runT_eq,hr];unfold doReturn;simp only[aY,QS];rfl
 refine bc rfl ?_;cases j with
 |none=>
  have h:todo=[]:=h;subst h;rw[Go.au.dM true rfl];exact fin
 |some c=>
  cases c<;>try exact h.elim
  .obtain⟨k2,rfl,h2⟩:=h;rw[Go.au.dv true rfl,h2];exact fin
  .obtain⟨k2,rfl,h2⟩:=h;rw[Go.au.dw true rfl,h2];exact fin
  .obtain⟨k2,rfl⟩:=h;rw[Go.au.dN true rfl];exact fin
end
def Ac (P:Program) (S ex:Nat->Bool):Prop:=∀(f:Nat) (fn:Func) (body:Code),S f=true->ex f=false->P.funcs[f]?=some fn->fn.body=some body->cE P S body=true
section
variable {P:Program} {S:Nat->Bool} {Fp:Nat->Prop} {b:Frame} {cs:List Frame} {ce:Next->Hp->Rs Value}
theorem rk {todo:List Item} {tm:Array Value}:∀(ds:List Deferred) {H H1:Hp} {R W:Nat} {p:Pi} {jp:List Deferred} {w:World},iE P ds H=some ((),H1,R,W)->DL p ds jp->Rl P S (cK P S) p H.get Fp w->P.globals.size<=H.n->
 (∀r,H.n<=r->r<H1.n->∀r',¬p r r')->(∀r,(R.testBit r=true\/W.testBit r=true)->Fp r)->
 ∃w1 q,Steps P (lone (sO b tm jp todo) cs w) (lone (sO b tm [] todo) cs w1)/\Mv (fun r=>W.testBit r=true) p H.n w q H1.n w1/\Rl P S (cK P S) q H1.get Fp w1
 | [],H,H1,R,W,p,jp,w,e,hd,hr,hg,hn,hF=>by
   cases hd;simp only[iE,Option.some.injEq,Prod.mk.injEq,true_and]at e;obtain⟨rfl,rfl,rfl⟩:=e;exact⟨w,p,.refl _ _,Mv.refl _ _ _ _,hr⟩
 |d::ds,H,H1,R,W,p,jp,w,e,hd,hr,hg,hn,hF=>by
  cases hd with
  | @cons _ l' r r' h t=>
    simp only[iE]at e;split at e<;>try(cases e;done)
    rename_i x Ha Ra Wa e1;split at e<;>try(cases e;done)
    rename_i y Hb Rb Wb e2;simp only[Option.some.injEq,Prod.mk.injEq,true_and]at e;obtain⟨rfl,rfl,rfl⟩:=e;have n1:=(ba P _ e1).nn;have n2:=(hU _ _ _ _ _ e2).nn;obtain⟨a',w1,q1,a1,⟨_,rfl⟩,a3,a4⟩:=fT (SR.takeDeferred h) e1 hr hg (fun r x y=>hn r x (by omega)) (eT hF);obtain⟨w2,q2,b1,b2,b3⟩:=rk ds e2 (t.mono a3.le) a4 (by omega) (aW hn a3) (bK hF);exact⟨w2,q2,.head (Js a1) b1,a3.or b2,b3⟩
theorem pq (l:List Value) (n:Nat) (x:Nat):bt (l++List.replicate n undef) x=bt l x:=by
 induction l generalizing x with
 |nil=>
  have:∀(n x:Nat),bt (List.replicate n undef) x=undef:=by
   intro n;induction n with
   |zero=>intro x;rfl
   |succ n ih=>intro x;cases x with
    |zero=>rfl
    |succ x=>exact ih x
  rw[List.nil_append,this];rfl
 |cons y l ih=>cases x with
  |zero=>rfl
  |succ x=>exact ih x
theorem pr (a:Array Value) (x:Nat):bt a.toList x=a.getD x undef:=by
 rw[Array.getD_eq_getD_getElem?,<-Array.getElem?_toList];generalize a.toList=l;induction l generalizing x with
 |nil=>rfl
 |cons y l ih=>cases x with
  |zero=>rfl
  |succ x=>simpa [bt]using ih x
theorem kA (h:AR S p args bh) (n:Nat):
 (bh++Array.replicate (n-bh.size) undef).size=(args.toList++List.replicate (n-args.size) undef).length/\
 ∀x,VR S p (bt (args.toList++List.replicate (n-args.size) undef) x) ((bh++Array.replicate (n-bh.size) undef).getD x undef):=by
 refine⟨by simp[h.1],fun x=>?_⟩;rw[pq,pr]
 have:(bh++Array.replicate (n-bh.size) undef).getD x undef=bh.getD x undef:=by
  rw[Array.getD_eq_getD_getElem?,Array.getD_eq_getD_getElem?];rcases Nat.lt_or_ge x bh.size with hx|hx
  .rw[Array.getElem?_append_left hx]
  .rw[Array.getElem?_append_right hx,Array.getElem?_eq_none hx,Array.getElem?_replicate];split<;>rfl
 rw[this];exact h.getD x VR.undef
theorem Nk (hk:Ok P P.funcs S) (hB:Ac P S ex) (eZ:iL P S (cK P S) (fun _ _=>False) ce) {f:Nat} (e:z7 P (et P) ce n f args H=some (v,H1,R,W)) (hS:S f=true) (hx:ex f=false)
 {w:World} (ha:AR S p args bh) (hr:Rl P S (cK P S) p H.get Fp w) (hG:xu P S p) (hg:P.globals.size<=H.n) (hn:∀r,H.n<=r->r<H1.n->∀r',¬p r r') (hF:∀r,(R.testBit r=true\/W.testBit r=true)->Fp r) (fr:Frame):
 ∃v' w1 q,Steps P (lone (Frame.enter P f bh .normal) (fr::cs) w) (lone (fr.finish v') cs w1)/\VR S q v v'/\Mv (fun r=>W.testBit r=true) p H.n w q H1.n w1/\Rl P S (cK P S) q H1.get Fp w1:=by
 unfold z7 at e;split at e<;>try(cases e;done)
 rename_i fn sQ;split at e<;>try(cases e;done)
 rename_i body jb;split at e<;>try(cases e;done)
 rename_i j T1 f7 Ha Ra Wa e1;cases hj:xB j<;>rw[hj]at e<;>simp only[cond_true,cond_false]at e
 .cases e
 split at e<;>try(cases e;done)
 rename_i u Hb Rb Wb e2;split at e<;>try(cases e;done)
 rename_i x Hc Rc Wc e3;simp only[Option.some.injEq,Prod.mk.injEq]at e;obtain⟨rfl,rfl,rfl,rfl⟩:=e;have f1:=eS eZ _ _ _ _ _ _ _ _ _ _ _ _ _ _ e1;have n1:=f1.1.nn;have n2:=(hU _ _ _ _ _ e2).nn;have n3:=(ba P _ e3).nn;let b0:Frame:=Frame.enter P f bh .normal
 have QT:lone (Frame.enter P f bh .normal) (fr::cs) w=lone (aY b0 (bh++Array.replicate (fn.ntmps-bh.size) undef) [] [.code body]) (fr::cs) w:=by
  simp[b0,aY,Frame.enter,sQ,jb]
 rw[QT];obtain⟨s1,s2⟩:=kA ha fn.ntmps;obtain⟨br,lB,w1,q1,todo,a1,a2,a3,a4⟩:=ky (b:=b0) (cs:=fr::cs) hk eZ none hS n none body _ [] H j T1 f7 Ha Ra Wa e1 (hB f fn body hS hx sQ jb) (fun _ h=>by cases h) p _ [] w [] .none ⟨s1,hr,s2,.nil,hG,hg⟩ (fun r x y=>hn r x (by omega)) (eT hF);have xl:=aW hn a2;obtain⟨w2,q2,b1,b2,b3⟩:=rk (b:=b0) (cs:=fr::cs) (todo:=todo) (tm:=br) f7 e2 a3.dl a3.rl (by omega) (fun r x y=>xl r x (by omega)) (eT (bK hF));have zb:=aW xl b2;obtain⟨v',w3,q3,c1,c2,c3,c4⟩:=fT (SR.results (fn:=fn) (j8:=fn) rfl (ga a3.sz fun x=>(a3.tr x).mono b2.le)) e3 b3 (by omega) zb (bK (bK hF));exact⟨v',w3,q3,a1.trans (.head (kz hj a4 rfl) (b1.trans (.one (ow (b:=b0) sQ rfl c1 fr)))),c2,a2.or (b2.or c3),c4⟩
theorem Dk (hk:Ok P P.funcs S) (eZ:iL P S (cK P S) (fun _ _=>False) ce) {f:Nat} {qG:Array Value} (e:na P (et P) ce n l f tmps assign body H=some (v,H1,R,W)) (hS:S f=true) (VO:cE P S assign=true) (TV:cE P S body=true)
 {w:World} (hl:p l l') (ha:AR S p tmps qG) (hr:Rl P S (cK P S) p H.get Fp w) (hG:xu P S p) (hg:P.globals.size<=H.n) (hn:∀r,H.n<=r->r<H1.n->∀r',¬p r r') (hF:∀r,(R.testBit r=true\/W.testBit r=true)->Fp r) (fr:Frame):
 ∃v' w1 q,Steps P (lone (Frame.round l' f qG assign body .normal) (fr::cs) w) (lone (fr.finish v') cs w1)/\VR S q v v'/\Mv (fun r=>W.testBit r=true) p H.n w q H1.n w1/\Rl P S (cK P S) q H1.get Fp w1:=by
 unfold na at e;split at e<;>try(cases e;done)
 rename_i T1 f7 Ha Ra Wa e1;split at e<;>try(cases e;done)
 rename_i u Hb Rb Wb e2;split at e<;>try(cases e;done)
 rename_i j T3 TU Hc Rc Wc e3;split at e<;>try(cases e;done)
 rename_i x Hd Rd Wd e4;simp only[Option.some.injEq,Prod.mk.injEq]at e;obtain⟨rfl,rfl,rfl,rfl⟩:=e;have n1:=(eS eZ _ _ _ _ _ _ _ _ _ _ _ _ _ _ e1).1.nn;have n2:=(ba P _ e2).nn;have n3:=(eS eZ _ _ _ _ _ _ _ _ _ _ _ _ _ _ e3).1.nn;have n4:=(ba P _ e4).nn;let b0:Frame:=Frame.round l' f qG assign body .normal
 have s2:∀x,VR S p (bt tmps.toList x) (qG.getD x undef):=fun x=>by rw[pr];exact ha.getD x VR.undef
 obtain⟨gh,VP,w1,q1,QU,a1,a2,a3,a4⟩:=ky (b:=b0) (cs:=fr::cs) hk eZ (some l) hS n none assign _ [] H none T1 f7 Ha Ra Wa e1 VO (fun _ h=>by cases h) p qG [] w [.beginRound,.code body] (.some hl) ⟨by simp[ha.1],hr,s2,.nil,hG,hg⟩ (fun r x y=>hn r x (by omega)) (eT hF);have a4:QU=_:=a4;subst a4;have xl:=aW hn a2;obtain⟨u',w2,q2,b1,b2,b3,b4⟩:=fT (SR.beginRound (a2.le _ _ hl)) e2 a3.rl (by omega) (fun r x y=>xl r x (by omega)) (eT (bK hF));have zb:=aW xl b3;obtain⟨ox,zcP,w3,q3,ZE,c1,c2,c3,c4⟩:=ky (b:=b0) (cs:=fr::cs) hk eZ (some l) hS n none body _ f7 Hb j T3 TU Hc Rc Wc e3 TV (fun _ h=>by cases h) q2 gh VP w2 [] (.some (b3.le _ _ (a2.le _ _ hl))) ⟨a3.sz,b4,fun x=>(a3.tr x).mono b3.le,a3.dl.mono b3.le,a3.gl.mono b3.le,by omega⟩ (fun r x y=>zb r x (by omega)) (eT (bK (bK hF)));have Pj:=aW zb c2
 have hj:∀c,j=some c->cE P S c=true:=fun c hc=>by
  subst hc;cases c<;>first|rfl|exact c4.elim
 obtain⟨v',w4,q4,d1,d2,d3,d4⟩:=fT (SR.endRound (K:=cK P S) (c2.le _ _ (b3.le _ _ (a2.le _ _ hl))) j hj) e4 c3.rl (by omega) Pj (bK (bK (bK hF)));exact⟨v',w4,q4,a1.trans (.head (sN (b:=b0) rfl b1) (c1.trans (.one (sP (b:=b0) c4 rfl rfl d1 fr)))),d2,a2.or (b3.or (c2.or d3)),d4⟩
theorem Ad (hk:Ok P P.funcs S) (hB:Ac P S ex):∀n,iL P S (cK P S) (fun _ _=>False) (QP P ex n):=by
 intro n;induction n with
 |zero=>exact⟨fun nx H v H1 R W e=>by simp[QP,pQ]at e,fun nx H v H1 R W e=>by simp[QP,pQ]at e⟩
 |succ n ih=>
  refine⟨fun nx H v H1 R W e=>?_,fun nx H v H1 R W e p Fp w sw fr cs Er hr hG hg hn hF=>?_⟩
  .cases nx<;>simp only[QP,pQ]at e<;>try(cases e;done)
   .rename_i f args;cases hx:ex f<;>rw[hx]at e<;>simp only[cond_true,cond_false]at e
    .exact BL ih e
    .cases e
   .exact ri ih e
  .cases Er<;>simp only[QP,pQ]at e<;>try(cases e;done)
   .rename_i f xs cB hS ha;cases hx:ex f<;>rw[hx]at e<;>simp only[cond_true,cond_false]at e;rotate_left
    .cases e
    obtain⟨v',w1,q,a1,a2,a3,a4⟩:=Nk (cs:=cs) hk hB ih e hS hx ha hr hG hg hn hF fr;refine .inl ⟨_,v',w1,rfl,a1,q,a2,a3,a4.mono fun r x=>?_⟩;rcases x with x|⟨x,y⟩
    .exact x
    .exact hF r (.inr ((BL ih e).nw r x y))
   .rename_i l l' f xs cB a c hl hf ha VO TV _;obtain⟨v',w1,q,a1,a2,a3,a4⟩:=Dk (cs:=cs) hk ih e hf VO TV hl ha hr hG hg hn hF fr;refine .inl ⟨_,v',w1,rfl,a1,q,a2,a3,a4.mono fun r x=>?_⟩;rcases x with x|⟨x,y⟩
    .exact x
    .exact hF r (.inr ((ri ih e).nw r x y))
end
end Go.au
