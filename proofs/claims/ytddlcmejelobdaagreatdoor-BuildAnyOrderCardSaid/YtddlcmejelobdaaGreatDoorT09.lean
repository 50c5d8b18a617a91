/- A part. Conditions: none. -/
import Derived.Test.YtddlcmejelobdaaGreatDoorT07
import Derived.Test.YtddlcmejelobdaaGreatDoorT08
import Derived.Orders
set_option linter.all false
namespace Go.aC
variable {D:Nat->Bool} {Fp:Nat->Prop} {Hs:Nat->Hp} {T T1:List fu} {Ts:Nat->List fu} {b:Frame} {ds:List Deferred} {i j:Nat} {ops:Array Oper} {p:Pi} {r':Operand->fu} {tm:Array fu} {τ:Nat->fu}
def bS:List fu->Nat->fu
 | [],_=>undef
 |x::_,0=>x
 |_::l,n+1=>bS l n
def mP:List fu->Nat->fu->List fu
 | [],_,_=>[]
 |_::l,0,v=>v::l
 |x::l,n+1,v=>x::mP l n v
def jR:∀(l:List fu) (n:Nat) (v:fu),(mP l n v).length=l.length
 | [],_,_=>rfl
 |_::_,0,_=>rfl
 |_::l,n+1,v=>by simp[mP,jR l n v]
def xY:∀(l:List fu) (n:Nat) (v:fu) (m:Nat),bS (mP l n v) m=if m=n/\n<l.length then v else bS l m
 | [],n,v,m=>by simp[mP,bS]
 |x::l,0,v,0=>by simp[mP,bS]
 |x::l,0,v,m+1=>by simp[mP,bS]
 |x::l,n+1,v,0=>by simp[mP,bS]
 |x::l,n+1,v,m+1=>by simp[mP,bS,xY l n v m]
def Ct (τ:Nat->fu):Operand->fu
 |.tmp t=>τ t
 |.const v=>v
 |.global g=>.pointer (some ⟨g,0,none⟩)
 |.func f=>.func (.func f) #[] #[]
def tn (T:List fu) (dst:Option Tmp) (v:fu):List fu:=match dst with
 |some d=>mP T d v
 |none=>T
def dK (P:un) (ce:Next->Hp->Rs fu) (r:Operand->fu) (o:Oper) (H:Hp):Rs fu:=
 match mO P r o H with
 |some (.value v,H1,R,W)=>some (v,H1,R,W)
 |some (.skip,H1,R,W)=>some (undef,H1,R,W)
 |some (nx,H1,R,W)=>match ce nx H1 with
  |some (v,H2,R2,W2)=>some (v,H2,R|||R2,W|||W2)
  |none=>none
 |none=>none
def Cu (P:un) (S:Nat->Bool) (p:Pi):Prop:=∀g,g<P.globals.size->S (P.funcs.size+g)=true->p g g
def Cu.mono {P:un} {S:Nat->Bool} {q:Pi} (h:Cu P S p) (hq:Le p q):Cu P S q:=λg a b=>hq _ _ (h g a b)
def iU (P:un) (qe:List PanicEntry->nq->Prop) (b:Frame) (ds:List Deferred) (cs:List Frame) (m:Machine):Prop:=
 ∃tm todo chain w1,Steps P m (lone ((bB b tm ds todo).raise chain) cs w1)/\qe chain w1
def iU.of_steps {P:un} {qe:List PanicEntry->nq->Prop} {cs:List Frame} {m m':Machine} (h:Steps P m m') (t:iU P qe b ds cs m'):iU P qe b ds cs m:=
 let⟨tm,todo,chain,w1,a,e⟩:=t;⟨tm,todo,chain,w1,h.trans a,e⟩
structure ka (P:un) (S:Nat->Bool) (K:Kz) (qe:List PanicEntry->nq->Prop) (ce:Next->Hp->Rs fu):Prop where
 ft:∀nx H v H1 R W,ce nx H=some (v,H1,R,W)->Ft H R W H1
 run:∀nx H v H1 R W,ce nx H=some (v,H1,R,W)->∀(p:Pi) (Fp:Nat->Prop) (w:nq) (wC:Next) (fr:Frame) (cs:List Frame),NX S K p nx wC->Rl P S K p H.get Fp w->Cu P S p->P.globals.size<=H.n->
  (∀r,H.n<=r->r<H1.n->∀r',¬p r r')->(∀r,(R.testBit r=true\/W.testBit r=true)->Fp r)->
  (Zv P wC fr cs w λv' w1=>∃q,VR S q v v'/\Mv (λr=>W.testBit r=true) p H.n w q H1.n w1/\Rl P S K q H1.get (λr=>Fp r\/(H.n<=r/\r<H1.n)) w1)\/
  ∃g chain w1,rq P wC=some g/\Steps P (lone g (fr::cs) w) (lone (fr.raise chain) cs w1)/\qe chain w1
section
variable {P:un} {S:Nat->Bool} {K:Kz} {qe:List PanicEntry->nq->Prop} {ce:Next->Hp->Rs fu} {r:Operand->fu} {o:Oper} {H:Hp} {v:fu} {H1:Hp} {R W:Nat}
def xZ (e:dK P ce r o H=some (v,H1,R,W)):
 mO P r o H=some (.value v,H1,R,W)\/(mO P r o H=some (.skip,H1,R,W)/\v=undef)\/
 ∃nx Ha Ra Wa Rb Wb,mO P r o H=some (nx,Ha,Ra,Wa)/\ce nx Ha=some (v,H1,Rb,Wb)/\R=Ra|||Rb/\W=Wa|||Wb:=by
 unfold dK at e;split at e
 .rename_i h;simp only[zAA,zAH]at e;obtain⟨rfl,rfl,rfl,rfl⟩:=e;exact .inl h
 .rename_i h;simp only[zAA,zAH]at e;obtain⟨rfl,rfl,rfl,rfl⟩:=e;exact .inr (.inl ⟨h,rfl⟩)
 .rename_i h;split at e<;>try(cases e;done)
  rename_i h2;simp only[zAA,zAH]at e;obtain⟨rfl,rfl,rfl,rfl⟩:=e;exact .inr (.inr ⟨_,_,_,_,_,_,h,h2,rfl,rfl⟩)
 .cases e
def Mh (gV:ka P S K qe ce) (e:dK P ce r o H=some (v,H1,R,W)):Ft H R W H1:=by
 rcases xZ e with h|⟨h,_⟩|⟨nx,Ha,Ra,Wa,Rb,Wb,h,h2,rfl,rfl⟩
 .exact tL h
 .exact tL h
 .exact(tL h).trans (gV.ft _ _ _ _ _ _ h2)
def Fv {r:Operand->fu} (ho:jQ P S o.op=true) (h:∀x∈o.op.operands,r x=r' x):mO P r o H=mO P r' o H:=by
 have hs:∀cs b,o.op≠ .select cs b:=λcs b e=>by
  rw[e]at ho;simp[jQ,pN]at ho
 have e1:execOp r o=execOp r' o:=execOp_congr o hs h
 have e2:lP r o.op=lP r' o.op:=by
  unfold lP;split
  .rename_i b as ts cj;split
   .rename_i x hx;rw[h x (by rw[cj];simp only[Op.operands,Call.operands];exact Array.mem_append_right _ (zDE hx))]
   .rfl
  .rename_i t x lo hi mx cj;rw[h x (by rw[cj];simp[Op.operands])]
  .rfl
 unfold mO;rw[e1,e2];cases lP r' o.op<;>simp only[zAS,zAQ];split
 .rename_i t x lo hi mx cj;rw[h x (by rw[cj];simp[Op.operands])]
 .rename_i as ts cj;have:as.map r=as.map r':=Array.map_congr_left λx hx=>h x (by rw[cj];simp[Op.operands,Call.operands,hx]);rw[this]
 .rename_i s d x cj;rw[h x (by rw[cj];simp[Op.operands])]
 .rfl
def Cv {r:Operand->fu} (ho:jQ P S o.op=true) (h:∀x∈o.op.operands,r x=r' x):dK P ce r o H=dK P ce r' o H:=by
 unfold dK;rw[Fv ho h]
def Vm (hG:Cu P S p) {k:List Item} (hT:∀t,VR S p (τ t) (tm.getD t undef)):tg P S p (Ct τ) (bB b tm ds k).eval:=
 ⟨λt=>hT t,λv=>⟨rfl,rfl⟩,λg a c=>.ptr 0 none (hG g a c),λf=>⟨rfl,rfl⟩⟩
def Cx (ho:jQ P S o.op=true):qd o.op=true:=by
 cases h:o.op<;>first|rfl|(rw[h]at ho;simp[jQ,pN]at ho)
def Qd (hk:Ok P P.funcs S) (hZ:XU P K) (gV:ka P S K qe ce) {w:nq} (ho:ops[i]?=some o) (j6:jQ P S o.op=true) (hw:Region.wanted o (yielded ops tm)=true)
 (hT:∀t,VR S p (τ t) (tm.getD t undef)) (e:dK P ce (Ct τ) o H=some (v,H1,R,W)) (hr:Rl P S K p H.get Fp w) (hG:Cu P S p) (hg:P.globals.size<=H.n)
 (hn:∀r,H.n<=r->r<H1.n->∀r',¬p r r') (hF:∀r,(R.testBit r=true\/W.testBit r=true)->Fp r) (b:Frame) (ds:List Deferred) (rest:List Nat) (k:List Item) (cs:List Frame):
 (∃v' w1 q,Steps P (lone (bB b tm ds (.inRegion ops (i::rest)::k)) cs w) (lone (bB b (jo tm o.dst v') ds (.inRegion ops rest::k)) cs w1)/\VR S q v v'/\Mv (λr=>W.testBit r=true) p H.n w q H1.n w1/\Rl P S K q H1.get (λr=>Fp r\/(H.n<=r/\r<H1.n)) w1)\/
 iU P qe b ds cs (lone (bB b tm ds (.inRegion ops (i::rest)::k)) cs w):=by
 have hwf:ae P P.funcs=P:=rfl;have hex:=zZ (P:=P) (b:=b) (ds:=ds) (k:=k) (cs:=cs) (w:=w) (rest:=rest) ho hw (Cx j6);have hE:=Vm (b:=b) (ds:=ds) (k:=.inRegion ops (i::rest)::k) hG hT;rcases xZ e with h|⟨h,rfl⟩|⟨nx,Ha,Ra,Wa,Rb,Wb,h,h2,rfl,rfl⟩
 .obtain⟨wC,w1,q,c1,c2,c3,c4⟩:=oN hk hZ hE o j6 h hr hg hn λr x=>.inr (hF r x);cases c2 with
  | @value _ v' hv=>
    refine .inl ⟨v',w1,q,.one ?_,hv,c3,c4⟩;rw[<-kH v' ho];refine bG rfl ?_;rw[hex];exact(jp rfl c1).1 v' rfl
 .obtain⟨wC,w1,q,c1,c2,c3,c4⟩:=oN hk hZ hE o j6 h hr hg hn λr x=>.inr (hF r x);cases c2 with
  |skip=>
   refine .inl ⟨undef,w1,q,.one ?_,VR.undef,c3,c4⟩;rw[<-kH undef ho];refine bG rfl ?_;rw[hex];exact(jp rfl c1).2.1 rfl
 .have fa:=tL h;have fb:=gV.ft _ _ _ _ _ _ h2;have n1:=fa.nn;have n2:=fb.nn;obtain⟨wC,w1,q,c1,c2,c3,c4⟩:=oN hk hZ hE o j6 h hr hg (λr a1 a2=>hn r a1 (by omega)) (λr sb=>.inr (hF r (sb.imp (λx=>by rw[zAO,x];rfl) λx=>by rw[zAO,x];rfl)))
  have Zw:=gV.run _ _ _ _ _ _ h2 q (λr=>Fp r\/(H.n<=r/\r<Ha.n)) w1 wC (bB b tm ds (.inRegion ops (i::rest)::k)) cs c2 c4 (hG.mono c3.le) (by omega) (λr a1 a2 r' hq=>by
   rcases c3.new r r' hq with x|⟨_,x,_⟩
   .exact hn r (by omega) a2 r' x
   .omega) (λr sb=>.inl (hF r (sb.imp (λx=>by rw[zAO,x,zBW]) λx=>by rw[zAO,x,zBW])))
  rcases Zw with⟨g,v',w2,d1,d2,q2,d3,d4,d5⟩|⟨g,chain,w2,d1,d2,d3⟩
  rotate_left
  .refine .inr ⟨_,_,chain,w2,.head (bG rfl ?_) d2,d3⟩;rw[hex];exact(jp rfl c1).2.2 g d1
  refine .inl ⟨v',w2,q2,?_,d3,c3.trans d4 (λr x=>by rw[zAO,x];rfl) (λr x=>by rw[zAO,x,zBW]),d5.mono λr x=>?_⟩
  .rw[<-kH v' ho];refine .head (bG rfl ?_) d2;rw[hex];exact(jp rfl c1).2.2 g d1
  .rcases x with x|⟨a,b⟩
   .exact .inl (.inl x)
   .by_cases av:r<Ha.n
    .exact .inl (.inr ⟨a,av⟩)
    .exact .inr ⟨by omega,b⟩
end
section
variable {κ β:Type} (A:Nat->κ->β) (wr:Nat->κ->Bool)
def last (D:Nat->Bool):Nat->κ->β
 |0,k=>A 0 k
 |i+1,k=>if D i&&wr i k then A (i+1) k else last D i k
variable {A wr}
def tN {n:Nat} {k:κ} (hA:∀i,i<n->wr i k=false->A (i+1) k=A i k) (hi:i<=n) (h1:∀j,j<i->wr j k=true->D j=true) (h2:∀j,i<=j->j<n->wr j k=true->D j=false):
 last A wr D n k=A i k:=by
 have lo:∀m,m<=i->last A wr D m k=A m k:=by
  intro m;induction m with
  |zero=>intro _;rfl
  |succ m ih=>
   intro hm;simp only[last];cases hw:wr m k with
   |false=>simp only[Bool.and_false,zAN,zBJ];rw[ih (by omega),hA m (by omega) hw]
   |true=>rw[h1 m (by omega) hw];rfl
 have se:∀m,i<=m->m<=n->last A wr D m k=A i k:=by
  intro m;induction m with
  |zero=>intro a _;have:i=0:=by omega
         rw[this];rfl
  |succ m ih=>
   intro a b;by_cases e:i=m+1
   .rw[<-e];exact lo i (zAB i)
   .simp only[last];cases hw:wr m k with
    |false=>simp only[Bool.and_false,zAN,zBJ];exact ih (by omega) (by omega)
    |true=>rw[h2 m (by omega) (by omega) hw];simp only[zGL,zAN,zBJ];exact ih (by omega) (by omega)
 exact se n hi (zAB n)
def add (D:Nat->Bool) (i:Nat):Nat->Bool:=λj=>j==i||D j
def z6 {k:κ} (h:wr i k=false):∀n,last A wr (add D i) n k=last A wr D n k:=by
 intro n;induction n with
 |zero=>rfl
 |succ n ih=>
  simp only[last,ih];by_cases e:n=i
  .subst e;rw[h];simp
  .have:add D i n=D n:=by simp[add,e]
   rw[this]
def Hu {k:κ} (h:wr i k=true):∀n,i<n->(∀j,i<j->j<n->wr j k=true->D j=false)->last A wr (add D i) n k=A (i+1) k:=by
 intro n;induction n with
 |zero=>intro a _;omega
 |succ n ih=>
  intro a b;simp only[last];by_cases e:n=i
  .subst e;rw[h];simp[add]
  .have e2:add D i n=D n:=by simp[add,e]
   rw[e2];cases hw:wr n k with
   |false=>simp only[Bool.and_false,zAN,zBJ];exact ih (by omega) λj x y=>b j x (by omega)
   |true=>rw[b n (by omega) (by omega) hw];simp only[zGL,zAN,zBJ];exact ih (by omega) λj x y=>b j x (by omega)
end
def jq (ops:Array Oper) (τ:Nat->fu) (j:Nat):Option Bool:=
 match(ops[j]?).bind (·.dst)with
 |some d=>match τ d with
  |.bool b=>some b
  |_=>none
 |none=>none
def qf (P:un) (ce:Next->Hp->Rs fu) (ops:Array Oper) (i:Nat) (T:List fu) (H:Hp):Rs (List fu):=
 match ops[i]? with
 |none=>none
 |some o=>bif Region.wanted o (jq ops (bS T))then match dK P ce (Ct (bS T)) o H with
   |some (v,H1,R,W)=>some (tn T o.dst v,H1,R,W)
   |none=>none
  else some (tn T o.dst undef,H,0,0)
def sv (T:List fu) (d:Option Tmp) (v:fu):(tn T d v).length=T.length:=by
 cases d<;>simp[tn,jR]
def x9 (T:Array fu) (d:Option Tmp) (v:fu):(jo T d v).size=T.size:=by
 cases d<;>simp[jo]
def rr (T:List fu) (d:Option Tmp) (v:fu) (t:Nat):bS (tn T d v) t=if d=some t/\t<T.length then v else bS T t:=by
 cases d with
 |none=>simp[tn]
 |some d=>
  simp only[tn,xY,zAA];by_cases e:d=t
  .subst e;simp
  .have:¬t=d:=λh=>e h.symm;simp[e,this]
def yc (T:Array fu) (d:Option Tmp) (v:fu) (t:Nat):(jo T d v).getD t undef=if d=some t/\t<T.size then v else T.getD t undef:=by
 cases d with
 |none=>simp[jo]
 |some d=>
  simp only[jo,zAA,zAX,zBT];by_cases e:d=t
  .subst e;by_cases h:d<T.size<;>simp[h]
  .simp[e]
section
variable {P:un} {S:Nat->Bool} {K:Kz} {qe:List PanicEntry->nq->Prop} {ce:Next->Hp->Rs fu}
def JB {o:Oper} (h:∀g b d,o.guard=some (g,b)->(ops[g]?).bind (·.dst)=some d->VR S p (τ d) (tm.getD d undef)):
 Region.wanted o (yielded ops tm)=Region.wanted o (jq ops τ):=by
 unfold Region.wanted;cases hg:o.guard with
 |none=>rfl
 |some gb=>
  obtain⟨g,b⟩:=gb;simp only
  have:yielded ops tm g=jq ops τ g:=by
   unfold yielded jq;cases hd:(ops[g]?).bind (·.dst)with
   |none=>rfl
   |some d=>
    have hv:=h g b d hg hd;simp only[zDP];rw[zAX]at hv;cases hx:tm[d]? with
    |none=>
     rw[hx]at hv;simp only[Option.getD_none]at hv;generalize τ d=x at hv;cases hv<;>first|rfl|(rename_i h;cases h)
    |some y=>
     rw[hx]at hv;simp only[zAC]at hv;generalize τ d=x at hv;cases hv<;>first|rfl|(rename_i h;cases y<;>first|rfl|cases h)
  rw[this]
def kI {H:Hp} {H1:Hp} {R W:Nat} (e:qf P ce ops i T H=some (T1,H1,R,W)):
 ∃o,ops[i]?=some o/\((Region.wanted o (jq ops (bS T))=true/\∃v,dK P ce (Ct (bS T)) o H=some (v,H1,R,W)/\T1=tn T o.dst v)\/
  (Region.wanted o (jq ops (bS T))=false/\T1=tn T o.dst undef/\H1=H/\R=0/\W=0)):=by
 unfold qf at e;split at e
 .cases e
 .rename_i o ho;refine⟨o,ho,?_⟩;cases hw:Region.wanted o (jq ops (bS T))<;>rw[hw]at e<;>simp only[zAS,zAQ]at e
  .simp only[zAA,zAH]at e;obtain⟨rfl,rfl,rfl,rfl⟩:=e;exact .inr ⟨rfl,rfl,rfl,rfl,rfl⟩
  .split at e<;>try(cases e;done)
   rename_i v H2 R2 W2 ha;simp only[zAA,zAH]at e;obtain⟨rfl,rfl,rfl,rfl⟩:=e;exact .inl ⟨rfl,v,ha,rfl⟩
def qg (gV:ka P S K qe ce) {H:Hp} {H1:Hp} {R W:Nat} (e:qf P ce ops i T H=some (T1,H1,R,W)):Ft H R W H1:=by
 obtain⟨o,_,h⟩:=kI e;rcases h with⟨_,v,h,_⟩|⟨_,_,rfl,rfl,rfl⟩
 .exact Mh gV h
 .exact Ft.refl _
structure XW (P:un) (ce:Next->Hp->Rs fu) (ops:Array Oper) (Ts:Nat->List fu) (Hs:Nat->Hp) (R W:Nat->Nat):Prop where
 one:∀i,i<ops.size->qf P ce ops i (Ts i) (Hs i)=some (Ts (i+1),Hs (i+1),R i,W i)
def Good (Fo:Nat->Nat->Prop) (n:Nat):(Nat->Bool)->List Nat->Prop
 |D,[]=>∀i,i<n->D i=true
 |D,i::l=>i<n/\D i=false/\(∀a,Fo a i->D a=true)/\Good Fo n (add D i) l
def Ep (W:Nat->Nat) (i r:Nat):Bool:=(W i).testBit r
def Er (ops:Array Oper) (i t:Nat):Bool:=(ops[i]?).bind (·.dst)==some t
def Zx (R W:Nat->Nat) (i j:Nat):Prop:=∀r,((W i).testBit r=true->(R j).testBit r=false/\(W j).testBit r=false)/\((W j).testBit r=true->(R i).testBit r=false)
def XW.Mi {R W:Nat->Nat} (t:XW P ce ops Ts Hs R W) (gV:ka P S K qe ce) (hj:j<=ops.size) (h:i<=j):(Hs i).n<=(Hs j).n:=by
 induction j with
 |zero=>have:i=0:=by omega
        subst this;exact zAB _
 |succ j ih=>
  by_cases e:i=j+1
  .subst e;exact zAB _
  .exact zAP (ih (by omega) (by omega)) (qg gV (t.one j (by omega))).nn
def XW.length {R W:Nat->Nat} (t:XW P ce ops Ts Hs R W) (hj:j<=ops.size):(Ts j).length=(Ts 0).length:=by
 induction j with
 |zero=>rfl
 |succ j ih=>
  rw[<-ih (by omega)];obtain⟨o,_,h⟩:=kI (t.one j (by omega));rcases h with⟨_,v,_,h⟩|⟨_,h,_⟩<;>rw[h,sv]
def Qe (hk:Ok P P.funcs S) (hZ:XU P K) (gV:ka P S K qe ce) (um:∀(i:Nat) (o:Oper),ops[i]?=some o->jQ P S o.op=true)
 {R W:Nat->Nat} (t:XW P ce ops Ts Hs R W) {Fo:Nat->Nat->Prop}
 (hm:∀i j,i<j->j<ops.size->Fo i j\/Zx R W i j) (ht:∀(i j:Nat) (oi oj:Oper),i<j->ops[i]?=some oi->ops[j]?=some oj->Fo i j\/oi.apart ops oj=true)
 (hg:P.globals.size<=(Hs 0).n) (hFp:∀i,i<ops.size->∀r,((R i).testBit r=true\/(W i).testBit r=true)->Fp r) (b:Frame) (ds:List Deferred) (k:List Item) (cs:List Frame):
 ∀(l:List Nat) (D:Nat->Bool) (p:Pi) (tm:Array fu) (w:nq),Good Fo ops.size D l->(∀a c,Fo a c->D c=true->D a=true)->tm.size=(Ts 0).length->
  Rl P S K p (last (λi=>(Hs i).get) (Ep W) D ops.size) Fp w->(∀x,VR S p (last (λi=>bS (Ts i)) (Er ops) D ops.size x) (tm.getD x undef))->Cu P S p->
  (∀j,j<ops.size->D j=false->∀r,(Hs j).n<=r->r<(Hs (j+1)).n->∀r',¬p r r')->
  (∃bR w' q,Steps P (lone (bB b tm ds (.inRegion ops l::k)) cs w) (lone (bB b bR ds (.inRegion ops []::k)) cs w')/\bR.size=(Ts 0).length/\
    Mv (λr=>∃i,i<ops.size/\(W i).testBit r=true) p (Hs 0).n w q (Hs ops.size).n w'/\Rl P S K q (Hs ops.size).get Fp w'/\∀x,VR S q (bS (Ts ops.size) x) (bR.getD x undef))\/
  iU P qe b ds cs (lone (bB b tm ds (.inRegion ops l::k)) cs w):=by
 have mono:=λi j=>t.Mi (i:=i) (j:=j) gV;have Tn:∀i,i<ops.size->∀r,Ep W i r=false->(Hs (i+1)).get r=(Hs i).get r:=λi hi r hr=>(qg gV (t.one i hi)).same r hr
 have To:∀i,i<ops.size->∀x,Er ops i x=false->bS (Ts (i+1)) x=bS (Ts i) x:=λi hi x hx=>by
  obtain⟨o,ho,h⟩:=kI (t.one i hi);have hd:¬(o.dst=some x):=λe=>by simp[Er,ho,e]at hx
  rcases h with⟨_,v,_,h⟩|⟨_,h,_⟩<;>rw[h,rr,zAG (λa=>hd a.1)]
 intro l;induction l with
 |nil=>
  intro D p tm w hl hD cr hr hT hG hn;have hl:∀i,i<ops.size->D i=true:=hl;refine .inl ⟨tm,w,p,.refl _ _,cr,(Mv.refl _ p _ w).wide (zAB _) (mono 0 ops.size (zAB _) (zAM _)),hr.congr λr _=>?_,λx=>?_⟩
  .exact(tN (A:=λi=>(Hs i).get) (wr:=Ep W) (k:=r) (λi hi h=>Tn i hi r h) (zAB _) (λj hj _=>hl j hj) (λj a b _=>by omega)).symm
  .rw[<-tN (A:=λi=>bS (Ts i)) (wr:=Er ops) (k:=x) (λi hi h=>To i hi x h) (zAB _) (λj hj _=>hl j hj) (λj a b _=>by omega)];exact hT x
 |cons i l ih=>
  intro D p tm w hl hD cr hr hT hG hn;obtain⟨hi,XX,uz,hl⟩:=hl;have e1:=t.one i hi;have Eo:=qg gV e1;obtain⟨o,ho,kC⟩:=kI e1
  have later:∀j,i<j->Fo i j->D j=false:=λj hj hf=>by
   cases hx:D j with
   |false=>rfl
   |true=>rw[hD i j hf hx]at XX;cases XX
  have Tp:∀r,((R i).testBit r=true\/(W i).testBit r=true)->(Hs i).get r=last (λi=>(Hs i).get) (Ep W) D ops.size r:=λr hr=>by
   refine(tN (A:=λi=>(Hs i).get) (wr:=Ep W) (k:=r) (λi hi h=>Tn i hi r h) (zFB hi) (λj hj hw=>?_) (λj a c hw=>?_)).symm
   .rcases hm j i hj hi with h|h
    .exact uz j h
    .have:=(h r).1 hw;rcases hr with x|x<;>simp_all
   .by_cases e:j=i
    .subst e;exact XX
    .have rZ:i<j:=by omega
     rcases hm i j rZ c with h|h
     .exact later j rZ h
     .have h2:=h r;have hw:(W j).testBit r=true:=hw;rcases hr with x|x
      .have:=h2.2 hw;rw[x]at this;cases this
      .have:=(h2.1 x).2;rw[hw]at this;cases this
  have Mj:∀x,x∈o.looksAt ops->last (λi=>bS (Ts i)) (Er ops) D ops.size x=bS (Ts i) x:=λx hx=>by
   refine tN (A:=λi=>bS (Ts i)) (wr:=Er ops) (k:=x) (λi hi h=>To i hi x h) (zFB hi) (λj hj hw=>?_) (λj a c hw=>?_)
   .have hjs:j<ops.size:=by omega
    have Jd:ops[j]?=some ops[j]:=zAI hjs;have hd:ops[j].dst=some x:=by simpa [Er,Jd]using hw
    rcases ht j i _ _ hj Jd ho with h|h
    .exact uz j h
    .exact absurd hx ((Oper.apart_spec h).1 x hd)
   .by_cases e:j=i
    .subst e;exact XX
    .have rZ:i<j:=by omega
     have Jd:ops[j]?=some ops[j]:=zAI c;have hd:ops[j].dst=some x:=by simpa [Er,Jd]using hw
     rcases ht i j _ _ rZ ho Jd with h|h
     .exact later j rZ h
     .exact absurd hx ((Oper.apart_spec h).2.2 x hd)
  have mJ:Region.wanted o (yielded ops tm)=Region.wanted o (jq ops (bS (Ts i))):=by
   refine JB (S:=S) (p:=p) λg c d S3 hd=>?_;rw[<-Mj d (by simp[Oper.looksAt,S3,hd])];exact hT d
  have Hv:∀a c,Fo a c->add D i c=true->add D i a=true:=λa c hac hc=>by
   simp only[add,zBM,beq_iff_eq]at hc⊢;rcases hc with rfl|hc
   .exact .inr (uz a hac)
   .exact .inr (hD a c hac hc)
  have Hw:∀{v v':fu} {q:Pi},Le p q->VR S q v v'->Ts (i+1)=tn (Ts i) o.dst v->∀x,VR S q (last (λi=>bS (Ts i)) (Er ops) (add D i) ops.size x) ((jo tm o.dst v').getD x undef):=λ{v v' q} hq hv Zy x=>by
   rw[yc];cases hw:Er ops i x with
   |false=>
    have hd:¬(o.dst=some x):=λe=>by simp[Er,ho,e]at hw
    rw[z6 hw,zAG λa=>hd a.1];exact(hT x).mono hq
   |true=>
    have hd:o.dst=some x:=by simpa [Er,ho]using hw
    rw[Hu hw ops.size hi λj rZ c Zz=>?_]
    .rw[Zy,rr,t.length (zFB hi),<-cr];by_cases av:x<tm.size
     .rw[zAF ⟨hd,av⟩,zAF ⟨hd,av⟩];exact hv
     .rw[zAG λa=>av a.2,zAG λa=>av a.2];have e2:tm.getD x undef=undef:=by rw[zAX,zAW (by omega)];rfl
      have e3:bS (Ts i) x=undef:=by
       have:∀(L:List fu) n,L.length<=n->bS L n=undef:=by
        intro L;induction L with
        |nil=>intro n _;rfl
        |cons y L ih=>intro n hn;cases n with
         |zero=>simp at hn
         |succ n=>exact ih n (by simpa using hn)
       exact this _ _ (by rw[t.length (zFB hi),<-cr];omega)
      rw[e2,e3];exact VR.undef
    .have Jd:ops[j]?=some ops[j]:=zAI c;have XM:ops[j].dst=some x:=by simpa [Er,Jd]using Zz
     rcases ht i j _ _ rZ ho Jd with h|h
     .exact later j rZ h
     .exact absurd XM ((Oper.apart_spec h).2.1 x hd)
  have Cy:∀{q:Pi} {w1:nq},Mv (λr=>(W i).testBit r=true) p (Hs i).n w q (Hs (i+1)).n w1->∀j,j<ops.size->add D i j=false->∀r,(Hs j).n<=r->r<(Hs (j+1)).n->∀r',¬q r r':=λ{q w1} th j hj hDj r h1 h2 r' hq=>by
   simp only[add,zFF,zET,ne_eq]at hDj;rcases th.new r r' hq with x|⟨a,c,_⟩
   .exact hn j hj hDj.2 r h1 h2 r' x
   .rcases Nat.lt_or_gt_of_ne hDj.1 with h|h
    .have:=mono (j+1) i (by omega) (by omega);omega
    .have:=mono (i+1) j (by omega) (by omega);omega
  have m0:=mono 0 i (zFB hi) (zAM _);have m1:=mono (i+1) ops.size (zAB _) hi;have Ml:∀{q:Pi} {w1:nq},Mv (λr=>(W i).testBit r=true) p (Hs i).n w q (Hs (i+1)).n w1->Mv (λr=>∃i,i<ops.size/\(W i).testBit r=true) p (Hs 0).n w q (Hs ops.size).n w1:=λh=>(h.wide m0 m1).mono λr x=>⟨i,hi,x⟩
  rcases kC with⟨hw,v,bt,Zy⟩|⟨hw,Zy,Zp,hR,hW⟩
  .have zd4:dK P ce (Ct (last (λi=>bS (Ts i)) (Er ops) D ops.size)) o (Hs i)=some (v,Hs (i+1),R i,W i):=by
    rw[<-bt];refine Cv (um i o ho) λx hx=>?_;cases x with
    |tmp x=>exact Mj x (List.mem_append_left _ (List.mem_filterMap.2 ⟨.tmp x,by simpa using hx,rfl⟩))
    |_=>rfl
   have zd5:=Qd hk hZ gV (Fp:=λr=>(R i).testBit r=true\/(W i).testBit r=true) ho (um i o ho) (mJ.trans hw) hT zd4 ((hr.mono (hFp i hi)).congr λr x=>Tp r x) hG (by omega) (hn i hi XX) (λr x=>x) b ds l k cs;rcases zd5 with⟨v',w1,q,c1,c2,c3,c4⟩|Mm;rotate_left
   .exact .inr Mm
   have j9:∀r,(W i).testBit r=true->((Hs i).n<=r/\r<(Hs (i+1)).n)\/(last (λi=>(Hs i).get) (Ep W) D ops.size r).isSome:=λr hr=>(Eo.wr r hr).imp id λx=>by rw[<-Tp r (.inr hr)];exact x
   have ZA:=hr.join c3 c4 (h2:=last (λi=>(Hs i).get) (Ep W) (add D i) ops.size) (λr x=>.inl (.inr x)) (λr x=>hFp i hi r (.inr x)) Eo.nw (hn i hi XX) j9 (λr x=>Hu (wr:=Ep W) x ops.size hi λj rZ c Zz=>by
    rcases hm i j rZ c with h|h
    .exact later j rZ h
    .have h2:=((h r).1 x).2;have Zz:(W j).testBit r=true:=Zz;rw[Zz]at h2;cases h2) (λr x=>z6 (wr:=Ep W) (by simpa [Ep]using x) ops.size)
   rcases ih (add D i) q (jo tm o.dst v') w1 hl Hv (by rw[x9];exact cr) ZA (Hw c3.le c2 Zy) (hG.mono c3.le) (Cy c3)with⟨bR,w',q',d1,d2,d3,d4,d5⟩|Mm;rotate_left
   .exact .inr (.of_steps c1 Mm)
   exact .inl ⟨bR,w',q',c1.trans d1,d2,(Ml c3).Me d3 (λ_ x=>x) (λ_ x=>x),d4,d5⟩
  .have oh:∀r,last (λi=>(Hs i).get) (Ep W) (add D i) ops.size r=last (λi=>(Hs i).get) (Ep W) D ops.size r:=λr=>z6 (wr:=Ep W) (by simp[Ep,hW]) ops.size;have th:Mv (λr=>(W i).testBit r=true) p (Hs i).n w p (Hs (i+1)).n w:=(Mv.refl _ p _ w).wide (zAB _) Eo.nn;rcases ih (add D i) p (jo tm o.dst undef) w hl Hv (by rw[x9];exact cr) (hr.congr λr _=>oh r) (Hw (Le.refl p) VR.undef Zy) hG (Cy th)with⟨bR,w',q',d1,d2,d3,d4,d5⟩|Mm;rotate_left
   .exact .inr (.of_steps (.one (ou ho (mJ.trans hw))) Mm)
   exact .inl ⟨bR,w',q',.head (ou ho (mJ.trans hw)) d1,d2,(Ml th).Me d3 (λ_ x=>x) (λ_ x=>x),d4,d5⟩
end
end Go.aC
namespace Go.aC
open Go.aC (Te Lq)
variable {H H1:Hp} {R R1 W W1 j n:Nat} {T T1:List fu} {draw:Bool} {l:List Nat} {listed:Array Bool} {m:Region.Mode}
inductive fX (ops:Array Oper):Nat->Nat->Prop
 |Vn {i j:Nat} {o:Oper} {e:Edge} (h:ops[j]?=some o) (he:e∈o.after) (hb:Region.binds .any e=true) (hi:e.on=i):fX ops i j
 |step {i k j:Nat} {o:Oper} {e:Edge} (t:fX ops i k) (h:ops[j]?=some o) (he:e∈o.after) (hb:Region.binds .any e=true) (hi:e.on=k):fX ops i j
def JC (m i:Nat):Bool:=Nat.beq (Nat.land 1 (Nat.shiftRight m i)) 1
def CA {m i:Nat} (h:JC m i=true):m.testBit i=true:=by
 have h:=zAK h;have h:1&&&(m>>>i)=1:=h;simp[Nat.testBit,h]
def uL:List Nat->Nat->Nat
 | [],_=>0
 |x::_,0=>x
 |_::l,n+1=>uL l n
def z7:∀(l:List Nat) (n:Nat),uL l n=(l[n]?).getD 0
 | [],n=>rfl
 |x::l,0=>rfl
 |x::l,n+1=>by simp[uL,z7 l n]
def Vo (l:List Nat):List Edge->Nat->Nat
 | [],m=>m
 |e::es,m=>Vo l es (bif Region.binds .any e then Nat.lor m (Nat.lor (2^e.on) (uL l e.on))else m)
def tp (ops:Array Oper):Nat->List Nat
 |0=>[]
 |n+1=>tp ops n++[match ops[n]? with|none=>0|some o=>Vo (tp ops n) o.after.toList 0]
def jS (ops:Array Oper):∀n,(tp ops n).length=n
 |0=>rfl
 |n+1=>by simp[tp,jS ops n]
def JD {ops:Array Oper} {o:Oper} (ho:ops[j]?=some o) (hl:∀k i,(uL l k).testBit i=true->fX ops i k):∀(es:List Edge) (m:Nat),(∀e∈es,e∈o.after)->(∀i,m.testBit i=true->fX ops i j)->∀i,(Vo l es m).testBit i=true->fX ops i j:=by
 intro es;induction es with
 |nil=>intro m _ hm i h;exact hm i h
 |cons e es ih=>
  intro m he hm i h;refine ih _ (λx hx=>he x (zAR _ hx)) (λi h=>?_) i h;cases hb:Region.binds .any e<;>rw[hb]at h<;>simp only[zAS,zAQ]at h
  .exact hm i h
  .have h:(m|||(2^e.on|||uL l e.on)).testBit i=true:=h;rw[zAO,zAO,zBM,zBM]at h;rcases h with h|h|h
   .exact hm i h
   .rw[tb]at h;exact .Vn ho (he e (by simp)) hb h.symm
   .exact .step (hl _ _ h) ho (he e (by simp)) hb rfl
def yd (ops:Array Oper):∀n k i,(uL (tp ops n) k).testBit i=true->fX ops i k:=by
 intro n;induction n with
 |zero=>intro k i h;simp[tp,uL]at h
 |succ n ih=>
  intro k i h;rw[z7]at h;simp only[tp]at h;rcases zCX k n with hk|hk
  .rw[zCV (by rw[jS];exact hk),<-z7]at h;exact ih k i h
  .rw[zDO (by rw[jS];exact hk),jS]at h;by_cases e:k=n
   .subst e;simp only[Nat.sub_self,zBF,zAC]at h;cases ho:ops[k]? with
    |none=>rw[ho]at h;simp at h
    |some o=>
     rw[ho]at h;exact JD ho ih o.after.toList 0 (λe he=>by simpa using he) (λi h=>by simp at h) i h
   .rw[zCZ (by simp;omega)]at h;simp at h
def OZ (listed:Array Bool):Nat->Nat
 |0=>0
 |m+1=>OZ listed m+(bif listed.getD m true then 0 else 1)
def CB {listed:Array Bool}:∀{m:Nat},OZ listed m=0->∀i,i<m->listed.getD i true=true
 |0,_,i,hi=>absurd hi (zEG _)
 |m+1,h,i,hi=>by
  simp only[OZ]at h;by_cases e:i=m
  .subst e;cases hx:listed.getD i true with
   |true=>rfl
   |false=>rw[hx]at h;simp at h
  .exact CB (m:=m) (by omega) i (by omega)
def Hx {listed:Array Bool} {i:Nat} (hi:listed.getD i true=false):∀{m:Nat},OZ (listed.setIfInBounds i true) m+(if i<m then 1 else 0)=OZ listed m
 |0=>by simp[OZ]
 |m+1=>by
  have ih:=Hx hi (m:=m);simp only[OZ];by_cases e:i=m
  .subst e
   have av:i<listed.size:=by
    rcases zCX i listed.size with h|h
    .exact h
    .simp[h]at hi
   have:(listed.setIfInBounds i true).getD i true=true:=by simp[av]
   rw[this,hi];simp only[Nat.lt_irrefl,zBJ,zCE,zBV,zAS,zAQ]at ih⊢;omega
  .rw[Go.getD_set_ne true e];by_cases h:i<m
   .rw[zAF h]at ih;rw[zAF (by omega)];omega
   .rw[zAG h]at ih;rw[zAG (by omega)];omega
def Hy {ops:Array Oper}:j∈Lq m ops listed↔listed.getD j true=false/\∃o,ops[j]?=some o/\∀e∈o.after,Region.binds m e=true->listed.getD e.on false=true:=
 Go.mem_ready
def ye {e:Edge} (h:Region.binds .any e=true):Region.binds m e=true:=by
 unfold Region.binds at*;split at h<;>first|(cases h;done)|rfl
def jr {Fo:Nat->Nat->Prop}:∀{l:List Nat} {D E:Nat->Bool},(∀i,i<n->D i=E i)->(∀a b,Fo a b->b<n->a<n)->Good Fo n D l->Good Fo n E l
 | [],D,E,h,_,g=>λi hi=>by rw[<-h i hi];exact g i hi
 |i::l,D,E,h,hFo,⟨g1,g2,g3,g4⟩=>⟨g1,by rw[<-h i g1];exact g2,λa ha=>by rw[<-h a (hFo a i ha g1)];exact g3 a ha,jr (λj hj=>by simp only[add,h j hj]) hFo g4⟩
section
variable {ops:Array Oper} (hE:∀ (i:Nat) (o:Oper) (e:Edge),ops[i]?=some o->e ∈ o.after->Region.binds .any e=true->e.on < i)
include hE
def yh {a b:Nat} (h:fX ops a b):a<b:=by
 induction h with
 |Vn h he hb hi=>have:=hE _ _ _ h he hb;omega
 |step t h he hb hi ih=>have:=hE _ _ _ h he hb;omega
def Mo {CD:Nat->Nat} (hR:∀(i:Nat) (o:Oper) (e:Edge),ops[i]?=some o->e∈o.after->Region.binds m e=true->e.on<ops.size/\CD e.on<CD i)
 (h:Te m ops n listed l):listed.size=ops.size->OZ listed ops.size<=n->
 (∀a b,fX ops a b->listed.getD b false=true->listed.getD a false=true)->Good (fX ops) ops.size (λj=>listed.getD j false) l:=by
 induction h with
 | @stop n listed h=>
   intro hs hu hc i hi
   have all:∀i,i<ops.size->listed.getD i true=true:=by
    rcases h with h|h
    .subst h;exact CB (by omega)
    .have:∀k i,CD i=k->i<ops.size->listed.getD i true=true:=by
      intro k;induction k using Nat.strongRecOn with
      |ind k ih=>
       intro i hk hi;cases hx:listed.getD i true with
       |true=>rfl
       |false=>
        have ho:ops[i]?=some ops[i]:=zAI hi
        have:i∈Lq m ops listed:=Hy.2 ⟨hx,_,ho,λe he hb=>by
         obtain⟨h1,h2⟩:=hR _ _ _ ho he hb;have:=ih (CD e.on) (by omega) e.on rfl h1;have h2:e.on<listed.size:=by omega
         simpa [h2]using this⟩
        rw[h]at this;cases this
     exact λi hi=>this _ i rfl hi
   have:=all i hi;have h2:i<listed.size:=by omega
   simpa [h2]using this
 | @next n i listed l h t ih=>
   intro hs hu hc;obtain⟨h1,o,ho,h2⟩:=Hy.1 h;have hi:i<ops.size:=(zAD.1 ho).1;have his:i<listed.size:=by omega
   have uz:∀a,fX ops a i->listed.getD a false=true:=λa ha=>by
    cases ha with
    |Vn h he hb hi=>rw[ho]at h;cases h;rw[<-hi];exact h2 _ he (ye hb)
    |step t h he hb hi=>rw[ho]at h;cases h;exact hc _ _ t (by rw[<-hi];exact h2 _ he (ye hb))
   have e1:∀j,j<ops.size->(listed.setIfInBounds i true).getD j false=add (λj=>listed.getD j false) i j:=λj hj=>by
    by_cases e:j=i
    .subst e;simp[add,his]
    .rw[Go.getD_set_ne false (Ne.symm e)];simp only[add,beq_false_of_ne e,zEB]
   refine⟨hi,by simpa [his]using h1,uz,?_⟩;have av:∀a b,fX ops a b->b<ops.size->a<ops.size:=λa b pH hb=>Nat.lt_trans (yh hE pH) hb;refine jr (λj hj=>e1 j hj) av (ih (by simpa using hs) ?_ λa b pH hb=>?_)
   .have:=Hx h1 (m:=ops.size);rw[zAF hi]at this;omega
   .by_cases e:i=b
    .subst e;exact Go.getD_set_true (uz a pH)
    .rw[Go.getD_set_ne false e]at hb;exact Go.getD_set_true (hc a b pH hb)
end
def yi:∀(n m:Nat),OZ (Array.replicate n false) m<=m
 |n,0=>zAB _
 |n,m+1=>by
  have:=yi n m;simp only[OZ];cases(Array.replicate n false).getD m true<;>simp<;>omega
def pos:List Nat->Nat->Nat
 | [],_=>0
 |x::l,i=>bif Nat.beq x i then 0 else pos l i+1
def nF (ops:Array Oper):Bool:=
 ((List.range ops.size).all λi=>match ops[i]? with|some o=>o.after.all λe=>Nat.blt e.on ops.size&&(!(Region.binds .any e||Region.binds .text e)||Nat.blt e.on i)|none=>true)&&
 (!Region.departs ops||(let l:=Region.linearise .gc ops 0;(List.range ops.size).all λi=>match ops[i]? with|some o=>o.after.all λe=>!Region.binds .gc e||Nat.blt (pos l e.on) (pos l i)|none=>true))
def uM {ops:Array Oper} (h:nF ops=true):
 (∀(i:Nat) (o:Oper) (e:Edge),ops[i]?=some o->e∈o.after->Region.binds .any e=true->e.on<i)/\
 ∀m,(m=.gc->Region.departs ops=true)->∃CD:Nat->Nat,∀(i:Nat) (o:Oper) (e:Edge),ops[i]?=some o->e∈o.after->Region.binds m e=true->e.on<ops.size/\CD e.on<CD i:=by
 simp only[nF,zAE]at h
 have arr:∀{f:Edge->Bool} {a:Array Edge},a.all f=true->∀e∈a,f e=true:=λ{f a} h e he=>by
  obtain⟨j,hj,hje⟩:=zCI.1 he;have h3:=zBQ.1 h j hj;rw[hje]at h3;exact h3
 have h1:∀(i:Nat) (o:Oper) (e:Edge),ops[i]?=some o->e∈o.after->e.on<ops.size/\((Region.binds .any e=true\/Region.binds .text e=true)->e.on<i):=λi o e ho he=>by
  have hi:i<ops.size:=(zAD.1 ho).1;have:=zCD.1 h.1 i (zDI.2 hi);rw[ho]at this;have:=arr this e he;simp only[zAE]at this;refine⟨zAY (zCE _) (zBC this.1),λhb=>?_⟩;have h2:=this.2;rw[show(Region.binds .any e||Region.binds .text e)=true by rcases hb with x|x<;>simp[x]]at h2;exact zAY (zCE _) (zBC h2)
 refine⟨λi o e ho he hb=>(h1 i o e ho he).2 (.inl hb),λm hm=>?_⟩;cases m with
 |text=>exact⟨id,λi o e ho he hb=>⟨(h1 i o e ho he).1,(h1 i o e ho he).2 (.inr hb)⟩⟩
 |any=>exact⟨id,λi o e ho he hb=>⟨(h1 i o e ho he).1,(h1 i o e ho he).2 (.inl hb)⟩⟩
 |gc=>
  have h2:=h.2;rw[hm rfl]at h2;simp only[zEI,zEB]at h2;refine⟨pos (Region.linearise .gc ops 0),λi o e ho he hb=>⟨(h1 i o e ho he).1,?_⟩⟩;have hi:i<ops.size:=(zAD.1 ho).1;have:=zCD.1 h2 i (zDI.2 hi);rw[ho]at this;have:=arr this e he;rw[hb]at this;exact zAY (zCE _) (zBC this)
def wS {ops:Array Oper} (hE:nF ops=true) (mixed:Bool) (t:Nat):Good (fX ops) ops.size (λ_=>false) (Region.schedule mixed ops t):=by
 obtain⟨hA,hR⟩:=uM hE
 have key:∀m t,(m=.gc->Region.departs ops=true)->Good (fX ops) ops.size (λ_=>false) (Region.linearise m ops t):=λm t hm=>by
  obtain⟨CD,ov⟩:=hR m hm
  have hr:∀j,(Array.replicate ops.size false).getD j false=false:=λj=>by
   rw[zAX,zDZ];split<;>rfl
  refine jr (λj _=>hr j) (λa b pH hb=>Nat.lt_trans (yh hA pH) hb) (Mo hA ov (Go.aC.Fg m ops t) (by simp) (yi _ _) λa b pH hb=>?_);rw[hr]at hb;cases hb
 unfold Region.schedule;split
 .exact key _ _ λh=>by cases h
 .rename_i hc
  have hd:Region.departs ops=true:=by
   cases hx:Region.departs ops with
   |true=>rfl
   |false=>rw[hx]at hc;simp at hc
  exact key _ _ λ_=>hd
def uN (n:Nat):∀(m i:Nat),i+m=n->Good (·<·) n (λj=>decide (j<i)) (List.range' i m)
 |0,i,h=>λj hj=>by simp;omega
 |m+1,i,h=>by
  refine⟨by omega,by simp,λa ha=>by simpa using ha,?_⟩;refine jr (D:=λj=>decide (j<i+1)) (λj hj=>?_) (λa b pH hb=>by omega) (uN n m (i+1) (by omega));simp only[add];by_cases e:j=i
  .subst e;simp
  .by_cases h:j<i
   .have:j<i+1:=by omega
    simp[h,this]
   .have:¬j<i+1:=by omega
    simp[h,this,e]
def ic (P:un) (ce:Next->Hp->Rs fu) (ops:Array Oper):Nat->Nat->List fu->Hp->Option (List fu×Hp×List (Nat×Nat))
 |0,_,T,H=>some (T,H,[])
 |n+1,i,T,H=>match qf P ce ops i T H with
  |none=>none
  |some (T1,H1,R,W)=>match ic P ce ops n (i+1) T1 H1 with
   |none=>none
   |some (T2,H2,l)=>some (T2,H2,(R,W)::l)
def nc (R1 W1 R2 W2:Nat):Bool:=Nat.beq (Nat.land W1 (Nat.lor R2 W2)) 0&&Nat.beq (Nat.land W2 R1) 0
def HQ (m R W:Nat):List (Nat×Nat×Nat)->Bool
 | []=>true
 |(i,R1,W1)::l=>(JC m i||nc R1 W1 R W)&&HQ m R W l
def gJ:List Nat->List (Nat×Nat)->Nat->List (Nat×Nat×Nat)->Nat->Nat->Bool
 |_,[],_,_,_,_=>true
 | [],_::_,_,_,_,_=>false
 |m::ms,(R,W)::l,j,prev,RU,WU=>(nc RU WU R W||HQ m R W prev)&&gJ ms l (j+1) ((j,R,W)::prev) (Nat.lor RU R) (Nat.lor WU W)
def Lr:List (Nat×Nat)->Nat
 | []=>0
 |(R,_)::l=>Nat.lor R (Lr l)
def JE:List (Nat×Nat)->Nat
 | []=>0
 |(_,W)::l=>Nat.lor W (JE l)
def fF (P:un) (ce:Next->Hp->Rs fu) (ops:Array Oper) (draw:Bool) (T:List fu) (H:Hp):Rs (List fu):=
 match ic P ce ops ops.size 0 T H with
 |none=>none
 |some (T1,H1,l)=>bif !draw||gJ (tp ops ops.size) l 0 [] 0 0 then some (T1,H1,Lr l,JE l)else none
def JF (ops:Array Oper) (l:List Nat):Bool:=
 (List.range ops.size).all λj=>(List.range j).all λi=>JC (uL l j) i||(match ops[i]?,ops[j]? with|some oi,some oj=>oi.apart ops oj|_,_=>true)
def fA (P:un) (S:Nat->Bool) (ops:Array Oper) (draw:Bool):Bool:=
 (ops.all λo=>jQ P S o.op)&&(!draw||(nF ops&&JF ops (tp ops ops.size)))
def HU {R2 W2:Nat} (h:nc R1 W1 R2 W2=true) (r:Nat):(W1.testBit r=true->R2.testBit r=false/\W2.testBit r=false)/\(W2.testBit r=true->R1.testBit r=false):=by
 simp only[nc,zAE]at h;have h1:W1&&&(R2|||W2)=0:=zAK h.1;have h2:W2&&&R1=0:=zAK h.2;have e1:=zBB (λx=>Nat.testBit x r) h1;have e2:=zBB (λx=>Nat.testBit x r) h2;simp only[Nat.testBit_and,zAO,Nat.zero_testBit,zGD,zFF]at e1 e2;refine⟨λx=>?_,λx=>?_⟩
 .rcases e1 with e|e
  .rw[x]at e;cases e
  .exact e
 .rcases e2 with e|e
  .rw[x]at e;cases e
  .exact e
def yj {m:Nat}:∀{l:List (Nat×Nat×Nat)},HQ m R W l=true->∀i R1 W1,(i,R1,W1)∈l->JC m i=true\/nc R1 W1 R W=true
 | [],_,_,_,_,h=>by cases h
 |(i,R1,W1)::l,h,j,R2,W2,hm=>by
  simp only[HQ,zAE,zBM]at h;rcases zAL.1 hm with e|hm
  .cases e;exact h.1
  .exact yj h.2 _ _ _ hm
def Vp {RU WU:Nat} (h:nc RU WU R W=true) (hr:∀r,R1.testBit r=true->RU.testBit r=true) (hw:∀r,W1.testBit r=true->WU.testBit r=true) (r:Nat):
 (W1.testBit r=true->R.testBit r=false/\W.testBit r=false)/\(W.testBit r=true->R1.testBit r=false):=by
 obtain⟨a,b⟩:=HU h r;refine⟨λx=>a (hw r x),λx=>?_⟩;cases hx:R1.testBit r with
 |false=>rfl
 |true=>have:=b x;rw[hr r hx]at this;cases this
def Fw:∀(ms:List Nat) (l:List (Nat×Nat)) (j:Nat) (prev:List (Nat×Nat×Nat)) (RU WU:Nat),gJ ms l j prev RU WU=true->
 (∀i R1 W1,(i,R1,W1)∈prev->∀r,(R1.testBit r=true->RU.testBit r=true)/\(W1.testBit r=true->WU.testBit r=true))->
 (∀(b:Nat) (R W:Nat),l[b]?=some (R,W)->(∀i R1 W1,(i,R1,W1)∈prev->JC (uL ms b) i=true\/∀r,(W1.testBit r=true->R.testBit r=false/\W.testBit r=false)/\(W.testBit r=true->R1.testBit r=false))/\
   ∀(a R1 W1:Nat),a<b->l[a]?=some (R1,W1)->JC (uL ms b) (j+a)=true\/∀r,(W1.testBit r=true->R.testBit r=false/\W.testBit r=false)/\(W.testBit r=true->R1.testBit r=false)):=by
 intro ms l;induction l generalizing ms with
 |nil=>intro j prev RU WU _ _ b R W h;simp at h
 |cons x l ih=>
  obtain⟨Rx,Wx⟩:=x;intro j prev RU WU h Mp;cases ms with
  |nil=>simp[gJ]at h
  |cons m ms=>
   simp only[gJ,zAE,zBM]at h;obtain⟨h1,h2⟩:=h
   have ih:=ih ms (j+1) ((j,Rx,Wx)::prev) _ _ h2 (λi R1 W1 hm r=>by
    have e1:(Nat.lor RU Rx).testBit r=(RU.testBit r||Rx.testBit r):=zAO _ _ _;have e2:(Nat.lor WU Wx).testBit r=(WU.testBit r||Wx.testBit r):=zAO _ _ _;rw[e1,e2];rcases zAL.1 hm with e|hm
    .cases e;exact⟨λx=>by rw[x,zBW],λx=>by rw[x,zBW]⟩
    .have:=Mp i R1 W1 hm r;exact⟨λx=>by rw[this.1 x];rfl,λx=>by rw[this.2 x];rfl⟩)
   intro b R W hb;cases b with
   |zero=>
    simp only[zBF,zAA,zAH]at hb;obtain⟨rfl,rfl⟩:=hb;refine⟨λi R1 W1 hm=>?_,λa _ _ ha _=>by omega⟩;rcases h1 with h1|h1
    .exact .inr (Vp h1 (λr=>(Mp i R1 W1 hm r).1) λr=>(Mp i R1 W1 hm r).2)
    .exact(yj h1 i R1 W1 hm).imp id λx=>HU x
   |succ b=>
    simp only[zBN]at hb;obtain⟨k1,k2⟩:=ih b R W hb;refine⟨λi R1 W1 hm=>k1 i R1 W1 (zAR _ hm),λa R1 W1 pH ha=>?_⟩;cases a with
    |zero=>
     simp only[zBF,zAA,zAH]at ha;obtain⟨rfl,rfl⟩:=ha;exact k1 j Rx Wx (by simp)
    |succ a=>
     simp only[zBN]at ha;have:=k2 a R1 W1 (by omega) ha;rw[show j+(a+1)=j+1+a by omega];exact this
def H5:∀{l:List (Nat×Nat)} {i R W r:Nat},l[i]?=some (R,W)->R.testBit r=true->(Lr l).testBit r=true
 | [],i,R,W,r,h,_=>by simp at h
 |(Rx,Wx)::l,i,R,W,r,h,hr=>by
  have e:(Lr ((Rx,Wx)::l)).testBit r=(Rx.testBit r||(Lr l).testBit r):=zAO _ _ _;rw[e];cases i with
  |zero=>simp only[zBF,zAA,zAH]at h;obtain⟨rfl,rfl⟩:=h;rw[hr];rfl
  |succ i=>simp only[zBN]at h;rw[H5 h hr,zBW]
def z8:∀{l:List (Nat×Nat)} {i R W r:Nat},l[i]?=some (R,W)->W.testBit r=true->(JE l).testBit r=true
 | [],i,R,W,r,h,_=>by simp at h
 |(Rx,Wx)::l,i,R,W,r,h,hr=>by
  have e:(JE ((Rx,Wx)::l)).testBit r=(Wx.testBit r||(JE l).testBit r):=zAO _ _ _;rw[e];cases i with
  |zero=>simp only[zBF,zAA,zAH]at h;obtain⟨rfl,rfl⟩:=h;rw[hr];rfl
  |succ i=>simp only[zBN]at h;rw[z8 h hr,zBW]
section
variable {P:un} {S:Nat->Bool} {K:Kz} {qe:List PanicEntry->nq->Prop} {ce:Next->Hp->Rs fu}
def Aa {ops:Array Oper}:∀(n i:Nat) (T:List fu) (H:Hp) (T2:List fu) (H2:Hp) (l:List (Nat×Nat)),ic P ce ops n i T H=some (T2,H2,l)->
 ∃(Ts:Nat->List fu) (Hs:Nat->Hp) (R W:Nat->Nat),Ts i=T/\Hs i=H/\Ts (i+n)=T2/\Hs (i+n)=H2/\(∀a,a<n->l[a]?=some (R (i+a),W (i+a)))/\∀a,i<=a->a<i+n->qf P ce ops a (Ts a) (Hs a)=some (Ts (a+1),Hs (a+1),R a,W a):=by
 intro n;induction n with
 |zero=>
  intro i T H T2 H2 l e;simp only[ic,zAA,zAH]at e;obtain⟨rfl,rfl,rfl⟩:=e;exact⟨λ_=>T,λ_=>H,λ_=>0,λ_=>0,rfl,rfl,rfl,rfl,λa h=>by omega,λa h1 h2=>by omega⟩
 |succ n ih=>
  intro i T H T2 H2 l e;simp only[ic]at e;split at e<;>try(cases e;done)
  rename_i T1 H1 R1 W1 e1;split at e<;>try(cases e;done)
  rename_i T2' H2' l' e2;simp only[zAA,zAH]at e;obtain⟨rfl,rfl,rfl⟩:=e;obtain⟨Ts,Hs,R,W,a1,a2,a3,a4,a5,a6⟩:=ih (i+1) T1 H1 T2' H2' l' e2;refine⟨λj=>if j=i then T else Ts j,λj=>if j=i then H else Hs j,λj=>if j=i then R1 else R j,λj=>if j=i then W1 else W j,zAF rfl,zAF rfl,?_,?_,?_,?_⟩
  .show(if i+(n+1)=i then T else Ts (i+(n+1)))=T2';rw[zAG (by omega),show i+(n+1)=i+1+n by omega];exact a3
  .show(if i+(n+1)=i then H else Hs (i+(n+1)))=H2';rw[zAG (by omega),show i+(n+1)=i+1+n by omega];exact a4
  .intro a ha;show _=some ((if i+a=i then R1 else R (i+a)),(if i+a=i then W1 else W (i+a)));cases a with
   |zero=>simp
   |succ a=>
    simp only[zBN];rw[a5 a (by omega),zAG (by omega),zAG (by omega),show i+1+a=i+(a+1) by omega]
  .intro a h1 h2;show qf P ce ops a (if a=i then T else Ts a) (if a=i then H else Hs a)=some ((if a+1=i then T else Ts (a+1)),(if a+1=i then H else Hs (a+1)),(if a=i then R1 else R a),(if a=i then W1 else W a));by_cases e:a=i
   .subst e;simp only[zBV];rw[zAG (by omega),zAG (by omega),e1,a1,a2]
   .rw[zAG e,zAG e,zAG (by omega),zAG (by omega),zAG e,zAG e];exact a6 a (by omega) (by omega)
def JG (gV:ka P S K qe ce) {ops:Array Oper}:∀(n i:Nat) (T:List fu) (H:Hp) (T2:List fu) (H2:Hp) (l:List (Nat×Nat)),ic P ce ops n i T H=some (T2,H2,l)->Ft H (Lr l) (JE l) H2/\T2.length=T.length:=by
 intro n;induction n with
 |zero=>
  intro i T H T2 H2 l e;simp only[ic,zAA,zAH]at e;obtain⟨rfl,rfl,rfl⟩:=e;exact⟨Ft.refl _,rfl⟩
 |succ n ih=>
  intro i T H T2 H2 l e;simp only[ic]at e;split at e<;>try(cases e;done)
  rename_i T1 H1 R1 W1 e1;split at e<;>try(cases e;done)
  rename_i T2' H2' l' e2;simp only[zAA,zAH]at e;obtain⟨rfl,rfl,rfl⟩:=e;obtain⟨a,b⟩:=ih _ _ _ _ _ _ e2;refine⟨(qg gV e1).trans a,b.trans ?_⟩;obtain⟨o,_,h⟩:=kI e1;rcases h with⟨_,v,_,h⟩|⟨_,h,_⟩<;>rw[h,sv]
def yl {ops:Array Oper} (e:fF P ce ops draw T H=some (T1,H1,R,W)):
 ∃l,ic P ce ops ops.size 0 T H=some (T1,H1,l)/\(draw=true->gJ (tp ops ops.size) l 0 [] 0 0=true)/\R=Lr l/\W=JE l:=by
 unfold fF at e;split at e
 .cases e
 .rename_i T1 H1 l e1;cases hc:(!draw||gJ (tp ops ops.size) l 0 [] 0 0)<;>rw[hc]at e<;>simp only[zAS,zAQ]at e
  .cases e
  simp only[zAA,zAH]at e;obtain⟨rfl,rfl,rfl,rfl⟩:=e;exact⟨l,e1,λhd=>by rw[hd]at hc;simpa using hc,rfl,rfl⟩
def fg (gV:ka P S K qe ce) {ops:Array Oper} (e:fF P ce ops draw T H=some (T1,H1,R,W)):Ft H R W H1/\T1.length=T.length:=by
 obtain⟨l,e1,_,rfl,rfl⟩:=yl e;exact JG gV _ _ _ _ _ _ _ e1
def qh (hk:Ok P P.funcs S) (hZ:XU P K) (gV:ka P S K qe ce) {ops:Array Oper} (cu:fA P S ops draw=true) (e:fF P ce ops draw T H=some (T1,H1,R,W))
 {Fp:Nat->Prop} {p:Pi} {tm:Array fu} {w:nq} (hg:P.globals.size<=H.n) (hF:∀r,(R.testBit r=true\/W.testBit r=true)->Fp r) (cr:tm.size=T.length) (hr:Rl P S K p H.get Fp w) (hT:∀x,VR S p (bS T x) (tm.getD x undef)) (hG:Cu P S p)
 (hn:∀r,H.n<=r->r<H1.n->∀r',¬p r r') (id:Nat) (b:Frame) (ds:List Deferred) (k:List Item) (cs:List Frame):
 (∃bR w' q,Steps P (lone (bB b tm ds (.code (.region id ops draw)::k)) cs w) (lone (bB b bR ds k) cs w')/\bR.size=T.length/\
   Mv (λr=>W.testBit r=true) p H.n w q H1.n w'/\Rl P S K q H1.get Fp w'/\∀x,VR S q (bS T1 x) (bR.getD x undef))\/iU P qe b ds cs (lone (bB b tm ds (.code (.region id ops draw)::k)) cs w):=by
 obtain⟨l,e1,hp,rfl,rfl⟩:=yl e;obtain⟨Ts,Hs,R,W,a1,a2,a3,a4,a5,a6⟩:=Aa _ _ _ _ _ _ _ e1;rw[zDN]at a3 a4 a6;have t:XW P ce ops Ts Hs R W:=⟨λi hi=>a6 i (zAM _) hi⟩
 have lR:∀i,i<ops.size->l[i]?=some (R i,W i):=λi hi=>by have:=a5 i hi;rwa [zDN]at this
 simp only[fA,zAE]at cu
 have um:∀(i:Nat) (o:Oper),ops[i]?=some o->jQ P S o.op=true:=λi o ho=>by
  obtain⟨av,he⟩:=zAD.1 ho;have:=zBQ.1 cu.1 i av;rw[he]at this;exact this
 have mono:=λi j=>t.Mi (i:=i) (j:=j) gV;have hFp:∀i,i<ops.size->∀r,((R i).testBit r=true\/(W i).testBit r=true)->Fp r:=λi hi r hr=>hF r (hr.imp (λx=>H5 (lR i hi) x) λx=>z8 (lR i hi) x)
 have l0:∀r,last (λi=>(Hs i).get) (Ep W) (λ_=>false) ops.size r=H.get r:=λr=>by
  have:∀n,last (λi=>(Hs i).get) (Ep W) (λ_=>false) n r=H.get r:=by
   intro n;induction n with
   |zero=>show(Hs 0).get r=_;rw[a2]
   |succ n ih=>simp only[last,zGL,zAN,zBJ];exact ih
  exact this _
 have l1:∀x,last (λi=>bS (Ts i)) (Er ops) (λ_=>false) ops.size x=bS T x:=λr=>by
  have:∀n,last (λi=>bS (Ts i)) (Er ops) (λ_=>false) n r=bS T r:=by
   intro n;induction n with
   |zero=>show bS (Ts 0) r=_;rw[a1]
   |succ n ih=>simp only[last,zGL,zAN,zBJ];exact ih
  exact this _
 have fin:∀{order:List Nat} {Fo:Nat->Nat->Prop} {w0:nq},w0.heap=w.heap->Good Fo ops.size (λ_=>false) order->(∀i j,i<j->j<ops.size->Fo i j\/Zx R W i j)->(∀(i j:Nat) (oi oj:Oper),i<j->ops[i]?=some oi->ops[j]?=some oj->Fo i j\/oi.apart ops oj=true)->
  (∃bR w' q,Steps P (lone (bB b tm ds (.inRegion ops order::k)) cs w0) (lone (bB b bR ds k) cs w')/\bR.size=T.length/\Mv (λr=>(JE l).testBit r=true) p H.n w q H1.n w'/\Rl P S K q H1.get Fp w'/\∀x,VR S q (bS T1 x) (bR.getD x undef))\/iU P qe b ds cs (lone (bB b tm ds (.inRegion ops order::k)) cs w0):=by
  intro order Fo w0 hw0 CE hm ht;rcases Qe hk hZ gV um t hm ht (by rw[a2];exact hg) hFp b ds k cs order (λ_=>false) p tm w0 CE (λa c _ h=>by cases h) (by rw[a1];exact cr) ((hr.heap hw0).congr λr _=>l0 r) (λx=>by rw[l1];exact hT x) hG (λj hj _ r h1 h2=>hn r (by have:=mono 0 j (zFB hj) (zAM _);rw[a2]at this;omega) (by have:=mono (j+1) ops.size (zAB _) hj;rw[a4]at this;omega))with⟨bR,w',q,c1,c2,c3,c4,c5⟩|Mm;rotate_left
  .exact .inr Mm
  rw[a1]at c2;rw[a2,a4]at c3;rw[a4]at c4;rw[a3]at c5;exact .inl ⟨bR,w',q,c1.trans (.one eu),c2,(c3.Mc hw0.symm).mono λr ⟨i,hi,x⟩=>z8 (lR i hi) x,c4,c5⟩
 cases draw with
 |false=>
  rcases fin (order:=List.range ops.size) (Fo:=(·<·)) (w0:=w) rfl (by
   have:=uN ops.size ops.size 0 (zDN _);rw[<-List.range_eq_range']at this;exact jr (λj _=>by simp) (λa b pH hb=>by omega) this) (λi j h _=>.inl h) (λi j _ _ h _ _=>.inl h)with⟨bR,w',q,c⟩|Mm
  .exact .inl ⟨bR,w',q,.head je c.1,c.2⟩
  .exact .inr (.of_steps (.one je) Mm)
 |true=>
  have Vq:=cu.2;simp only[zEI,zEB,zAE]at Vq;have hpz:=Fw _ _ _ _ _ _ (hp rfl) (λ_ _ _ h=>by cases h);obtain⟨tt,w0,hw0,ZB⟩:=Ht (P:=P) (b:=b) (tm:=tm) (ds:=ds) (k:=k) (cs:=cs) (w:=w) (id:=id) (ops:=ops)
  rcases fin (order:=Region.schedule (P.follows .mixedOrders) ops tt) (Fo:=fX ops) (w0:=w0) hw0 (wS Vq.1 _ _) (λi j h hj=>by
   rcases(hpz j _ _ (lR j hj)).2 i _ _ h (lR i (by omega))with x|x
   .rw[zDN]at x;exact .inl (yd _ _ _ _ (CA x))
   .exact .inr x) (λi j oi oj h hoi Jd=>by
   have hj:j<ops.size:=(zAD.1 Jd).1;have h2:=zCD.1 (zCD.1 Vq.2 j (zDI.2 hj)) i (zDI.2 h);rw[hoi,Jd,zBM]at h2;rcases h2 with x|x
   .exact .inl (yd _ _ _ _ (CA x))
   .exact .inr x)with⟨bR,w',q,c⟩|Mm
  .exact .inl ⟨bR,w',q,.head ZB c.1,c.2⟩
  .exact .inr (.of_steps (.one ZB) Mm)
end
end Go.aC
namespace Go.aC
variable {H H1:Hp} {R R1 W W1 l l' n n1:Nat} {T T1:List fu} {args bM tmps:Array fu} {assign body:Code} {ex:Nat->Bool} {f:Operand} {iE:List Deferred} {j:Option Code} {m:Machine} {p q:Pi} {params:Array Tmp} {ro:Option Nat} {v:fu} {w1 w2:nq}
abbrev Rc:=Option (Option Code×List fu×List Deferred×Hp×Nat×Nat)
def sw (R W:Nat):Rc->Rc
 |some (j,T,ds,H,R1,W1)=>some (j,T,ds,H,R|||R1,W|||W1)
 |none=>none
def ls {x:Rc} {ds:List Deferred} (h:sw R W x=some (j,T,ds,H,R1,W1)):∃R2 W2,x=some (j,T,ds,H,R2,W2)/\R1=R|||R2/\W1=W|||W2:=by
 cases x with
 |none=>cases h
 |some y=>
  obtain⟨a,b,c,d,e,f⟩:=y;simp only[sw,zAA,zAH]at h;obtain⟨rfl,rfl,rfl,rfl,rfl,rfl⟩:=h;exact⟨_,_,rfl,rfl,rfl⟩
def isJ:Option Code->Bool
 |none=>true
 |some .ret=>true
 |some (.exit _)=>true
 |some (.goto _)=>true
 |_=>false
def fB (r:Operand->fu) (f:Operand) (l:Nat):Sem Next:=do
 let d<-resolve r {callee:=.value f,args:=#[.const (.func (.yield l) #[] #[])],argTypes:=#[]} 0
 invoke d.target d.args
def qi (P:un) (ce:Next->Hp->Rs fu) (ro:Option Nat) (fn:Nat) (f:Operand) (params:Array Tmp) (assign body:Code) (T:List fu) (ds:List Deferred) (H:Hp):Rc:=
 match aF P (Instr.enterLoop fn T.toArray params assign body ro) H with
 |none=>none
 |some ((l,mark),H1,R1,W1)=>match aF P (fB (Ct (bS T)) f l) H1 with
  |none=>none
  |some (nx,H2,R2,W2)=>match ce nx H2 with
   |none=>none
   |some (_,H3,R3,W3)=>match aF P (Instr.endLoop l) H3 with
    |none=>none
    |some (j,H4,R4,W4)=>bif isJ j then some (j,T,mark++ds,H4,R1|||(R2|||(R3|||R4)),W1|||(W2|||(W3|||W4)))else none
abbrev Rg:=(Next->Hp->Rs fu)->Array Oper->Bool->List fu->Hp->Rs (List fu)
def kc (P:un) (rg:Rg) (ce:Next->Hp->Rs fu) (ro:Option Nat) (fn:Nat):Nat->Option Code->Code->List fu->List Deferred->Hp->Rc
 |0,_,_,_,_,_=>none
 |n+1,some sc,c,T,ds,H=>match kc P rg ce ro fn n none c T ds H with
  |some (some (.goto l),T1,iE,H1,R,W)=>match findLabel sc l with
   |some rest=>sw R W (kc P rg ce ro fn n (some sc) rest T1 iE H1)
   |none=>some (some (.goto l),T1,iE,H1,R,W)
  |x=>x
 |n+1,none,c,T,ds,H=>match c with
  |.skip=>some (none,T,ds,H,0,0)
  |.label _=>some (none,T,ds,H,0,0)
  |.region _ ops draw=>match rg ce ops draw T H with
   |some (T1,H1,R,W)=>some (none,T1,ds,H1,R,W)
   |none=>none
  |.seq a b=>match kc P rg ce ro fn n none a T ds H with
   |some (none,T1,iE,H1,R,W)=>sw R W (kc P rg ce ro fn n none b T1 iE H1)
   |x=>x
  |.cond x a b=>match Ct (bS T) x with
   |.bool t=>kc P rg ce ro fn n none (bif t then a else b) T ds H
   |_=>none
  |.block id a=>match kc P rg ce ro fn n none a T ds H with
   |some (some (.exit i),T1,iE,H1,R,W)=>bif Nat.beq i id then some (none,T1,iE,H1,R,W)else some (some (.exit i),T1,iE,H1,R,W)
   |x=>x
  |.loop a=>match kc P rg ce ro fn n none a T ds H with
   |some (none,T1,iE,H1,R,W)=>sw R W (kc P rg ce ro fn n none (.loop a) T1 iE H1)
   |x=>x
  |.scope a=>kc P rg ce ro fn n (some a) a T ds H
  |.exit id=>some (some (.exit id),T,ds,H,0,0)
  |.goto l=>some (some (.goto l),T,ds,H,0,0)
  |.ret=>some (some .ret,T,ds,H,0,0)
  |.rangeFunc f params assign body=>qi P ce ro fn f params assign body T ds H
  |.refuse _=>none
def CF:Option Code->Bool
 |none=>true
 |some .ret=>true
 |_=>false
def jT (P:un):List Deferred->Hp->Rs Unit
 | [],H=>some ((),H,0,0)
 |{target:=.collected r,.. }::ds,H=>match aF P (Instr.takeDeferred r) H with
  |some (_,H1,R,W)=>match jT P ds H1 with
   |some (_,H2,R2,W2)=>some ((),H2,R|||R2,W|||W2)
   |none=>none
  |none=>none
 |_::_,_=>none
def Fx (P:un) (rg:Rg) (ce:Next->Hp->Rs fu) (n:Nat) (f:Nat) (args:Array fu) (H:Hp):Rs fu:=
 match P.funcs[f]? with
 |none=>none
 |some fn=>match fn.body with
  |none=>none
  |some body=>match kc P rg ce none f n none body (args.toList++List.replicate (fn.ntmps-args.size) undef) [] H with
   |none=>none
   |some (j,T1,iE,H1,R1,W1)=>bif CF j then match jT P iE H1 with
    |none=>none
    |some (_,H2,R2,W2)=>match aF P (results fn T1.toArray) H2 with
     |none=>none
     |some (v,H3,R3,W3)=>some (v,H3,R1|||(R2|||R3),W1|||(W2|||W3))else none
def qj (P:un) (rg:Rg) (ce:Next->Hp->Rs fu) (n:Nat) (l f:Nat) (tmps:Array fu) (assign body:Code) (H:Hp):Rs fu:=
 match kc P rg ce (some l) f n none assign tmps.toList [] H with
 |some (none,T1,iE,H1,R1,W1)=>match aF P (Instr.beginRound l) H1 with
  |none=>none
  |some (_,H2,R2,W2)=>match kc P rg ce (some l) f n none body T1 iE H2 with
   |none=>none
   |some (j,_,_,H3,R3,W3)=>match aF P (Instr.endRound l j) H3 with
    |none=>none
    |some (v,H4,R4,W4)=>some (v,H4,R1|||(R2|||(R3|||R4)),W1|||(W2|||(W3|||W4)))
 |_=>none
def tq (P:un) (rg:Rg) (ex:Nat->Bool):Nat->Next->Hp->Rs fu
 |0,_,_=>none
 |n+1,nx,H=>match nx with
  |.enter f args=>bif ex f then none else Fx P rg (tq P rg ex n) n f args H
  |.round l f tmps assign body=>qj P rg (tq P rg ex n) n l f tmps assign body H
  |_=>none
abbrev ZC (P:un) (ex:Nat->Bool):=tq P (fF P) ex
def cE (P:un) (S:Nat->Bool):Code->Bool
 |.skip|.label _|.exit _|.goto _|.ret=>true
 |.region _ ops draw=>fA P S ops draw
 |.seq a b=>cE P S a&&cE P S b
 |.cond c a b=>iA P S c&&cE P S a&&cE P S b
 |.block _ a=>cE P S a
 |.loop a=>cE P S a
 |.scope a=>cE P S a
 |.rangeFunc f _ a b=>iA P S f&&cE P S a&&cE P S b
 |.refuse _=>false
def ZD (P:un) (e:a00) (v:fu):Prop:=∃i z,P.info? e=some i/\i.zero=some z/\v∈z.cells
def cK (P:un) (S:Nat->Bool):Kz:=⟨λc=>cE P S c=true,ZD P⟩
def ZE (P:un) (S:Nat->Bool):XU P (cK P S):=λe i z h1 h2 u hu=>⟨i,z,h1,h2,hu⟩
def Ab {P:un} {S:Nat->Bool}:∀{c:Code} {l:Nat} {r:Code},cE P S c=true->findLabel c l=some r->cE P S r=true:=by
 intro c;induction c with
 |seq a b YR YS=>
  intro l r h e;simp only[cE,zAE]at h;simp only[findLabel]at e;split at e
  .rename_i rest h1;simp only[zAA]at e;subst e;simp only[cE,zAE];exact⟨YR h.1 h1,h.2⟩
  .exact YS h.2 e
 |label l'=>
  intro l r h e;simp only[findLabel]at e;split at e
  .cases e;rfl
  .cases e
 |_=>intro l r h e;simp[findLabel]at e
section
variable {P:un} {S:Nat->Bool} {K:Kz} {qe:List PanicEntry->nq->Prop} {ce:Next->Hp->Rs fu}
def Fy (gV:ka P S K qe ce) {fn:Nat} {ds:List Deferred}
 (e:qi P ce ro fn f params assign body T ds H=some (j,T1,iE,H1,R,W)):Ft H R W H1/\T1.length=T.length:=by
 unfold qi at e;split at e<;>try(cases e;done)
 rename_i e1;split at e<;>try(cases e;done)
 rename_i e2;split at e<;>try(cases e;done)
 rename_i e3;split at e<;>try(cases e;done)
 rename_i j _ _ _ e4;cases hj:isJ j<;>rw[hj]at e<;>simp only[zAS,zAQ]at e
 .cases e
 simp only[zAA,zAH]at e;obtain⟨rfl,rfl,rfl,rfl,rfl,rfl⟩:=e;exact⟨(bF P _ e1).trans ((bF P _ e2).trans ((gV.ft _ _ _ _ _ _ e3).trans (bF P _ e4))),rfl⟩
def fY (gV:ka P S K qe ce) (ro:Option Nat) (fn:Nat):∀(n:Nat) (sc:Option Code) (c:Code) (T:List fu) (ds:List Deferred) (H:Hp) (j:Option Code) (T1:List fu) (iE:List Deferred) (H1:Hp) (R W:Nat),
 kc P (fF P) ce ro fn n sc c T ds H=some (j,T1,iE,H1,R,W)->Ft H R W H1/\T1.length=T.length:=by
 intro n;induction n with
 |zero=>intro sc c T ds H j T1 iE H1 R W e;simp[kc]at e
 |succ n ih=>
  intro sc c T ds H j T1 iE H1 R W e
  have add:∀{sc c T2 CG H2 R2 W2 j T1 iE H1 R W},Ft H R2 W2 H2/\T2.length=T.length->sw R2 W2 (kc P (fF P) ce ro fn n sc c T2 CG H2)=some (j,T1,iE,H1,R,W)->Ft H R W H1/\T1.length=T.length:=by
   intro sc c T2 CG H2 R2 W2 j T1 iE H1 R W h e;obtain⟨R3,W3,e2,rfl,rfl⟩:=ls e;obtain⟨a,b⟩:=ih _ _ _ _ _ _ _ _ _ _ _ e2;exact⟨h.1.trans a,b.trans h.2⟩
  cases sc with
  |some sc=>
   simp only[kc]at e;split at e
   .rename_i e1;split at e
    .exact add (ih _ _ _ _ _ _ _ _ _ _ _ e1) e
    .simp only[zAA,zAH]at e;obtain⟨rfl,rfl,rfl,rfl,rfl,rfl⟩:=e;exact ih _ _ _ _ _ _ _ _ _ _ _ e1
   .exact ih _ _ _ _ _ _ _ _ _ _ _ e
  |none=>
   have EG:∀{j':Option Code},some (j',T,ds,H,0,0)=some (j,T1,iE,H1,R,W)->Ft H R W H1/\T1.length=T.length:=λe=>by
    simp only[zAA,zAH]at e;obtain⟨rfl,rfl,rfl,rfl,rfl,rfl⟩:=e;exact⟨Ft.refl _,rfl⟩
   cases c with
   |skip=>exact EG e
   |label l=>exact EG e
   |exit id=>exact EG e
   |goto l=>exact EG e
   |ret=>exact EG e
   |refuse w=>simp[kc]at e
   |region id ops draw=>
    simp only[kc]at e;split at e<;>try(cases e;done)
    rename_i e1;simp only[zAA,zAH]at e;obtain⟨rfl,rfl,rfl,rfl,rfl,rfl⟩:=e;exact fg gV e1
   |seq a b=>
    simp only[kc]at e;split at e
    .rename_i e1;exact add (ih _ _ _ _ _ _ _ _ _ _ _ e1) e
    .exact ih _ _ _ _ _ _ _ _ _ _ _ e
   |cond x a b=>
    simp only[kc]at e;split at e<;>try(cases e;done)
    exact ih _ _ _ _ _ _ _ _ _ _ _ e
   |block id a=>
    simp only[kc]at e;split at e
    .rename_i i _ _ _ _ _ e1;have:=ih _ _ _ _ _ _ _ _ _ _ _ e1;cases hb:Nat.beq i id<;>rw[hb]at e<;>simp only[zAS,zAQ,zAA,zAH]at e<;>obtain⟨rfl,rfl,rfl,rfl,rfl,rfl⟩:=e<;>exact this
    .exact ih _ _ _ _ _ _ _ _ _ _ _ e
   |loop a=>
    simp only[kc]at e;split at e
    .rename_i e1;exact add (ih _ _ _ _ _ _ _ _ _ _ _ e1) e
    .exact ih _ _ _ _ _ _ _ _ _ _ _ e
   |scope a=>exact ih _ _ _ _ _ _ _ _ _ _ _ e
   |rangeFunc f params assign body=>exact Fy gV e
def js:∀(ds:List Deferred) (H H1:Hp) (R W:Nat),jT P ds H=some ((),H1,R,W)->Ft H R W H1
 | [],H,H1,R,W,e=>by
   simp only[jT,zAA,zAH,zCK]at e;obtain⟨rfl,rfl,rfl⟩:=e;exact Ft.refl _
 |d::ds,H,H1,R,W,e=>by
  obtain⟨t,args⟩:=d;cases t<;>simp only[jT]at e<;>try(cases e;done)
  split at e<;>try(cases e;done)
  rename_i e1;split at e<;>try(cases e;done)
  rename_i e2;simp only[zAA,zAH,zCK]at e;obtain⟨rfl,rfl,rfl⟩:=e;exact(bF P _ e1).trans (js ds _ _ _ _ e2)
def H6 (gV:ka P S K qe ce) {f:Nat} (e:Fx P (fF P) ce n f args H=some (v,H1,R,W)):Ft H R W H1:=by
 unfold Fx at e;split at e<;>try(cases e;done)
 split at e<;>try(cases e;done)
 split at e<;>try(cases e;done)
 rename_i j _ _ _ _ _ e1;cases hr:CF j<;>rw[hr]at e<;>simp only[zAS,zAQ]at e
 .cases e
 split at e<;>try(cases e;done)
 rename_i e2;split at e<;>try(cases e;done)
 rename_i e3;simp only[zAA,zAH]at e;obtain⟨rfl,rfl,rfl,rfl⟩:=e;exact(fY gV _ _ _ _ _ _ _ _ _ _ _ _ _ _ e1).1.trans ((js _ _ _ _ _ e2).trans (bF P _ e3))
def uO (gV:ka P S K qe ce) {f:Nat} (e:qj P (fF P) ce n l f tmps assign body H=some (v,H1,R,W)):Ft H R W H1:=by
 unfold qj at e;split at e<;>try(cases e;done)
 rename_i e1;split at e<;>try(cases e;done)
 rename_i e2;split at e<;>try(cases e;done)
 rename_i e3;split at e<;>try(cases e;done)
 rename_i e4;simp only[zAA,zAH]at e;obtain⟨rfl,rfl,rfl,rfl⟩:=e;exact(fY gV _ _ _ _ _ _ _ _ _ _ _ _ _ _ e1).1.trans ((bF P _ e2).trans ((fY gV _ _ _ _ _ _ _ _ _ _ _ _ _ _ e3).1.trans (bF P _ e4)))
end
section
variable {P:un} {b:Frame} {tm:Array fu} {ds:List Deferred} {k:List Item} {cs:List Frame} {w:nq}
def Mq {mark:List Deferred} {nx:Next} {g:Frame}
 (h1:(Instr.enterLoop b.fn tm params assign body b.roundOf).run P w=.ok (l,mark) w1) (h2:(fB (bB b tm (mark++ds) (.inRangeFunc l::k)).eval f l).run P w1=.ok nx w2) (hg:rq P nx=some g):
 step P (lone (bB b tm ds (.code (.rangeFunc f params assign body)::k)) cs w)=.next (lone g (bB b tm (mark++ds) (.inRangeFunc l::k)::cs) w2):=by
 refine bG rfl ?_;have:=(jp (P:=P) (cs:=cs) (fr:=bB b tm (mark++ds) (.inRangeFunc l::k)) rfl h2).2.2 g hg;rw[<-this];unfold stepG.exec;simp only[bB]at h1⊢;simp only[Sem.runT_eq,h1,GStep.bare_after];rfl
def CH (h:(Instr.endLoop l).run P w=.ok j w1):
 step P (lone (bB b tm ds (.endRangeFunc l::k)) cs w)=.next (lone (bB b tm ds ((j.map Item.code).toList++k)) cs w1):=by
 refine bG rfl ?_;unfold stepG.exec;simp only[bB];simp only[Sem.runT_eq,h,GStep.bare_after];rfl
def wT (hl:b.roundOf=some l) (h:(Instr.beginRound l).run P w=.ok () w1):
 step P (lone (bB b tm ds (.beginRound::k)) cs w)=.next (lone (bB b tm ds k) cs w1):=by
 refine bG rfl ?_
 have hs:(do (bB b tm ds (.beginRound::k)).roundOf.elim (Go.stuck "beginRound: no round") Instr.beginRound;Pure.pure Next.skip:Sem Next).run P w=.ok .skip w1:=by
  show(do b.roundOf.elim (Go.stuck "beginRound: no round") Instr.beginRound;Pure.pure Next.skip:Sem Next).run P w=.ok .skip w1;rw[hl];exact dx P _ _ w h
 have:=(jp (P:=P) (cs:=cs) (fr:=bB b tm ds (.beginRound::k)) rfl hs).2.1 rfl;rw[show(bB b tm ds (.beginRound::k)).finish undef=bB b tm ds k from rfl]at this;rw[<-this];rfl
end
def uP (j:Option Code) (k todo:List Item):Prop:=match j with
 |none=>todo=k
 |some .ret=>∃k2,todo=.code .ret::k2
 |some (.exit id)=>∃k2,todo=.code (.exit id)::k2/\exitTo id k2=exitTo id k
 |some (.goto l)=>∃k2,todo=.code (.goto l)::k2/\gotoIn l k2=gotoIn l k
 |some _=>False
structure O0 (P:un) (S:Nat->Bool) (Fp:Nat->Prop) (p:Pi) (H:Hp) (T:List fu) (ds:List Deferred) (tm:Array fu) (kR:List Deferred) (w:nq):Prop where
 sz:tm.size=T.length
 rl:Rl P S (cK P S) p H.get Fp w
 tr:∀x,VR S p (bS T x) (tm.getD x undef)
 dl:DL p ds kR
 gl:Cu P S p
 hg:P.globals.size<=H.n
def Mr (P:un) (S:Nat->Bool) (Fp:Nat->Prop) (b:Frame) (cs:List Frame) (k:List Item) (p:Pi) (n:Nat) (w:nq) (m:Machine) (j:Option Code) (T1:List fu) (iE:List Deferred) (H1:Hp) (W:Nat):Prop:=
 ∃bR oe w' q todo,Steps P m (lone (bB b bR oe todo) cs w')/\Mv (λr=>W.testBit r=true) p n w q H1.n w'/\O0 P S Fp q H1 T1 iE bR oe w'/\uP j k todo
section
variable {P:un} {S:Nat->Bool} {Fp:Nat->Prop} {b:Frame} {cs:List Frame} {ce:Next->Hp->Rs fu}
def uP.pass {x:Item} (hx:x.plain=true) {c:Code} (hj:j=some c) {k todo:List Item} (h:uP j (x::k) todo):uP j k todo:=by
 subst hj;cases c<;>try exact h
 .obtain⟨k2,h1,h2⟩:=h;refine⟨k2,h1,h2.trans ?_⟩;cases x<;>first|rfl|cases hx
 .obtain⟨k2,h1,h2⟩:=h;refine⟨k2,h1,h2.trans ?_⟩;cases x<;>first|rfl|cases hx
def bA {W:Nat->Prop} {N:Nat} {w:nq} (h:∀r,n<=r->r<N->∀r',¬p r r') (m:Mv W p n w q n1 w1):∀r,n1<=r->r<N->∀r',¬q r r':=λr a c r' hq=>by
 rcases m.new r r' hq with x|⟨_,x,_⟩
 .exact h r (zAP m.nn a) c r' x
 .omega
def fZ (h:∀r,((R|||R1).testBit r=true\/(W|||W1).testBit r=true)->Fp r):∀r,(R.testBit r=true\/W.testBit r=true)->Fp r:=λr x=>h r (x.imp (λx=>by rw[zAO,x];rfl) λx=>by rw[zAO,x];rfl)
def cA (h:∀r,((R|||R1).testBit r=true\/(W|||W1).testBit r=true)->Fp r):∀r,(R1.testBit r=true\/W1.testBit r=true)->Fp r:=λr x=>h r (x.imp (λx=>by rw[zAO,x,zBW]) λx=>by rw[zAO,x,zBW])
def Mv.or {s:Pi} {n2 W2:Nat} {w:nq} (h:Mv (λr=>W1.testBit r=true) p n w q n1 w1) (k:Mv (λr=>W2.testBit r=true) q n1 w1 s n2 w2):Mv (λr=>(W1|||W2).testBit r=true) p n w s n2 w2:=
 h.trans k (λr x=>by rw[zAO,x];rfl) (λr x=>by rw[zAO,x,zBW])
def iu {α β:Type} {Q:Pi->α->β->Prop} {s:Sem α} {s':Sem β} {a:α} {w:nq} (h:SR P P.funcs S (cK P S) 0 Q s s' p) (e:aF P s H=some (a,H1,R,W))
 (hr:Rl P S (cK P S) p H.get Fp w) (hg:P.globals.size<=H.n) (hn:∀r,H.n<=r->r<H1.n->∀r',¬p r r') (hF:∀r,(R.testBit r=true\/W.testBit r=true)->Fp r):
 ∃a' w1 q,s'.run P w=.ok a' w1/\Q q a a'/\Mv (λr=>W.testBit r=true) p H.n w q H1.n w1/\Rl P S (cK P S) q H1.get Fp w1:=by
 obtain⟨a',w1,q,c1,c2,c3,c4⟩:=lq (P:=P) (F:=P.funcs) s (h hr.ok) e hr hg hn (λr x=>.inr (hF r x));exact⟨a',w1,q,c1,c2,c3,c4.mono λr x=>.inl x⟩
def iF {tm:Array fu} (h1:tm.size=T.length) (h2:∀x,VR S p (bS T x) (tm.getD x undef)):AR S p T.toArray tm:=by
 refine⟨by simp[h1],λi v v' hv qY=>?_⟩
 have e1:bS T i=v:=by
  have:∀(L:List fu) i,L[i]?=some v->bS L i=v:=by
   intro L;induction L with
   |nil=>intro i h;simp at h
   |cons y L ih=>intro i h;cases i with
    |zero=>simpa [bS]using h
    |succ i=>exact ih i (by simpa using h)
  exact this T i (by simpa using hv)
 have:=h2 i;rw[e1,zAX,qY]at this;exact this
def SR.fB {K:Kz} (hb:rh P P.funcs S) {r r':Operand->fu} (hE:tg P S p r r') (hf:iA P S f=true) (hl:p l l'):
 SR P P.funcs S K 0 (QX S K) (aC.fB r f l) (aC.fB r' f l') p:=by
 have e:∀(r:Operand->fu),(∀v,r (.const v)=v)->∀l,aC.fB r f l=(Deferred.ofValue (r f) #[.func (.yield l) #[] #[]]>>=λd=>invoke d.target d.args):=λr hr l=>by
  unfold aC.fB resolve;simp[hr]
 rw[e r (λv=>(hE.const v).1),e r' (λv=>(hE.const v).2)];exact SR.mE hb (hE.at hf) (AR.one (VR.yield hl))
def JH (hk:Ok P P.funcs S) (gV:ka P S (cK P S) (λ_ _=>False) ce) {ds:List Deferred}
 (e:qi P ce ro b.fn f params assign body T ds H=some (j,T1,iE,H1,R,W)) (hf:iA P S f=true) (ha:cE P S assign=true) (hb:cE P S body=true) (hS:S b.fn=true)
 {tm:Array fu} {kR:List Deferred} {w:nq} {k:List Item} (qU:RR p ro b.roundOf) (cu:O0 P S Fp p H T ds tm kR w) (hn:∀r,H.n<=r->r<H1.n->∀r',¬p r r') (hF:∀r,(R.testBit r=true\/W.testBit r=true)->Fp r):
 Mr P S Fp b cs k p H.n w (lone (bB b tm kR (.code (.rangeFunc f params assign body)::k)) cs w) j T1 iE H1 W:=by
 unfold qi at e;split at e<;>try(cases e;done)
 rename_i l mark Ha Ra Wa e1;split at e<;>try(cases e;done)
 rename_i nx Hb Rb Wb e2;split at e<;>try(cases e;done)
 rename_i v Hc Rc Wc e3;split at e<;>try(cases e;done)
 rename_i j' Hd Rd Wd e4;cases hj:isJ j'<;>rw[hj]at e<;>simp only[zAS,zAQ]at e
 .cases e
 simp only[zAA,zAH]at e;obtain⟨rfl,rfl,rfl,rfl,rfl,rfl⟩:=e;have f1:=bF P _ e1;have f2:=bF P _ e2;have f3:=gV.ft _ _ _ _ _ _ e3;have f4:=bF P _ e4;have n1:=f1.nn;have n2:=f2.nn;have n3:=f3.nn;have n4:=f4.nn
 obtain⟨⟨l',ur⟩,w1,q1,a1,⟨a2,a3⟩,a4,a5⟩:=iu (SR.enterLoop (K:=cK P S) (f:=b.fn) (f':=b.fn) rfl hS (show cE P S _=true from rfl) (iF cu.sz cu.tr) params ha hb qU) e1 cu.rl cu.hg (λr x y=>hn r x (by omega)) (fZ hF);have Bp:=bA hn a4;have hE:=Vm (b:=b) (ds:=ur++kR) (k:=.inRangeFunc l'::k) (cu.gl.mono a4.le) (τ:=bS T) (tm:=tm) λx=>(cu.tr x).mono a4.le;obtain⟨wC,w2,q2,b1,b2,b3,b4⟩:=iu (s':=fB (bB b tm (ur++kR) (.inRangeFunc l'::k)).eval f l') (SR.fB hk.oJ hE hf a2) e2 a5 (by have:=cu.hg;omega) (λr x y=>Bp r x (by omega)) (fZ (cA hF));have zK:=bA Bp b3;rcases gV.run _ _ _ _ _ _ e3 q2 Fp w2 wC (bB b tm (ur++kR) (.inRangeFunc l'::k)) cs b2 b4 ((cu.gl.mono a4.le).mono b3.le) (by have:=cu.hg;omega) (λr x y=>zK r x (by omega)) (fZ (cA (cA hF)))with⟨g,v',w3,c1,c2,q3,c3,c4,c5⟩|⟨_,_,_,_,_,h⟩
 rotate_left
 .exact h.elim
 have XY:=bA zK c4;obtain⟨j2,w4,q4,d1,⟨d2,d3⟩,d4,d5⟩:=iu (SR.endLoop (c4.le _ _ (b3.le _ _ a2))) e4 (c5.mono λr x=>.inl x) (by have:=cu.hg;omega) (λr x y=>XY r x (by omega)) (cA (cA (cA hF)));subst d2;have uB:(bB b tm (ur++kR) (.inRangeFunc l'::k)).finish v'=bB b tm (ur++kR) (.endRangeFunc l'::k):=rfl;rw[uB]at c2;refine⟨tm,ur++kR,w4,q4,(j'.map Item.code).toList++k,.head (Mq a1 b1 c1) (c2.trans (.one (CH d1))),a4.or (b3.or (c4.or d4)),⟨cu.sz,d5,λx=>((((cu.tr x).mono a4.le).mono b3.le).mono c4.le).mono d4.le,DL.append (((a3.mono b3.le).mono c4.le).mono d4.le) ((((cu.dl.mono a4.le).mono b3.le).mono c4.le).mono d4.le),(((cu.gl.mono a4.le).mono b3.le).mono c4.le).mono d4.le,by have:=cu.hg;omega⟩,?_⟩;cases j' with
 |none=>rfl
 |some c=>cases c<;>first|(cases hj;done)|exact⟨k,rfl⟩|exact⟨k,rfl,rfl⟩
def Mr.of_steps {k:List Item} {w:nq} {m':Machine} (h:Steps P m m') (g:Mr P S Fp b cs k p n w m' j T1 iE H1 W):Mr P S Fp b cs k p n w m j T1 iE H1 W:=by
 obtain⟨bR,oe,w',q,todo,a,c⟩:=g;exact⟨bR,oe,w',q,todo,h.trans a,c⟩
def Fz {m1 f:Machine} (h:Steps P m f) (hs:step P m=.next m1) (bC:m≠f):Steps P m1 f:=by
 obtain⟨n,hn⟩:=h;cases n with
 |zero=>
  simp only[runN]at hn;cases hn;exact absurd rfl bC
 |succ n=>
  simp only[runN,hs]at hn;exact⟨n,hn⟩
def mQ (hk:Ok P P.funcs S) (gV:ka P S (cK P S) (λ_ _=>False) ce) (ro:Option Nat) (hS:S b.fn=true):∀(n:Nat) (sc:Option Code) (c:Code) (T:List fu) (ds:List Deferred) (H:Hp) (j:Option Code) (T1:List fu) (iE:List Deferred) (H1:Hp) (R W:Nat),
 kc P (fF P) ce ro b.fn n sc c T ds H=some (j,T1,iE,H1,R,W)->cE P S c=true->(∀x,sc=some x->cE P S x=true)->∀(p:Pi) (tm:Array fu) (kR:List Deferred) (w:nq) (k:List Item),RR p ro b.roundOf->O0 P S Fp p H T ds tm kR w->
 (∀r,H.n<=r->r<H1.n->∀r',¬p r r')->(∀r,(R.testBit r=true\/W.testBit r=true)->Fp r)->
 Mr P S Fp b cs k p H.n w (lone (bB b tm kR (.code c::(match sc with|none=>k|some x=>.inScope x::k))) cs w) j T1 iE H1 W:=by
 intro n;induction n with
 |zero=>intro sc c T ds H j T1 iE H1 R W e;simp[kc]at e
 |succ n ih=>
  intro sc c T ds H j T1 iE H1 R W e hc P7 p tm kR w k qU cu hn hF
  have two:∀{sc2 c2 T2 CG H2 R2 W2 m k2},Ft H R2 W2 H2->Mr P S Fp b cs k2 p H.n w m none T2 CG H2 W2->k2=(.code c2::(match sc2 with|none=>k|some x=>.inScope x::k))->sw R2 W2 (kc P (fF P) ce ro b.fn n sc2 c2 T2 CG H2)=some (j,T1,iE,H1,R,W)->cE P S c2=true->(∀x,sc2=some x->cE P S x=true)->
   Mr P S Fp b cs k p H.n w m j T1 iE H1 W:=by
   intro sc2 c2 T2 CG H2 R2 W2 m k2 Eo Vr f7 FA Ln zd9;obtain⟨R3,W3,e3,rfl,rfl⟩:=ls FA;obtain⟨bR,oe,w',q,todo,g1,g2,g3,g4⟩:=Vr;have g4:todo=k2:=g4;subst g4;subst f7;obtain⟨jt,Qf,w2,q2,ym,k1,k2,k3,k4⟩:=ih sc2 c2 T2 CG H2 j T1 iE H1 R3 W3 e3 Ln zd9 q bR oe w' k (qU.mono g2.le) g3 (bA hn g2) (cA hF);exact⟨jt,Qf,w2,q2,ym,g1.trans k1,g2.or k2,k3,k4⟩
  have Vs:∀{sc2 c2 R3 W3 T3 ds3 H3},sw R3 W3 (kc P (fF P) ce ro b.fn n sc2 c2 T3 ds3 H3)=some (j,T1,iE,H1,R,W)->H3.n<=H1.n/\∀r,(R3.testBit r=true\/W3.testBit r=true)->Fp r:=by
   intro sc2 c2 R3 W3 T3 ds3 H3 FA;obtain⟨R4,W4,e4,rfl,rfl⟩:=ls FA;exact⟨(fY gV _ _ _ _ _ _ _ _ _ _ _ _ _ _ e4).1.nn,fZ hF⟩
  have here:∀{todo m},Steps P m (lone (bB b tm kR todo) cs w)->some (j,T,ds,H,0,0)=some (j,T1,iE,H1,R,W)->uP j k todo->Mr P S Fp b cs k p H.n w m j T1 iE H1 W:=by
   intro todo m hs e he;simp only[zAA,zAH]at e;obtain⟨_,rfl,rfl,rfl,rfl,rfl⟩:=e;exact⟨tm,kR,w,p,todo,hs,Mv.refl _ _ _ _,cu,he⟩
  cases sc with
  |some sc=>
   simp only[kc]at e;have zea:=P7 sc rfl
   have pop:∀{j2 T2 CG H2 W2},Mr P S Fp b cs (.inScope sc::k) p H.n w (lone (bB b tm kR (.code c:: .inScope sc::k)) cs w) j2 T2 CG H2 W2->(∀l,j2=some (.goto l)->findLabel sc l=none)->Mr P S Fp b cs k p H.n w (lone (bB b tm kR (.code c:: .inScope sc::k)) cs w) j2 T2 CG H2 W2:=by
    intro j2 T2 CG H2 W2 ⟨bR,oe,w',q,todo,g1,g2,g3,g4⟩ JI;cases j2 with
    |none=>
     have g4:todo=_:=g4;subst g4;exact⟨bR,oe,w',q,k,g1.trans (.one Fu),g2,g3,rfl⟩
    |some c2=>
     refine⟨bR,oe,w',q,todo,g1,g2,g3,?_⟩;cases c2<;>try exact g4
     .rename_i l;obtain⟨k2,h1,h2⟩:=g4;refine⟨k2,h1,h2.trans ?_⟩;show(match findLabel sc l with|some rest=>(some (Item.code rest::Item.inScope sc::k):Option (List Item))|none=>gotoIn l k)=_;rw[JI l rfl]
   split at e
   .rename_i l T2 CG H2 R2 W2 e1;split at e
    .rename_i rest JI;have⟨x1,x2⟩:=Vs e;have Vr:=ih none c T ds H _ T2 CG H2 R2 W2 e1 hc (λ_ h=>by cases h) p tm kR w (.inScope sc::k) qU cu (λr a c=>hn r a (by omega)) x2;obtain⟨bR,oe,w',q,todo,g1,g2,g3,k2,rfl,g5⟩:=Vr
     have g6:gotoIn l k2=some (.code rest:: .inScope sc::k):=by
      rw[g5];show(match findLabel sc l with|some rest=>(some (Item.code rest::Item.inScope sc::k):Option (List Item))|none=>gotoIn l k)=_;rw[JI]
     exact two (sc2:=some sc) (fY gV _ _ _ _ _ _ _ _ _ _ _ _ _ _ e1).1 ⟨bR,oe,w',q,_,g1.trans (.one (Qb g6)),g2,g3,rfl⟩ rfl e (Ab zea JI) P7
    .rename_i JI;simp only[zAA,zAH]at e;obtain⟨rfl,rfl,rfl,rfl,rfl,rfl⟩:=e;exact pop (ih none c T ds H _ _ _ _ _ _ e1 hc (λ_ h=>by cases h) p tm kR w (.inScope sc::k) qU cu hn hF) λl' h=>by cases h;exact JI
   .rename_i iP;refine pop (ih none c T ds H _ _ _ _ _ _ e hc (λ_ h=>by cases h) p tm kR w (.inScope sc::k) qU cu hn hF) λl h=>?_;subst h;exact absurd e (iP _ _ _ _ _ _)
  |none=>
   cases c with
   |skip=>
    simp only[kc,zAA,zAH]at e;obtain⟨rfl,e⟩:=e;exact here (.one tM) (by obtain⟨rfl,rfl,rfl,rfl,rfl⟩:=e;rfl) rfl
   |label l=>
    simp only[kc,zAA,zAH]at e;obtain⟨rfl,e⟩:=e;exact here (.one Mf) (by obtain⟨rfl,rfl,rfl,rfl,rfl⟩:=e;rfl) rfl
   |exit id=>
    simp only[kc,zAA,zAH]at e;obtain⟨rfl,e⟩:=e;exact here (.refl _ _) (by obtain⟨rfl,rfl,rfl,rfl,rfl⟩:=e;rfl) ⟨k,rfl,rfl⟩
   |goto l=>
    simp only[kc,zAA,zAH]at e;obtain⟨rfl,e⟩:=e;exact here (.refl _ _) (by obtain⟨rfl,rfl,rfl,rfl,rfl⟩:=e;rfl) ⟨k,rfl,rfl⟩
   |ret=>
    simp only[kc,zAA,zAH]at e;obtain⟨rfl,e⟩:=e;exact here (.refl _ _) (by obtain⟨rfl,rfl,rfl,rfl,rfl⟩:=e;rfl) ⟨k,rfl⟩
   |refuse w=>simp[kc]at e
   |region id ops draw=>
    simp only[kc]at e;split at e<;>try(cases e;done)
    rename_i T2 H2 R2 W2 e1;simp only[zAA,zAH]at e;obtain⟨rfl,rfl,rfl,rfl,rfl,rfl⟩:=e;rcases qh hk (ZE P S) gV hc e1 cu.hg hF cu.sz cu.rl cu.tr cu.gl hn id b kR k cs with⟨bR,w',q,a1,a2,a3,a4,a5⟩|⟨_,_,_,_,_,h⟩
    .exact⟨bR,kR,w',q,k,a1,a3,⟨a2.trans (fg gV e1).2.symm,a4,a5,cu.dl.mono a3.le,cu.gl.mono a3.le,zAP cu.hg a3.nn⟩,rfl⟩
    .exact h.elim
   |seq a c=>
    simp only[cE,zAE]at hc;simp only[kc]at e;split at e
    .rename_i T2 CG H2 R2 W2 e1;have⟨x1,x2⟩:=Vs e;exact(two (sc2:=none) (fY gV _ _ _ _ _ _ _ _ _ _ _ _ _ _ e1).1 (ih none a T ds H _ _ _ _ _ _ e1 hc.1 (λ_ h=>by cases h) p tm kR w (.code c::k) qU cu (λr a c=>hn r a (by omega)) x2) rfl e hc.2 λ_ h=>by cases h).of_steps (.one et)
    .rename_i iP;obtain⟨bR,oe,w',q,todo,g1,g2,g3,g4⟩:=ih none a T ds H _ _ _ _ _ _ e hc.1 (λ_ h=>by cases h) p tm kR w (.code c::k) qU cu hn hF;cases j with
     |none=>exact absurd e (iP _ _ _ _ _)
     |some c2=>exact⟨bR,oe,w',q,todo,.head et g1,g2,g3,g4.pass (c:=c2) (x:=.code c) rfl rfl⟩
   |cond x a c=>
    simp only[cE,zAE]at hc;simp only[kc]at e;split at e<;>try(cases e;done)
    rename_i t ht;have hE:=(Vm (b:=b) (ds:=kR) (k:=.code (.cond x a c)::k) cu.gl cu.tr).at hc.1.1
    have hx:(bB b tm kR (.code (.cond x a c)::k)).eval x=.bool t:=by
     rw[ht]at hE;generalize(bB b tm kR (.code (.cond x a c)::k)).eval x=y at hE;cases hE;rfl
    refine Mr.of_steps (.one (nE hx)) ?_;rw[show(if t=true then a else c)=(bif t then a else c) by cases t<;>rfl];exact ih none _ T ds H _ _ _ _ _ _ e (by cases t;exact hc.2;exact hc.1.2) (λ_ h=>by cases h) p tm kR w k qU cu hn hF
   |block id a=>
    simp only[kc]at e;split at e
    .rename_i i T2 CG H2 R2 W2 e1;cases hb:Nat.beq i id<;>rw[hb]at e<;>simp only[zAS,zAQ,zAA,zAH]at e<;>obtain⟨rfl,rfl,rfl,rfl,rfl,rfl⟩:=e
     .obtain⟨bR,oe,w',q,todo,g1,g2,g3,k2,g4,g5⟩:=ih none a T ds H _ _ _ _ _ _ e1 hc (λ_ h=>by cases h) p tm kR w (.inBlock id::k) qU cu hn hF;refine⟨bR,oe,w',q,todo,.head qb g1,g2,g3,k2,g4,g5.trans ?_⟩;show(if id==i then some k else exitTo i k)=_;rw[zAG];intro h;have:id=i:=by simpa using h
      subst this;rw[Nat.beq_refl]at hb;cases hb
     .have:i=id:=zAK hb;subst this;obtain⟨bR,oe,w',q,todo,g1,g2,g3,k2,rfl,g5⟩:=ih none a T ds H _ _ _ _ _ _ e1 hc (λ_ h=>by cases h) p tm kR w (.inBlock i::k) qU cu hn hF;refine⟨bR,oe,w',q,k,.head qb (g1.trans (.one (Qa ?_))),g2,g3,rfl⟩;rw[g5];show(if i==i then some k else exitTo i k)=_;simp
    .rename_i iP;obtain⟨bR,oe,w',q,todo,g1,g2,g3,g4⟩:=ih none a T ds H _ _ _ _ _ _ e hc (λ_ h=>by cases h) p tm kR w (.inBlock id::k) qU cu hn hF;cases j with
     |none=>
      have g4:todo=_:=g4;subst g4;exact⟨bR,oe,w',q,k,.head qb (g1.trans (.one Fs)),g2,g3,rfl⟩
     |some c2=>
      refine⟨bR,oe,w',q,todo,.head qb g1,g2,g3,?_⟩;cases c2<;>try exact g4
      exact absurd e (iP _ _ _ _ _ _)
   |loop a=>
    simp only[kc]at e;split at e
    .rename_i T2 CG H2 R2 W2 e1;have⟨x1,x2⟩:=Vs e;obtain⟨R3,W3,e3,rfl,rfl⟩:=ls e;obtain⟨bR,oe,w',q,todo,g1,g2,g3,g4⟩:=ih none a T ds H _ _ _ _ _ _ e1 hc (λ_ h=>by cases h) p tm kR w (.inLoop a::k) qU cu (λr a c=>hn r a (by omega)) x2;have g4:todo=_:=g4;subst g4;obtain⟨jt,Qf,w2,q2,ym,k1,k2,k3,k4⟩:=ih none (.loop a) T2 CG H2 j T1 iE H1 R3 W3 e3 hc (λ_ h=>by cases h) q bR oe w' k (qU.mono g2.le) g3 (bA hn g2) (cA hF);refine⟨jt,Qf,w2,q2,ym,.head zX (g1.trans (.head JA (Fz k1 zX λhm=>?_))),g2.or k2,k3,k4⟩
     have h1:(bB b bR oe (.code (.loop a)::k)).todo=(bB b jt Qf ym).todo:=by
      have:=zBB (λm:Machine=>(m.gs[0]?).map λg=>g.frame.todo) hm;simpa [lone]using this
     have h1:.code (.loop a)::k=ym:=h1;cases j with
     |none=>
      have k4:ym=k:=k4;have:=zBB List.length (h1.trans k4);simp at this
     |some c=>
      cases c<;>try exact k4.elim
      all_goals(obtain⟨k9,k5⟩:=k4;first|(rw[<-h1]at k5;simp at k5;done)|(rw[<-h1]at k5;have k6:=k5.1;simp at k6;done))
    .rename_i iP;obtain⟨bR,oe,w',q,todo,g1,g2,g3,g4⟩:=ih none a T ds H _ _ _ _ _ _ e hc (λ_ h=>by cases h) p tm kR w (.inLoop a::k) qU cu hn hF;cases j with
     |none=>exact absurd e (iP _ _ _ _ _)
     |some c2=>exact⟨bR,oe,w',q,todo,.head zX g1,g2,g3,g4.pass (c:=c2) (x:=.inLoop a) rfl rfl⟩
   |scope a=>
    simp only[kc]at e;exact(ih (some a) a T ds H _ _ _ _ _ _ e hc (λx h=>by cases h;exact hc) p tm kR w k qU cu hn hF).of_steps (.one Mg)
   |rangeFunc f params assign body=>
    simp only[cE,zAE]at hc;simp only[kc]at e;exact JH hk gV e hc.1.1 hc.1.2 hc.2 hS qU cu hn hF
end
def wU (b:Frame) (tm:Array fu) (ds:List Deferred) (todo:List Item):Frame:={bB b tm ds todo with mode:=.returning}
section
variable {P:un} {b:Frame} {tm:Array fu} {ds:List Deferred} {todo:List Item} {cs:List Frame} {w:nq}
def yn {fr Zu:Frame} {kQ:List Frame} {w':nq} (hm:fr.mode=.returning) (h:(unwind P true fr cs none w).bare=.go {frame:=Zu,callers:=kQ,status:=.running,dying:=none} w'):
 step P (lone fr cs w)=.next (lone Zu kQ w'):=by
 refine step_lone_go ?_;rw[<-h];obtain⟨fn,tmps,todo,ds,mode,kind,ro⟩:=fr;simp only at hm;subst hm;rfl
def Qg {r:Nat} (h:(Instr.takeDeferred r).run P w=.ok [] w1):step P (lone (wU b tm ({target:=.collected r,args}::ds) todo) cs w)=.next (lone (wU b tm ds todo) cs w1):=by
 refine yn rfl ?_;unfold unwind;simp only[wU,bB,Sem.runT_eq,h,GStep.bare_after];rfl
def rt {fn:Func} (hf:P.funcs[b.fn]?=some fn) (ZF:b.kind=.normal) (h:(results fn tm).run P w=.ok v w1) (c:Frame):step P (lone (wU b tm [] todo) (c::cs) w)=.next (lone (c.finish v) cs w1):=by
 refine yn rfl ?_;unfold unwind;simp only[wU,bB,hf,Sem.runT_eq,h,GStep.bare_after];unfold doReturn;simp only[ZF];rfl
def mS (hj:CF j=true) (h:uP j [] todo) (qU:b.roundOf=none):step P (lone (bB b tm ds todo) cs w)=.next (lone (wU b tm ds todo) cs w):=by
 refine bG rfl ?_;cases j with
 |none=>
  have h:todo=[]:=h;subst h;rw[Go.aC.eX true rfl,Go.aC.jI true (f:=bB b tm ds _) qU];rfl
 |some c=>
  cases c<;>try(cases hj;done)
  obtain⟨k2,rfl⟩:=h;rw[Go.aC.eY true rfl,Go.aC.jI true (f:=bB b tm ds _) qU];rfl
def wV (h:uP j [] todo) (qU:b.roundOf=some l) (ZF:b.kind=.normal) (hr:(Instr.endRound l j).run P w=.ok v w1) (c:Frame):
 step P (lone (bB b tm ds todo) (c::cs) w)=.next (lone (c.finish v) cs w1):=by
 have fin:(Go.aC.iQ P true (bB b tm ds todo) (c::cs) j w).bare=.go {frame:=c.finish v,callers:=cs,status:=.running,dying:=none} w1:=by
  rw[Go.aC.jJ true (f:=bB b tm ds todo) qU,GStep.bare_after];simp only[Sem.runT_eq,hr];unfold doReturn;simp only[bB,ZF];rfl
 refine bG rfl ?_;cases j with
 |none=>
  have h:todo=[]:=h;subst h;rw[Go.aC.eX true rfl];exact fin
 |some c=>
  cases c<;>try exact h.elim
  .obtain⟨k2,rfl,h2⟩:=h;rw[Go.aC.eE true rfl,h2];exact fin
  .obtain⟨k2,rfl,h2⟩:=h;rw[Go.aC.eF true rfl,h2];exact fin
  .obtain⟨k2,rfl⟩:=h;rw[Go.aC.eY true rfl];exact fin
end
def FB (P:un) (S ex:Nat->Bool):Prop:=∀(f:Nat) (fn:Func) (body:Code),S f=true->ex f=false->P.funcs[f]?=some fn->fn.body=some body->cE P S body=true
section
variable {P:un} {S:Nat->Bool} {Fp:Nat->Prop} {b:Frame} {cs:List Frame} {ce:Next->Hp->Rs fu}
def uQ {todo:List Item} {tm:Array fu}:∀(ds:List Deferred) {H H1:Hp} {R W:Nat} {p:Pi} {kR:List Deferred} {w:nq},jT P ds H=some ((),H1,R,W)->DL p ds kR->Rl P S (cK P S) p H.get Fp w->P.globals.size<=H.n->
 (∀r,H.n<=r->r<H1.n->∀r',¬p r r')->(∀r,(R.testBit r=true\/W.testBit r=true)->Fp r)->
 ∃w1 q,Steps P (lone (wU b tm kR todo) cs w) (lone (wU b tm [] todo) cs w1)/\Mv (λr=>W.testBit r=true) p H.n w q H1.n w1/\Rl P S (cK P S) q H1.get Fp w1
 | [],H,H1,R,W,p,kR,w,e,hd,hr,hg,hn,hF=>by
   cases hd;simp only[jT,zAA,zAH,zCK]at e;obtain⟨rfl,rfl,rfl⟩:=e;exact⟨w,p,.refl _ _,Mv.refl _ _ _ _,hr⟩
 |d::ds,H,H1,R,W,p,kR,w,e,hd,hr,hg,hn,hF=>by
  cases hd with
  | @cons _ l' r r' h t=>
    simp only[jT]at e;split at e<;>try(cases e;done)
    rename_i x Ha Ra Wa e1;split at e<;>try(cases e;done)
    rename_i y Hb Rb Wb e2;simp only[zAA,zAH,zCK]at e;obtain⟨rfl,rfl,rfl⟩:=e;have n1:=(bF P _ e1).nn;have n2:=(js _ _ _ _ _ e2).nn;obtain⟨a',w1,q1,a1,⟨_,rfl⟩,a3,a4⟩:=iu (SR.takeDeferred h) e1 hr hg (λr x y=>hn r x (by omega)) (fZ hF);obtain⟨w2,q2,b1,b2,b3⟩:=uQ ds e2 (t.mono a3.le) a4 (by omega) (bA hn a3) (cA hF);exact⟨w2,q2,.head (Qg a1) b1,a3.or b2,b3⟩
def sx (l:List fu) (n:Nat) (x:Nat):bS (l++List.replicate n undef) x=bS l x:=by
 induction l generalizing x with
 |nil=>
  have:∀(n x:Nat),bS (List.replicate n undef) x=undef:=by
   intro n;induction n with
   |zero=>intro x;rfl
   |succ n ih=>intro x;cases x with
    |zero=>rfl
    |succ x=>exact ih x
  rw[zDW,this];rfl
 |cons y l ih=>cases x with
  |zero=>rfl
  |succ x=>exact ih x
def sy (a:Array fu) (x:Nat):bS a.toList x=a.getD x undef:=by
 rw[zAX,<-zDQ];generalize a.toList=l;induction l generalizing x with
 |nil=>rfl
 |cons y l ih=>cases x with
  |zero=>rfl
  |succ x=>simpa [bS]using ih x
def mT (h:AR S p args bM) (n:Nat):
 (bM++Array.replicate (n-bM.size) undef).size=(args.toList++List.replicate (n-args.size) undef).length/\
 ∀x,VR S p (bS (args.toList++List.replicate (n-args.size) undef) x) ((bM++Array.replicate (n-bM.size) undef).getD x undef):=by
 refine⟨by simp[h.1],λx=>?_⟩;rw[sx,sy]
 have:(bM++Array.replicate (n-bM.size) undef).getD x undef=bM.getD x undef:=by
  rw[zAX,zAX];rcases zCX x bM.size with hx|hx
  .rw[zEJ hx]
  .rw[zDL hx,zAW hx,zDZ];split<;>rfl
 rw[this];exact h.getD x VR.undef
def Vt (hk:Ok P P.funcs S) (hB:FB P S ex) (gV:ka P S (cK P S) (λ_ _=>False) ce) {f:Nat} (e:Fx P (fF P) ce n f args H=some (v,H1,R,W)) (hS:S f=true) (hx:ex f=false)
 {w:nq} (ha:AR S p args bM) (hr:Rl P S (cK P S) p H.get Fp w) (hG:Cu P S p) (hg:P.globals.size<=H.n) (hn:∀r,H.n<=r->r<H1.n->∀r',¬p r r') (hF:∀r,(R.testBit r=true\/W.testBit r=true)->Fp r) (fr:Frame):
 ∃v' w1 q,Steps P (lone (Frame.enter P f bM .normal) (fr::cs) w) (lone (fr.finish v') cs w1)/\VR S q v v'/\Mv (λr=>W.testBit r=true) p H.n w q H1.n w1/\Rl P S (cK P S) q H1.get Fp w1:=by
 unfold Fx at e;split at e<;>try(cases e;done)
 rename_i fn wW;split at e<;>try(cases e;done)
 rename_i body kE;split at e<;>try(cases e;done)
 rename_i j T1 iE Ha Ra Wa e1;cases hj:CF j<;>rw[hj]at e<;>simp only[zAS,zAQ]at e
 .cases e
 split at e<;>try(cases e;done)
 rename_i u Hb Rb Wb e2;split at e<;>try(cases e;done)
 rename_i x Hc Rc Wc e3;simp only[zAA,zAH]at e;obtain⟨rfl,rfl,rfl,rfl⟩:=e;have f1:=fY gV _ _ _ _ _ _ _ _ _ _ _ _ _ _ e1;have n1:=f1.1.nn;have n2:=(js _ _ _ _ _ e2).nn;have n3:=(bF P _ e3).nn;let b0:Frame:=Frame.enter P f bM .normal
 have Tq:lone (Frame.enter P f bM .normal) (fr::cs) w=lone (bB b0 (bM++Array.replicate (fn.ntmps-bM.size) undef) [] [.code body]) (fr::cs) w:=by
  simp[b0,bB,Frame.enter,wW,kE]
 rw[Tq];obtain⟨s1,s2⟩:=mT ha fn.ntmps;obtain⟨bR,oe,w1,q1,todo,a1,a2,a3,a4⟩:=mQ (b:=b0) (cs:=fr::cs) hk gV none hS n none body _ [] H j T1 iE Ha Ra Wa e1 (hB f fn body hS hx wW kE) (λ_ h=>by cases h) p _ [] w [] .none ⟨s1,hr,s2,.nil,hG,hg⟩ (λr x y=>hn r x (by omega)) (fZ hF);have Bp:=bA hn a2;obtain⟨w2,q2,b1,b2,b3⟩:=uQ (b:=b0) (cs:=fr::cs) (todo:=todo) (tm:=bR) iE e2 a3.dl a3.rl (by omega) (λr x y=>Bp r x (by omega)) (fZ (cA hF));have zK:=bA Bp b2;obtain⟨v',w3,q3,c1,c2,c3,c4⟩:=iu (SR.results (fn:=fn) (mv:=fn) rfl (iF a3.sz λx=>(a3.tr x).mono b2.le)) e3 b3 (by omega) zK (cA (cA hF));exact⟨v',w3,q3,a1.trans (.head (mS hj a4 rfl) (b1.trans (.one (rt (b:=b0) wW rfl c1 fr)))),c2,a2.or (b2.or c3),c4⟩
def JJ (hk:Ok P P.funcs S) (gV:ka P S (cK P S) (λ_ _=>False) ce) {f:Nat} {uo:Array fu} (e:qj P (fF P) ce n l f tmps assign body H=some (v,H1,R,W)) (hS:S f=true) (hca:cE P S assign=true) (hcb:cE P S body=true)
 {w:nq} (hl:p l l') (ha:AR S p tmps uo) (hr:Rl P S (cK P S) p H.get Fp w) (hG:Cu P S p) (hg:P.globals.size<=H.n) (hn:∀r,H.n<=r->r<H1.n->∀r',¬p r r') (hF:∀r,(R.testBit r=true\/W.testBit r=true)->Fp r) (fr:Frame):
 ∃v' w1 q,Steps P (lone (Frame.round l' f uo assign body .normal) (fr::cs) w) (lone (fr.finish v') cs w1)/\VR S q v v'/\Mv (λr=>W.testBit r=true) p H.n w q H1.n w1/\Rl P S (cK P S) q H1.get Fp w1:=by
 unfold qj at e;split at e<;>try(cases e;done)
 rename_i T1 iE Ha Ra Wa e1;split at e<;>try(cases e;done)
 rename_i u Hb Rb Wb e2;split at e<;>try(cases e;done)
 rename_i j T3 ds3 Hc Rc Wc e3;split at e<;>try(cases e;done)
 rename_i x Hd Rd Wd e4;simp only[zAA,zAH]at e;obtain⟨rfl,rfl,rfl,rfl⟩:=e;have n1:=(fY gV _ _ _ _ _ _ _ _ _ _ _ _ _ _ e1).1.nn;have n2:=(bF P _ e2).nn;have n3:=(fY gV _ _ _ _ _ _ _ _ _ _ _ _ _ _ e3).1.nn;have n4:=(bF P _ e4).nn;let b0:Frame:=Frame.round l' f uo assign body .normal
 have s2:∀x,VR S p (bS tmps.toList x) (uo.getD x undef):=λx=>by rw[sy];exact ha.getD x VR.undef
 obtain⟨iG,zed,w1,q1,ZG,a1,a2,a3,a4⟩:=mQ (b:=b0) (cs:=fr::cs) hk gV (some l) hS n none assign _ [] H none T1 iE Ha Ra Wa e1 hca (λ_ h=>by cases h) p uo [] w [.beginRound,.code body] (.some hl) ⟨by simp[ha.1],hr,s2,.nil,hG,hg⟩ (λr x y=>hn r x (by omega)) (fZ hF);have a4:ZG=_:=a4;subst a4;have Bp:=bA hn a2;obtain⟨u',w2,q2,b1,b2,b3,b4⟩:=iu (SR.beginRound (a2.le _ _ hl)) e2 a3.rl (by omega) (λr x y=>Bp r x (by omega)) (fZ (cA hF));have zK:=bA Bp b3;obtain⟨ru,zlg,w3,q3,zii,c1,c2,c3,c4⟩:=mQ (b:=b0) (cs:=fr::cs) hk gV (some l) hS n none body _ iE Hb j T3 ds3 Hc Rc Wc e3 hcb (λ_ h=>by cases h) q2 iG zed w2 [] (.some (b3.le _ _ (a2.le _ _ hl))) ⟨a3.sz,b4,λx=>(a3.tr x).mono b3.le,a3.dl.mono b3.le,a3.gl.mono b3.le,by omega⟩ (λr x y=>zK r x (by omega)) (fZ (cA (cA hF)));have XY:=bA zK c2
 have hj:∀c,j=some c->cE P S c=true:=λc hc=>by
  subst hc;cases c<;>first|rfl|exact c4.elim
 obtain⟨v',w4,q4,d1,d2,d3,d4⟩:=iu (SR.endRound (K:=cK P S) (c2.le _ _ (b3.le _ _ (a2.le _ _ hl))) j hj) e4 c3.rl (by omega) XY (cA (cA (cA hF)));exact⟨v',w4,q4,a1.trans (.head (wT (b:=b0) rfl b1) (c1.trans (.one (wV (b:=b0) c4 rfl rfl d1 fr)))),d2,a2.or (b3.or (c2.or d3)),d4⟩
def FC (hk:Ok P P.funcs S) (hB:FB P S ex):∀n,ka P S (cK P S) (λ_ _=>False) (ZC P ex n):=by
 intro n;induction n with
 |zero=>exact⟨λnx H v H1 R W e=>by simp[ZC,tq]at e,λnx H v H1 R W e=>by simp[ZC,tq]at e⟩
 |succ n ih=>
  refine⟨λnx H v H1 R W e=>?_,λnx H v H1 R W e p Fp w wC fr cs Lp hr hG hg hn hF=>?_⟩
  .cases nx<;>simp only[ZC,tq]at e<;>try(cases e;done)
   .rename_i f args;cases hx:ex f<;>rw[hx]at e<;>simp only[zAS,zAQ]at e
    .exact H6 ih e
    .cases e
   .exact uO ih e
  .cases Lp<;>simp only[ZC,tq]at e<;>try(cases e;done)
   .rename_i f xs cW hS ha;cases hx:ex f<;>rw[hx]at e<;>simp only[zAS,zAQ]at e;rotate_left
    .cases e
    obtain⟨v',w1,q,a1,a2,a3,a4⟩:=Vt (cs:=cs) hk hB ih e hS hx ha hr hG hg hn hF fr;refine .inl ⟨_,v',w1,rfl,a1,q,a2,a3,a4.mono λr x=>?_⟩;rcases x with x|⟨x,y⟩
    .exact x
    .exact hF r (.inr ((H6 ih e).nw r x y))
   .rename_i l l' f xs cW a c hl hf ha hca hcb _;obtain⟨v',w1,q,a1,a2,a3,a4⟩:=JJ (cs:=cs) hk ih e hf hca hcb hl ha hr hG hg hn hF fr;refine .inl ⟨_,v',w1,rfl,a1,q,a2,a3,a4.mono λr x=>?_⟩;rcases x with x|⟨x,y⟩
    .exact x
    .exact hF r (.inr ((uO ih e).nw r x y))
end
end Go.aC
