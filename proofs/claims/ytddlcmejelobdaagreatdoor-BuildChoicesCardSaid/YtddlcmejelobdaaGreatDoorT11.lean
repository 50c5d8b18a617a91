/- A part. Conditions: none. -/
import Derived.Test.YtddlcmejelobdaaGreatDoorT09
import Derived.Test.YtddlcmejelobdaaGreatDoorT10
import Derived.Orders
set_option linter.all false
namespace Go.aD
variable {D:Nat->Bool} {Fp:Nat->Prop} {Hs:Nat->Hp} {T T1:List fu} {Ts:Nat->List fu} {b:Frame} {ds:List Deferred} {i j:Nat} {ops:Array Oper} {p:Pi} {r':Operand->fu} {tm:Array fu} {τ:Nat->fu}
def bW:List fu->Nat->fu
 | [],_=>undef
 |x::_,0=>x
 |_::l,n+1=>bW l n
def nG:List fu->Nat->fu->List fu
 | [],_,_=>[]
 |_::l,0,v=>v::l
 |x::l,n+1,v=>x::nG l n v
def kB:∀(l:List fu) (n:Nat) (v:fu),(nG l n v).length=l.length
 | [],_,_=>rfl
 |_::_,0,_=>rfl
 |_::l,n+1,v=>by simp[nG,kB l n v]
def yF:∀(l:List fu) (n:Nat) (v:fu) (m:Nat),bW (nG l n v) m=if m=n/\n<l.length then v else bW l m
 | [],n,v,m=>by simp[nG,bW]
 |x::l,0,v,0=>by simp[nG,bW]
 |x::l,0,v,m+1=>by simp[nG,bW]
 |x::l,n+1,v,0=>by simp[nG,bW]
 |x::l,n+1,v,m+1=>by simp[nG,bW,yF l n v m]
def CS (τ:Nat->fu):Operand->fu
 |.tmp t=>τ t
 |.const v=>v
 |.global g=>.pointer (some ⟨g,0,none⟩)
 |.func f=>.func (.func f) #[] #[]
def t8 (T:List fu) (dst:Option Tmp) (v:fu):List fu:=match dst with
 |some d=>nG T d v
 |none=>T
def dX (P:un) (ce:Next->Hp->Rs fu) (r:Operand->fu) (o:Oper) (H:Hp):Rs fu:=
 match nF P r o H with
 |some (.value v,H1,R,W)=>some (v,H1,R,W)
 |some (.skip,H1,R,W)=>some (undef,H1,R,W)
 |some (nx,H1,R,W)=>match ce nx H1 with
  |some (v,H2,R2,W2)=>some (v,H2,R|||R2,W|||W2)
  |none=>none
 |none=>none
def CU (P:un) (S:Nat->Bool) (p:Pi):Prop:=∀g,g<P.globals.size->S (P.funcs.size+g)=true->p g g
def CU.mono {P:un} {S:Nat->Bool} {q:Pi} (h:CU P S p) (hq:Le p q):CU P S q:=λg a b=>hq _ _ (h g a b)
def ji (P:un) (qX:List PanicEntry->nq->Prop) (b:Frame) (ds:List Deferred) (cs:List Frame) (m:Machine):Prop:=
 ∃tm todo chain w1,Steps P m (lone ((bH b tm ds todo).raise chain) cs w1)/\qX chain w1
def ji.of_steps {P:un} {qX:List PanicEntry->nq->Prop} {cs:List Frame} {m m':Machine} (h:Steps P m m') (t:ji P qX b ds cs m'):ji P qX b ds cs m:=
 let⟨tm,todo,chain,w1,a,e⟩:=t;⟨tm,todo,chain,w1,h.trans a,e⟩
structure kQ (P:un) (S:Nat->Bool) (K:Kz) (qX:List PanicEntry->nq->Prop) (ce:Next->Hp->Rs fu):Prop where
 ft:∀nx H v H1 R W,ce nx H=some (v,H1,R,W)->Ft H R W H1
 run:∀nx H v H1 R W,ce nx H=some (v,H1,R,W)->∀(p:Pi) (Fp:Nat->Prop) (w:nq) (xi:Next) (fr:Frame) (cs:List Frame),NX S K p nx xi->Rl P S K p H.get Fp w->CU P S p->P.globals.size<=H.n->
  (∀r,H.n<=r->r<H1.n->∀r',¬p r r')->(∀r,(R.testBit r=true\/W.testBit r=true)->Fp r)->
  (zai P xi fr cs w λv' w1=>∃q,VR S q v v'/\Mv (λr=>W.testBit r=true) p H.n w q H1.n w1/\Rl P S K q H1.get (λr=>Fp r\/(H.n<=r/\r<H1.n)) w1)\/
  ∃g chain w1,sm P xi=some g/\Steps P (lone g (fr::cs) w) (lone (fr.raise chain) cs w1)/\qX chain w1
section
variable {P:un} {S:Nat->Bool} {K:Kz} {qX:List PanicEntry->nq->Prop} {ce:Next->Hp->Rs fu} {r:Operand->fu} {o:Oper} {H:Hp} {v:fu} {H1:Hp} {R W:Nat}
def yG (e:dX P ce r o H=some (v,H1,R,W)):
 nF P r o H=some (.value v,H1,R,W)\/(nF P r o H=some (.skip,H1,R,W)/\v=undef)\/
 ∃nx Ha Ra Wa Rb Wb,nF P r o H=some (nx,Ha,Ra,Wa)/\ce nx Ha=some (v,H1,Rb,Wb)/\R=Ra|||Rb/\W=Wa|||Wb:=by
 unfold dX at e;split at e
 .rename_i h;simp only[zAB,zAH]at e;obtain⟨rfl,rfl,rfl,rfl⟩:=e;exact .inl h
 .rename_i h;simp only[zAB,zAH]at e;obtain⟨rfl,rfl,rfl,rfl⟩:=e;exact .inr (.inl ⟨h,rfl⟩)
 .rename_i h;split at e<;>try(cases e;done)
  rename_i h2;simp only[zAB,zAH]at e;obtain⟨rfl,rfl,rfl,rfl⟩:=e;exact .inr (.inr ⟨_,_,_,_,_,_,h,h2,rfl,rfl⟩)
 .cases e
def M1 (iB:kQ P S K qX ce) (e:dX P ce r o H=some (v,H1,R,W)):Ft H R W H1:=by
 rcases yG e with h|⟨h,_⟩|⟨nx,Ha,Ra,Wa,Rb,Wb,h,h2,rfl,rfl⟩
 .exact uB h
 .exact uB h
 .exact(uB h).trans (iB.ft _ _ _ _ _ _ h2)
def FY {r:Operand->fu} (ho:kA P S o.op=true) (h:∀x∈o.op.operands,r x=r' x):nF P r o H=nF P r' o H:=by
 have hs:∀cs b,o.op≠ .select cs b:=λcs b e=>by
  rw[e]at ho;simp[kA,qI]at ho
 have e1:=execOp_congr o hs h
 have e2:mN r o.op=mN r' o.op:=by
  unfold mN;split
  .rename_i b as ts cr;split
   .rename_i x hx;rw[h x (by rw[cr];simp only[Op.operands,Call.operands];exact Array.mem_append_right _ (zDN hx))]
   .rfl
  .rename_i t x lo hi mx cr;rw[h x (by rw[cr];simp[Op.operands])]
  .rfl
 unfold nF;rw[e1,e2];cases mN r' o.op<;>simp only[zAU,zAR];split
 .rename_i t x lo hi mx cr;rw[h x (by rw[cr];simp[Op.operands])]
 .rename_i as ts cr;have:as.map r=as.map r':=Array.map_congr_left λx hx=>h x (by rw[cr];simp[Op.operands,Call.operands,hx]);rw[this]
 .rename_i s d x cr;rw[h x (by rw[cr];simp[Op.operands])]
 .rfl
def CV {r:Operand->fu} (ho:kA P S o.op=true) (h:∀x∈o.op.operands,r x=r' x):dX P ce r o H=dX P ce r' o H:=by
 unfold dX;rw[FY ho h]
def VJ (hG:CU P S p) {k:List Item} (hT:∀t,VR S p (τ t) (tm.getD t undef)):tX P S p (CS τ) (bH b tm ds k).eval:=
 ⟨λt=>hT t,λv=>⟨rfl,rfl⟩,λg a c=>.ptr 0 none (hG g a c),λf=>⟨rfl,rfl⟩⟩
def CW (ho:kA P S o.op=true):qW o.op=true:=by
 cases h:o.op<;>first|rfl|(rw[h]at ho;simp[kA,qI]at ho)
def QK (hk:Ok P P.funcs S) (hZ:Yn P K) (iB:kQ P S K qX ce) {w:nq} (ho:ops[i]?=some o) (uy:kA P S o.op=true) (hw:Region.wanted o (yielded ops tm)=true)
 (hT:∀t,VR S p (τ t) (tm.getD t undef)) (e:dX P ce (CS τ) o H=some (v,H1,R,W)) (hr:Rl P S K p H.get Fp w) (hG:CU P S p) (hg:P.globals.size<=H.n)
 (hn:∀r,H.n<=r->r<H1.n->∀r',¬p r r') (hF:∀r,(R.testBit r=true\/W.testBit r=true)->Fp r) (b:Frame) (ds:List Deferred) (rest:List Nat) (k:List Item) (cs:List Frame):
 (∃v' w1 q,Steps P (lone (bH b tm ds (.inRegion ops (i::rest)::k)) cs w) (lone (bH b (jM tm o.dst v') ds (.inRegion ops rest::k)) cs w1)/\VR S q v v'/\Mv (λr=>W.testBit r=true) p H.n w q H1.n w1/\Rl P S K q H1.get (λr=>Fp r\/(H.n<=r/\r<H1.n)) w1)\/
 ji P qX b ds cs (lone (bH b tm ds (.inRegion ops (i::rest)::k)) cs w):=by
 have hwf:ai P P.funcs=P:=rfl;have hex:=Ag (P:=P) (b:=b) (ds:=ds) (k:=k) (cs:=cs) (w:=w) (rest:=rest) ho hw (CW uy);have hE:=VJ (b:=b) (ds:=ds) (k:=.inRegion ops (i::rest)::k) hG hT;rcases yG e with h|⟨h,rfl⟩|⟨nx,Ha,Ra,Wa,Rb,Wb,h,h2,rfl,rfl⟩
 .obtain⟨xi,w1,q,c1,c2,c3,c4⟩:=pP hk hZ hE o uy h hr hg hn λr x=>.inr (hF r x);cases c2 with
  | @value _ v' hv=>
    refine .inl ⟨v',w1,q,.one ?_,hv,c3,c4⟩;rw[<-lB v' ho];refine bN rfl ?_;rw[hex];exact(jN rfl c1).1 v' rfl
 .obtain⟨xi,w1,q,c1,c2,c3,c4⟩:=pP hk hZ hE o uy h hr hg hn λr x=>.inr (hF r x);cases c2 with
  |skip=>
   refine .inl ⟨undef,w1,q,.one ?_,VR.undef,c3,c4⟩;rw[<-lB undef ho];refine bN rfl ?_;rw[hex];exact(jN rfl c1).2.1 rfl
 .have fa:=uB h;have fb:=iB.ft _ _ _ _ _ _ h2;have n1:=fa.nn;have n2:=fb.nn;obtain⟨xi,w1,q,c1,c2,c3,c4⟩:=pP hk hZ hE o uy h hr hg (λr a1 a2=>hn r a1 (by omega)) (λr sM=>.inr (hF r (sM.imp (λx=>by rw[zAP,x];rfl) λx=>by rw[zAP,x];rfl)))
  have zaj:=iB.run _ _ _ _ _ _ h2 q (λr=>Fp r\/(H.n<=r/\r<Ha.n)) w1 xi (bH b tm ds (.inRegion ops (i::rest)::k)) cs c2 c4 (hG.mono c3.le) (by omega) (λr a1 a2 r' hq=>by
   rcases c3.new r r' hq with x|⟨_,x,_⟩
   .exact hn r (by omega) a2 r' x
   .omega) (λr sM=>.inl (hF r (sM.imp (λx=>by rw[zAP,x,zBZ]) λx=>by rw[zAP,x,zBZ])))
  rcases zaj with⟨g,v',w2,d1,d2,q2,d3,d4,d5⟩|⟨g,chain,w2,d1,d2,d3⟩
  rotate_left
  .refine .inr ⟨_,_,chain,w2,.head (bN rfl ?_) d2,d3⟩;rw[hex];exact(jN rfl c1).2.2 g d1
  refine .inl ⟨v',w2,q2,?_,d3,c3.trans d4 (λr x=>by rw[zAP,x];rfl) (λr x=>by rw[zAP,x,zBZ]),d5.mono λr x=>?_⟩
  .rw[<-lB v' ho];refine .head (bN rfl ?_) d2;rw[hex];exact(jN rfl c1).2.2 g d1
  .rcases x with x|⟨a,b⟩
   .exact .inl (.inl x)
   .by_cases au:r<Ha.n
    .exact .inl (.inr ⟨a,au⟩)
    .exact .inr ⟨by omega,b⟩
end
section
variable {κ β:Type} (A:Nat->κ->β) (wr:Nat->κ->Bool)
def last (D:Nat->Bool):Nat->κ->β
 |0,k=>A 0 k
 |i+1,k=>if D i&&wr i k then A (i+1) k else last D i k
variable {A wr}
def uD {n:Nat} {k:κ} (hA:∀i,i<n->wr i k=false->A (i+1) k=A i k) (hi:i<=n) (h1:∀j,j<i->wr j k=true->D j=true) (h2:∀j,i<=j->j<n->wr j k=true->D j=false):
 last A wr D n k=A i k:=by
 have lo:∀m,m<=i->last A wr D m k=A m k:=by
  intro m;induction m with
  |zero=>intro _;rfl
  |succ m ih=>
   intro hm;simp only[last];cases hw:wr m k with
   |false=>simp only[Bool.and_false,zAL,zBC];rw[ih (by omega),hA m (by omega) hw]
   |true=>rw[h1 m (by omega) hw];rfl
 have uV:∀m,i<=m->m<=n->last A wr D m k=A i k:=by
  intro m;induction m with
  |zero=>intro a _;have:i=0:=by omega
         rw[this];rfl
  |succ m ih=>
   intro a b;by_cases e:i=m+1
   .rw[<-e];exact lo i (zAA i)
   .simp only[last];cases hw:wr m k with
    |false=>simp only[Bool.and_false,zAL,zBC];exact ih (by omega) (by omega)
    |true=>rw[h2 m (by omega) (by omega) hw];simp only[zGH,zAL,zBC];exact ih (by omega) (by omega)
 exact uV n hi (zAA n)
def add (D:Nat->Bool) (i:Nat):Nat->Bool:=λj=>j==i||D j
def Ah {k:κ} (h:wr i k=false):∀n,last A wr (add D i) n k=last A wr D n k:=by
 intro n;induction n with
 |zero=>rfl
 |succ n ih=>
  simp only[last,ih];by_cases e:n=i
  .subst e;rw[h];simp
  .have:add D i n=D n:=by simp[add,e]
   rw[this]
def Iq {k:κ} (h:wr i k=true):∀n,i<n->(∀j,i<j->j<n->wr j k=true->D j=false)->last A wr (add D i) n k=A (i+1) k:=by
 intro n;induction n with
 |zero=>intro a _;omega
 |succ n ih=>
  intro a b;simp only[last];by_cases e:n=i
  .subst e;rw[h];simp[add]
  .have e2:add D i n=D n:=by simp[add,e]
   rw[e2];cases hw:wr n k with
   |false=>simp only[Bool.and_false,zAL,zBC];exact ih (by omega) λj x y=>b j x (by omega)
   |true=>rw[b n (by omega) (by omega) hw];simp only[zGH,zAL,zBC];exact ih (by omega) λj x y=>b j x (by omega)
end
def jO (ops:Array Oper) (τ:Nat->fu) (j:Nat):Option Bool:=
 match(ops[j]?).bind (·.dst)with
 |some d=>match τ d with
  |.bool b=>some b
  |_=>none
 |none=>none
def qY (P:un) (ce:Next->Hp->Rs fu) (ops:Array Oper) (i:Nat) (T:List fu) (H:Hp):Rs (List fu):=
 match ops[i]? with
 |none=>none
 |some o=>bif Region.wanted o (jO ops (bW T))then match dX P ce (CS (bW T)) o H with
   |some (v,H1,R,W)=>some (t8 T o.dst v,H1,R,W)
   |none=>none
  else some (t8 T o.dst undef,H,0,0)
def sZ (T:List fu) (d:Option Tmp) (v:fu):(t8 T d v).length=T.length:=by
 cases d<;>simp[t8,kB]
def yH (T:Array fu) (d:Option Tmp) (v:fu):(jM T d v).size=T.size:=by
 cases d<;>simp[jM]
def sn (T:List fu) (d:Option Tmp) (v:fu) (t:Nat):bW (t8 T d v) t=if d=some t/\t<T.length then v else bW T t:=by
 cases d with
 |none=>simp[t8]
 |some d=>
  simp only[t8,yF,zAB];by_cases e:d=t
  .subst e;simp
  .have:¬t=d:=λh=>e h.symm;simp[e,this]
def yI (T:Array fu) (d:Option Tmp) (v:fu) (t:Nat):(jM T d v).getD t undef=if d=some t/\t<T.size then v else T.getD t undef:=by
 cases d with
 |none=>simp[jM]
 |some d=>
  simp only[jM,zAB,zBA,zBL];by_cases e:d=t
  .subst e;by_cases h:d<T.size<;>simp[h]
  .simp[e]
section
variable {P:un} {S:Nat->Bool} {K:Kz} {qX:List PanicEntry->nq->Prop} {ce:Next->Hp->Rs fu}
def JW {o:Oper} (h:∀g b d,o.guard=some (g,b)->(ops[g]?).bind (·.dst)=some d->VR S p (τ d) (tm.getD d undef)):
 Region.wanted o (yielded ops tm)=Region.wanted o (jO ops τ):=by
 unfold Region.wanted;cases hg:o.guard with
 |none=>rfl
 |some gb=>
  obtain⟨g,b⟩:=gb;simp only
  have:yielded ops tm g=jO ops τ g:=by
   unfold yielded jO;cases hd:(ops[g]?).bind (·.dst)with
   |none=>rfl
   |some d=>
    have hv:=h g b d hg hd;simp only[zDT];rw[zBA]at hv;cases hx:tm[d]? with
    |none=>
     rw[hx]at hv;simp only[Option.getD_none]at hv;generalize τ d=x at hv;cases hv<;>first|rfl|(rename_i h;cases h)
    |some y=>
     rw[hx]at hv;simp only[zAD]at hv;generalize τ d=x at hv;cases hv<;>first|rfl|(rename_i h;cases y<;>first|rfl|cases h)
  rw[this]
def lC {H:Hp} {H1:Hp} {R W:Nat} (e:qY P ce ops i T H=some (T1,H1,R,W)):
 ∃o,ops[i]?=some o/\((Region.wanted o (jO ops (bW T))=true/\∃v,dX P ce (CS (bW T)) o H=some (v,H1,R,W)/\T1=t8 T o.dst v)\/
  (Region.wanted o (jO ops (bW T))=false/\T1=t8 T o.dst undef/\H1=H/\R=0/\W=0)):=by
 unfold qY at e;split at e
 .cases e
 .rename_i o ho;refine⟨o,ho,?_⟩;cases hw:Region.wanted o (jO ops (bW T))<;>rw[hw]at e<;>simp only[zAU,zAR]at e
  .simp only[zAB,zAH]at e;obtain⟨rfl,rfl,rfl,rfl⟩:=e;exact .inr ⟨rfl,rfl,rfl,rfl,rfl⟩
  .split at e<;>try(cases e;done)
   rename_i v H2 R2 W2 ha;simp only[zAB,zAH]at e;obtain⟨rfl,rfl,rfl,rfl⟩:=e;exact .inl ⟨rfl,v,ha,rfl⟩
def qZ (iB:kQ P S K qX ce) {H:Hp} {H1:Hp} {R W:Nat} (e:qY P ce ops i T H=some (T1,H1,R,W)):Ft H R W H1:=by
 obtain⟨o,_,h⟩:=lC e;rcases h with⟨_,v,h,_⟩|⟨_,_,rfl,rfl,rfl⟩
 .exact M1 iB h
 .exact Ft.refl _
structure Yo (P:un) (ce:Next->Hp->Rs fu) (ops:Array Oper) (Ts:Nat->List fu) (Hs:Nat->Hp) (R W:Nat->Nat):Prop where
 one:∀i,i<ops.size->qY P ce ops i (Ts i) (Hs i)=some (Ts (i+1),Hs (i+1),R i,W i)
def Good (Fo:Nat->Nat->Prop) (n:Nat):(Nat->Bool)->List Nat->Prop
 |D,[]=>∀i,i<n->D i=true
 |D,i::l=>i<n/\D i=false/\(∀a,Fo a i->D a=true)/\Good Fo n (add D i) l
def ET (W:Nat->Nat) (i r:Nat):Bool:=(W i).testBit r
def EU (ops:Array Oper) (i t:Nat):Bool:=(ops[i]?).bind (·.dst)==some t
def zak (R W:Nat->Nat) (i j:Nat):Prop:=∀r,((W i).testBit r=true->(R j).testBit r=false/\(W j).testBit r=false)/\((W j).testBit r=true->(R i).testBit r=false)
def Yo.M2 {R W:Nat->Nat} (t:Yo P ce ops Ts Hs R W) (iB:kQ P S K qX ce) (hj:j<=ops.size) (h:i<=j):(Hs i).n<=(Hs j).n:=by
 induction j with
 |zero=>have:i=0:=by omega
        subst this;exact zAA _
 |succ j ih=>
  by_cases e:i=j+1
  .subst e;exact zAA _
  .exact zAM (ih (by omega) (by omega)) (qZ iB (t.one j (by omega))).nn
def Yo.length {R W:Nat->Nat} (t:Yo P ce ops Ts Hs R W) (hj:j<=ops.size):(Ts j).length=(Ts 0).length:=by
 induction j with
 |zero=>rfl
 |succ j ih=>
  rw[<-ih (by omega)];obtain⟨o,_,h⟩:=lC (t.one j (by omega));rcases h with⟨_,v,_,h⟩|⟨_,h,_⟩<;>rw[h,sZ]
def QL (hk:Ok P P.funcs S) (hZ:Yn P K) (iB:kQ P S K qX ce) (ve:∀(i:Nat) (o:Oper),ops[i]?=some o->kA P S o.op=true)
 {R W:Nat->Nat} (t:Yo P ce ops Ts Hs R W) {Fo:Nat->Nat->Prop}
 (hm:∀i j,i<j->j<ops.size->Fo i j\/zak R W i j) (ht:∀(i j:Nat) (oi oj:Oper),i<j->ops[i]?=some oi->ops[j]?=some oj->Fo i j\/oi.apart ops oj=true)
 (hg:P.globals.size<=(Hs 0).n) (hFp:∀i,i<ops.size->∀r,((R i).testBit r=true\/(W i).testBit r=true)->Fp r) (b:Frame) (ds:List Deferred) (k:List Item) (cs:List Frame):
 ∀(l:List Nat) (D:Nat->Bool) (p:Pi) (tm:Array fu) (w:nq),Good Fo ops.size D l->(∀a c,Fo a c->D c=true->D a=true)->tm.size=(Ts 0).length->
  Rl P S K p (last (λi=>(Hs i).get) (ET W) D ops.size) Fp w->(∀x,VR S p (last (λi=>bW (Ts i)) (EU ops) D ops.size x) (tm.getD x undef))->CU P S p->
  (∀j,j<ops.size->D j=false->∀r,(Hs j).n<=r->r<(Hs (j+1)).n->∀r',¬p r r')->
  (∃bV w' q,Steps P (lone (bH b tm ds (.inRegion ops l::k)) cs w) (lone (bH b bV ds (.inRegion ops []::k)) cs w')/\bV.size=(Ts 0).length/\
    Mv (λr=>∃i,i<ops.size/\(W i).testBit r=true) p (Hs 0).n w q (Hs ops.size).n w'/\Rl P S K q (Hs ops.size).get Fp w'/\∀x,VR S q (bW (Ts ops.size) x) (bV.getD x undef))\/
  ji P qX b ds cs (lone (bH b tm ds (.inRegion ops l::k)) cs w):=by
 have mono:=λi j=>t.M2 (i:=i) (j:=j) iB;have TG:∀i,i<ops.size->∀r,ET W i r=false->(Hs (i+1)).get r=(Hs i).get r:=λi hi r hr=>(qZ iB (t.one i hi)).same r hr
 have TH:∀i,i<ops.size->∀x,EU ops i x=false->bW (Ts (i+1)) x=bW (Ts i) x:=λi hi x hx=>by
  obtain⟨o,ho,h⟩:=lC (t.one i hi);have hd:¬(o.dst=some x):=λe=>by simp[EU,ho,e]at hx
  rcases h with⟨_,v,_,h⟩|⟨_,h,_⟩<;>rw[h,sn,zAG (λa=>hd a.1)]
 intro l;induction l with
 |nil=>
  intro D p tm w hl hD cB hr hT hG hn;have hl:=hl;refine .inl ⟨tm,w,p,.refl _ _,cB,(Mv.refl _ p _ w).wide (zAA _) (mono 0 ops.size (zAA _) (zAJ _)),hr.congr λr _=>?_,λx=>?_⟩
  .exact(uD (A:=λi=>(Hs i).get) (wr:=ET W) (k:=r) (λi hi h=>TG i hi r h) (zAA _) (λj hj _=>hl j hj) (λj a b _=>by omega)).symm
  .rw[<-uD (A:=λi=>bW (Ts i)) (wr:=EU ops) (k:=x) (λi hi h=>TH i hi x h) (zAA _) (λj hj _=>hl j hj) (λj a b _=>by omega)];exact hT x
 |cons i l ih=>
  intro D p tm w hl hD cB hr hT hG hn;obtain⟨hi,Yp,vx,hl⟩:=hl;have e1:=t.one i hi;have ES:=qZ iB e1;obtain⟨o,ho,lq⟩:=lC e1
  have later:∀j,i<j->Fo i j->D j=false:=λj hj hf=>by
   cases hx:D j with
   |false=>rfl
   |true=>rw[hD i j hf hx]at Yp;cases Yp
  have TI:∀r,((R i).testBit r=true\/(W i).testBit r=true)->(Hs i).get r=last (λi=>(Hs i).get) (ET W) D ops.size r:=λr hr=>by
   refine(uD (A:=λi=>(Hs i).get) (wr:=ET W) (k:=r) (λi hi h=>TG i hi r h) (zFC hi) (λj hj hw=>?_) (λj a c hw=>?_)).symm
   .rcases hm j i hj hi with h|h
    .exact vx j h
    .have:=(h r).1 hw;rcases hr with x|x<;>simp_all
   .by_cases e:j=i
    .subst e;exact Yp
    .have sL:i<j:=by omega
     rcases hm i j sL c with h|h
     .exact later j sL h
     .have h2:=h r;have hw:(W j).testBit r=true:=hw;rcases hr with x|x
      .have:=h2.2 hw;rw[x]at this;cases this
      .have:=(h2.1 x).2;rw[hw]at this;cases this
  have M3:∀x,x∈o.looksAt ops->last (λi=>bW (Ts i)) (EU ops) D ops.size x=bW (Ts i) x:=λx hx=>by
   refine uD (A:=λi=>bW (Ts i)) (wr:=EU ops) (k:=x) (λi hi h=>TH i hi x h) (zFC hi) (λj hj hw=>?_) (λj a c hw=>?_)
   .have hjs:j<ops.size:=by omega
    have JA:ops[j]?=some ops[j]:=zAK hjs;have hd:ops[j].dst=some x:=by simpa [EU,JA]using hw
    rcases ht j i _ _ hj JA ho with h|h
    .exact vx j h
    .exact absurd hx ((Oper.apart_spec h).1 x hd)
   .by_cases e:j=i
    .subst e;exact Yp
    .have sL:i<j:=by omega
     have JA:ops[j]?=some ops[j]:=zAK c;have hd:ops[j].dst=some x:=by simpa [EU,JA]using hw
     rcases ht i j _ _ sL ho JA with h|h
     .exact later j sL h
     .exact absurd hx ((Oper.apart_spec h).2.2 x hd)
  have nB:Region.wanted o (yielded ops tm)=Region.wanted o (jO ops (bW (Ts i))):=by
   refine JW (S:=S) (p:=p) λg c d Po hd=>?_;rw[<-M3 d (by simp[Oper.looksAt,Po,hd])];exact hT d
  have Ir:∀a c,Fo a c->add D i c=true->add D i a=true:=λa c hac hc=>by
   simp only[add,zBQ,beq_iff_eq]at hc⊢;rcases hc with rfl|hc
   .exact .inr (vx a hac)
   .exact .inr (hD a c hac hc)
  have Is:∀{v v':fu} {q:Pi},Le p q->VR S q v v'->Ts (i+1)=t8 (Ts i) o.dst v->∀x,VR S q (last (λi=>bW (Ts i)) (EU ops) (add D i) ops.size x) ((jM tm o.dst v').getD x undef):=λ{v v' q} hq hv hT1 x=>by
   rw[yI];cases hw:EU ops i x with
   |false=>
    have hd:¬(o.dst=some x):=λe=>by simp[EU,ho,e]at hw
    rw[Ah hw,zAG λa=>hd a.1];exact(hT x).mono hq
   |true=>
    have hd:o.dst=some x:=by simpa [EU,ho]using hw
    rw[Iq hw ops.size hi λj sL c hwj=>?_]
    .rw[hT1,sn,t.length (zFC hi),<-cB];by_cases au:x<tm.size
     .rw[zAE ⟨hd,au⟩,zAE ⟨hd,au⟩];exact hv
     .rw[zAG λa=>au a.2,zAG λa=>au a.2];have e2:tm.getD x undef=undef:=by rw[zBA,zAY (by omega)];rfl
      have e3:bW (Ts i) x=undef:=by
       have:∀(L:List fu) n,L.length<=n->bW L n=undef:=by
        intro L;induction L with
        |nil=>intro n _;rfl
        |cons y L ih=>intro n hn;cases n with
         |zero=>simp at hn
         |succ n=>exact ih n (by simpa using hn)
       exact this _ _ (by rw[t.length (zFC hi),<-cB];omega)
      rw[e2,e3];exact VR.undef
    .have JA:ops[j]?=some ops[j]:=zAK c;have Yd:ops[j].dst=some x:=by simpa [EU,JA]using hwj
     rcases ht i j _ _ sL ho JA with h|h
     .exact later j sL h
     .exact absurd Yd ((Oper.apart_spec h).2.1 x hd)
  have CX:∀{q:Pi} {w1:nq},Mv (λr=>(W i).testBit r=true) p (Hs i).n w q (Hs (i+1)).n w1->∀j,j<ops.size->add D i j=false->∀r,(Hs j).n<=r->r<(Hs (j+1)).n->∀r',¬q r r':=λ{q w1} tY j hj hDj r h1 h2 r' hq=>by
   simp only[add,zGD,zEU,ne_eq]at hDj;rcases tY.new r r' hq with x|⟨a,c,_⟩
   .exact hn j hj hDj.2 r h1 h2 r' x
   .rcases Nat.lt_or_gt_of_ne hDj.1 with h|h
    .have:=mono (j+1) i (by omega) (by omega);omega
    .have:=mono (i+1) j (by omega) (by omega);omega
  have m0:=mono 0 i (zFC hi) (zAJ _);have m1:=mono (i+1) ops.size (zAA _) hi;have M4:∀{q:Pi} {w1:nq},Mv (λr=>(W i).testBit r=true) p (Hs i).n w q (Hs (i+1)).n w1->Mv (λr=>∃i,i<ops.size/\(W i).testBit r=true) p (Hs 0).n w q (Hs ops.size).n w1:=λh=>(h.wide m0 m1).mono λr x=>⟨i,hi,x⟩
  rcases lq with⟨hw,v,bA,hT1⟩|⟨hw,hT1,hH1,hR,hW⟩
  .have ze1:dX P ce (CS (last (λi=>bW (Ts i)) (EU ops) D ops.size)) o (Hs i)=some (v,Hs (i+1),R i,W i):=by
    rw[<-bA];refine CV (ve i o ho) λx hx=>?_;cases x with
    |tmp x=>exact M3 x (zGE _ (List.mem_filterMap.2 ⟨.tmp x,by simpa using hx,rfl⟩))
    |_=>rfl
   have ze2:=QK hk hZ iB (Fp:=λr=>(R i).testBit r=true\/(W i).testBit r=true) ho (ve i o ho) (nB.trans hw) hT ze1 ((hr.mono (hFp i hi)).congr λr x=>TI r x) hG (by omega) (hn i hi Yp) (λr x=>x) b ds l k cs;rcases ze2 with⟨v',w1,q,c1,c2,c3,c4⟩|M5;rotate_left
   .exact .inr M5
   have kP:∀r,(W i).testBit r=true->((Hs i).n<=r/\r<(Hs (i+1)).n)\/(last (λi=>(Hs i).get) (ET W) D ops.size r).isSome:=λr hr=>(ES.wr r hr).imp id λx=>by rw[<-TI r (.inr hr)];exact x
   have zan:=hr.join c3 c4 (h2:=last (λi=>(Hs i).get) (ET W) (add D i) ops.size) (λr x=>.inl (.inr x)) (λr x=>hFp i hi r (.inr x)) ES.nw (hn i hi Yp) kP (λr x=>Iq (wr:=ET W) x ops.size hi λj sL c hwj=>by
    rcases hm i j sL c with h|h
    .exact later j sL h
    .have h2:=((h r).1 x).2;have hwj:(W j).testBit r=true:=hwj;rw[hwj]at h2;cases h2) (λr x=>Ah (wr:=ET W) (by simpa [ET]using x) ops.size)
   rcases ih (add D i) q (jM tm o.dst v') w1 hl Ir (by rw[yH];exact cB) zan (Is c3.le c2 hT1) (hG.mono c3.le) (CX c3)with⟨bV,w',q',d1,d2,d3,d4,d5⟩|M5;rotate_left
   .exact .inr (.of_steps c1 M5)
   exact .inl ⟨bV,w',q',c1.trans d1,d2,(M4 c3).MY d3 (λ_ x=>x) (λ_ x=>x),d4,d5⟩
  .have pr:∀r,last (λi=>(Hs i).get) (ET W) (add D i) ops.size r=last (λi=>(Hs i).get) (ET W) D ops.size r:=λr=>Ah (wr:=ET W) (by simp[ET,hW]) ops.size;have tY:Mv (λr=>(W i).testBit r=true) p (Hs i).n w p (Hs (i+1)).n w:=(Mv.refl _ p _ w).wide (zAA _) ES.nn;rcases ih (add D i) p (jM tm o.dst undef) w hl Ir (by rw[yH];exact cB) (hr.congr λr _=>pr r) (Is (Le.refl p) VR.undef hT1) hG (CX tY)with⟨bV,w',q',d1,d2,d3,d4,d5⟩|M5;rotate_left
   .exact .inr (.of_steps (.one (pv ho (nB.trans hw))) M5)
   exact .inl ⟨bV,w',q',.head (pv ho (nB.trans hw)) d1,d2,(M4 tY).MY d3 (λ_ x=>x) (λ_ x=>x),d4,d5⟩
end
end Go.aD
namespace Go.aD
open Go.aD (Tx LS)
variable {H H1:Hp} {R R1 W W1 j n:Nat} {T T1:List fu} {draw:Bool} {l:List Nat} {listed:Array Bool} {m:Region.Mode}
inductive gF (ops:Array Oper):Nat->Nat->Prop
 |VK {i j:Nat} {o:Oper} {e:Edge} (h:ops[j]?=some o) (he:e∈o.after) (hb:Region.binds .any e=true) (hi:e.on=i):gF ops i j
 |step {i k j:Nat} {o:Oper} {e:Edge} (t:gF ops i k) (h:ops[j]?=some o) (he:e∈o.after) (hb:Region.binds .any e=true) (hi:e.on=k):gF ops i j
def JX (m i:Nat):Bool:=Nat.beq (Nat.land 1 (Nat.shiftRight m i)) 1
def CY {m i:Nat} (h:JX m i=true):m.testBit i=true:=by
 have h:=zAN h;have h:1&&&(m>>>i)=1:=h;simp[Nat.testBit,h]
def vJ:List Nat->Nat->Nat
 | [],_=>0
 |x::_,0=>x
 |_::l,n+1=>vJ l n
def Ai:∀(l:List Nat) (n:Nat),vJ l n=(l[n]?).getD 0
 | [],n=>rfl
 |x::l,0=>rfl
 |x::l,n+1=>by simp[vJ,Ai l n]
def VL (l:List Nat):List Edge->Nat->Nat
 | [],m=>m
 |e::es,m=>VL l es (bif Region.binds .any e then Nat.lor m (Nat.lor (2^e.on) (vJ l e.on))else m)
def ub (ops:Array Oper):Nat->List Nat
 |0=>[]
 |n+1=>ub ops n++[match ops[n]? with|none=>0|some o=>VL (ub ops n) o.after.toList 0]
def kC (ops:Array Oper):∀n,(ub ops n).length=n
 |0=>rfl
 |n+1=>by simp[ub,kC ops n]
def JY {ops:Array Oper} {o:Oper} (ho:ops[j]?=some o) (hl:∀k i,(vJ l k).testBit i=true->gF ops i k):∀(es:List Edge) (m:Nat),(∀e∈es,e∈o.after)->(∀i,m.testBit i=true->gF ops i j)->∀i,(VL l es m).testBit i=true->gF ops i j:=by
 intro es;induction es with
 |nil=>intro m _ hm i h;exact hm i h
 |cons e es ih=>
  intro m he hm i h;refine ih _ (λx hx=>he x (zAS _ hx)) (λi h=>?_) i h;cases hb:Region.binds .any e<;>rw[hb]at h<;>simp only[zAU,zAR]at h
  .exact hm i h
  .have h:(m|||(2^e.on|||vJ l e.on)).testBit i=true:=h;rw[zAP,zAP,zBQ,zBQ]at h;rcases h with h|h|h
   .exact hm i h
   .rw[tb]at h;exact .VK ho (he e (by simp)) hb h.symm
   .exact .step (hl _ _ h) ho (he e (by simp)) hb rfl
def yJ (ops:Array Oper):∀n k i,(vJ (ub ops n) k).testBit i=true->gF ops i k:=by
 intro n;induction n with
 |zero=>intro k i h;simp[ub,vJ]at h
 |succ n ih=>
  intro k i h;rw[Ai]at h;simp only[ub]at h;rcases zDA k n with hk|hk
  .rw[zBR (by rw[kC];exact hk),<-Ai]at h;exact ih k i h
  .rw[zDI (by rw[kC];exact hk),kC]at h;by_cases e:k=n
   .subst e;simp only[Nat.sub_self,zBB,zAD]at h;cases ho:ops[k]? with
    |none=>rw[ho]at h;simp at h
    |some o=>
     rw[ho]at h;exact JY ho ih o.after.toList 0 (λe he=>by simpa using he) (λi h=>by simp at h) i h
   .rw[zCT (by simp;omega)]at h;simp at h
def Pv (listed:Array Bool):Nat->Nat
 |0=>0
 |m+1=>Pv listed m+(bif listed.getD m true then 0 else 1)
def CZ {listed:Array Bool}:∀{m:Nat},Pv listed m=0->∀i,i<m->listed.getD i true=true
 |0,_,i,hi=>absurd hi (zDK _)
 |m+1,h,i,hi=>by
  simp only[Pv]at h;by_cases e:i=m
  .subst e;cases hx:listed.getD i true with
   |true=>rfl
   |false=>rw[hx]at h;simp at h
  .exact CZ (m:=m) (by omega) i (by omega)
def It {listed:Array Bool} {i:Nat} (hi:listed.getD i true=false):∀{m:Nat},Pv (listed.setIfInBounds i true) m+(if i<m then 1 else 0)=Pv listed m
 |0=>by simp[Pv]
 |m+1=>by
  have ih:=It hi (m:=m);simp only[Pv];by_cases e:i=m
  .subst e
   have au:i<listed.size:=by
    rcases zDA i listed.size with h|h
    .exact h
    .simp[h]at hi
   have:(listed.setIfInBounds i true).getD i true=true:=by simp[au]
   rw[this,hi];simp only[zEV,zBC,zBT,zBM,zAU,zAR]at ih⊢;omega
  .rw[Go.getD_set_ne true e];by_cases h:i<m
   .rw[zAE h]at ih;rw[zAE (by omega)];omega
   .rw[zAG h]at ih;rw[zAG (by omega)];omega
def Iu {ops:Array Oper}:j∈LS m ops listed↔listed.getD j true=false/\∃o,ops[j]?=some o/\∀e∈o.after,Region.binds m e=true->listed.getD e.on false=true:=
 Go.mem_ready
def yK {e:Edge} (h:Region.binds .any e=true):Region.binds m e=true:=by
 unfold Region.binds at*;split at h<;>first|(cases h;done)|rfl
def jP {Fo:Nat->Nat->Prop}:∀{l:List Nat} {D E:Nat->Bool},(∀i,i<n->D i=E i)->(∀a b,Fo a b->b<n->a<n)->Good Fo n D l->Good Fo n E l
 | [],D,E,h,_,g=>λi hi=>by rw[<-h i hi];exact g i hi
 |i::l,D,E,h,hFo,⟨g1,g2,g3,g4⟩=>⟨g1,by rw[<-h i g1];exact g2,λa ha=>by rw[<-h a (hFo a i ha g1)];exact g3 a ha,jP (λj hj=>by simp only[add,h j hj]) hFo g4⟩
section
variable {ops:Array Oper} (hE:∀ (i:Nat) (o:Oper) (e:Edge),ops[i]?=some o->e ∈ o.after->Region.binds .any e=true->e.on < i)
include hE
def yL {a b:Nat} (h:gF ops a b):a<b:=by
 induction h with
 |VK h he hb hi=>have:=hE _ _ _ h he hb;omega
 |step t h he hb hi ih=>have:=hE _ _ _ h he hb;omega
def M6 {C0:Nat->Nat} (hR:∀(i:Nat) (o:Oper) (e:Edge),ops[i]?=some o->e∈o.after->Region.binds m e=true->e.on<ops.size/\C0 e.on<C0 i)
 (h:Tx m ops n listed l):listed.size=ops.size->Pv listed ops.size<=n->
 (∀a b,gF ops a b->listed.getD b false=true->listed.getD a false=true)->Good (gF ops) ops.size (λj=>listed.getD j false) l:=by
 induction h with
 | @stop n listed h=>
   intro hs hu hc i hi
   have all:∀i,i<ops.size->listed.getD i true=true:=by
    rcases h with h|h
    .subst h;exact CZ (by omega)
    .have:∀k i,C0 i=k->i<ops.size->listed.getD i true=true:=by
      intro k;induction k using Nat.strongRecOn with
      |ind k ih=>
       intro i hk hi;cases hx:listed.getD i true with
       |true=>rfl
       |false=>
        have ho:ops[i]?=some ops[i]:=zAK hi
        have:i∈LS m ops listed:=Iu.2 ⟨hx,_,ho,λe he hb=>by
         obtain⟨h1,h2⟩:=hR _ _ _ ho he hb;have:=ih (C0 e.on) (by omega) e.on rfl h1;have h2:e.on<listed.size:=by omega
         simpa [h2]using this⟩
        rw[h]at this;cases this
     exact λi hi=>this _ i rfl hi
   have:=all i hi;have h2:i<listed.size:=by omega
   simpa [h2]using this
 | @next n i listed l h t ih=>
   intro hs hu hc;obtain⟨h1,o,ho,h2⟩:=Iu.1 h;have hi:i<ops.size:=(zAC.1 ho).1;have his:i<listed.size:=by omega
   have vx:∀a,gF ops a i->listed.getD a false=true:=λa ha=>by
    cases ha with
    |VK h he hb hi=>rw[ho]at h;cases h;rw[<-hi];exact h2 _ he (yK hb)
    |step t h he hb hi=>rw[ho]at h;cases h;exact hc _ _ t (by rw[<-hi];exact h2 _ he (yK hb))
   have e1:∀j,j<ops.size->(listed.setIfInBounds i true).getD j false=add (λj=>listed.getD j false) i j:=λj hj=>by
    by_cases e:j=i
    .subst e;simp[add,his]
    .rw[Go.getD_set_ne false (Ne.symm e)];simp only[add,beq_false_of_ne e,zDZ]
   refine⟨hi,by simpa [his]using h1,vx,?_⟩;have au:∀a b,gF ops a b->b<ops.size->a<ops.size:=λa b qE hb=>Nat.lt_trans (yL hE qE) hb;refine jP (λj hj=>e1 j hj) au (ih (by simpa using hs) ?_ λa b qE hb=>?_)
   .have:=It h1 (m:=ops.size);rw[zAE hi]at this;omega
   .by_cases e:i=b
    .subst e;exact Go.getD_set_true (vx a qE)
    .rw[Go.getD_set_ne false e]at hb;exact Go.getD_set_true (hc a b qE hb)
end
def yM:∀(n m:Nat),Pv (Array.replicate n false) m<=m
 |n,0=>zAA _
 |n,m+1=>by
  have:=yM n m;simp only[Pv];cases(Array.replicate n false).getD m true<;>simp<;>omega
def pos:List Nat->Nat->Nat
 | [],_=>0
 |x::l,i=>bif Nat.beq x i then 0 else pos l i+1
def oF (ops:Array Oper):Bool:=
 ((List.range ops.size).all λi=>match ops[i]? with|some o=>o.after.all λe=>Nat.blt e.on ops.size&&(!(Region.binds .any e||Region.binds .text e)||Nat.blt e.on i)|none=>true)&&
 (!Region.departs ops||(let l:=Region.linearise .gc ops 0;(List.range ops.size).all λi=>match ops[i]? with|some o=>o.after.all λe=>!Region.binds .gc e||Nat.blt (pos l e.on) (pos l i)|none=>true))
def vK {ops:Array Oper} (h:oF ops=true):
 (∀(i:Nat) (o:Oper) (e:Edge),ops[i]?=some o->e∈o.after->Region.binds .any e=true->e.on<i)/\
 ∀m,(m=.gc->Region.departs ops=true)->∃C0:Nat->Nat,∀(i:Nat) (o:Oper) (e:Edge),ops[i]?=some o->e∈o.after->Region.binds m e=true->e.on<ops.size/\C0 e.on<C0 i:=by
 simp only[oF,zAF]at h
 have arr:∀{f:Edge->Bool} {a:Array Edge},a.all f=true->∀e∈a,f e=true:=λ{f a} h e he=>by
  obtain⟨j,hj,hje⟩:=zCJ.1 he;have h3:=zBP.1 h j hj;rw[hje]at h3;exact h3
 have h1:∀(i:Nat) (o:Oper) (e:Edge),ops[i]?=some o->e∈o.after->e.on<ops.size/\((Region.binds .any e=true\/Region.binds .text e=true)->e.on<i):=λi o e ho he=>by
  have hi:i<ops.size:=(zAC.1 ho).1;have:=zCM.1 h.1 i (zDB.2 hi);rw[ho]at this;have:=arr this e he;simp only[zAF]at this;refine⟨zAZ (zBT _) (zBG this.1),λhb=>?_⟩;have h2:=this.2;rw[show(Region.binds .any e||Region.binds .text e)=true by rcases hb with x|x<;>simp[x]]at h2;exact zAZ (zBT _) (zBG h2)
 refine⟨λi o e ho he hb=>(h1 i o e ho he).2 (.inl hb),λm hm=>?_⟩;cases m with
 |text=>exact⟨id,λi o e ho he hb=>⟨(h1 i o e ho he).1,(h1 i o e ho he).2 (.inr hb)⟩⟩
 |any=>exact⟨id,λi o e ho he hb=>⟨(h1 i o e ho he).1,(h1 i o e ho he).2 (.inl hb)⟩⟩
 |gc=>
  have h2:=h.2;rw[hm rfl]at h2;simp only[zEJ,zDZ]at h2;refine⟨pos (Region.linearise .gc ops 0),λi o e ho he hb=>⟨(h1 i o e ho he).1,?_⟩⟩;have hi:i<ops.size:=(zAC.1 ho).1;have:=zCM.1 h2 i (zDB.2 hi);rw[ho]at this;have:=arr this e he;rw[hb]at this;exact zAZ (zBT _) (zBG this)
def xG {ops:Array Oper} (hE:oF ops=true) (mixed:Bool) (t:Nat):Good (gF ops) ops.size (λ_=>false) (Region.schedule mixed ops t):=by
 obtain⟨hA,hR⟩:=vK hE
 have key:∀m t,(m=.gc->Region.departs ops=true)->Good (gF ops) ops.size (λ_=>false) (Region.linearise m ops t):=λm t hm=>by
  obtain⟨C0,q7⟩:=hR m hm
  have hr:∀j,(Array.replicate ops.size false).getD j false=false:=λj=>by
   rw[zBA,zDX];split<;>rfl
  refine jP (λj _=>hr j) (λa b qE hb=>Nat.lt_trans (yL hA qE) hb) (M6 hA q7 (Go.aD.FM m ops t) (by simp) (yM _ _) λa b qE hb=>?_);rw[hr]at hb;cases hb
 unfold Region.schedule;split
 .exact key _ _ λh=>by cases h
 .rename_i hc
  have hd:Region.departs ops=true:=by
   cases hx:Region.departs ops with
   |true=>rfl
   |false=>rw[hx]at hc;simp at hc
  exact key _ _ λ_=>hd
def vL (n:Nat):∀(m i:Nat),i+m=n->Good (·<·) n (λj=>decide (j<i)) (List.range' i m)
 |0,i,h=>λj hj=>by simp;omega
 |m+1,i,h=>by
  refine⟨by omega,by simp,λa ha=>by simpa using ha,?_⟩;refine jP (D:=λj=>decide (j<i+1)) (λj hj=>?_) (λa b qE hb=>by omega) (vL n m (i+1) (by omega));simp only[add];by_cases e:j=i
  .subst e;simp
  .by_cases h:j<i
   .have:j<i+1:=by omega
    simp[h,this]
   .have:¬j<i+1:=by omega
    simp[h,this,e]
def iI (P:un) (ce:Next->Hp->Rs fu) (ops:Array Oper):Nat->Nat->List fu->Hp->Option (List fu×Hp×List (Nat×Nat))
 |0,_,T,H=>some (T,H,[])
 |n+1,i,T,H=>match qY P ce ops i T H with
  |none=>none
  |some (T1,H1,R,W)=>match iI P ce ops n (i+1) T1 H1 with
   |none=>none
   |some (T2,H2,l)=>some (T2,H2,(R,W)::l)
def nc (R1 W1 R2 W2:Nat):Bool:=Nat.beq (Nat.land W1 (Nat.lor R2 W2)) 0&&Nat.beq (Nat.land W2 R1) 0
def Iv (m R W:Nat):List (Nat×Nat×Nat)->Bool
 | []=>true
 |(i,R1,W1)::l=>(JX m i||nc R1 W1 R W)&&Iv m R W l
def nH:List Nat->List (Nat×Nat)->Nat->List (Nat×Nat×Nat)->Nat->Nat->Bool
 |_,[],_,_,_,_=>true
 | [],_::_,_,_,_,_=>false
 |m::ms,(R,W)::l,j,prev,RU,WU=>(nc RU WU R W||Iv m R W prev)&&nH ms l (j+1) ((j,R,W)::prev) (Nat.lor RU R) (Nat.lor WU W)
def LT:List (Nat×Nat)->Nat
 | []=>0
 |(R,_)::l=>Nat.lor R (LT l)
def JZ:List (Nat×Nat)->Nat
 | []=>0
 |(_,W)::l=>Nat.lor W (JZ l)
def fR (P:un) (ce:Next->Hp->Rs fu) (ops:Array Oper) (draw:Bool) (T:List fu) (H:Hp):Rs (List fu):=
 match iI P ce ops ops.size 0 T H with
 |none=>none
 |some (T1,H1,l)=>bif !draw||nH (ub ops ops.size) l 0 [] 0 0 then some (T1,H1,LT l,JZ l)else none
def J0 (ops:Array Oper) (l:List Nat):Bool:=
 (List.range ops.size).all λj=>(List.range j).all λi=>JX (vJ l j) i||(match ops[i]?,ops[j]? with|some oi,some oj=>oi.apart ops oj|_,_=>true)
def fJ (P:un) (S:Nat->Bool) (ops:Array Oper) (draw:Bool):Bool:=
 (ops.all λo=>kA P S o.op)&&(!draw||(oF ops&&J0 ops (ub ops ops.size)))
def Iw {R2 W2:Nat} (h:nc R1 W1 R2 W2=true) (r:Nat):(W1.testBit r=true->R2.testBit r=false/\W2.testBit r=false)/\(W2.testBit r=true->R1.testBit r=false):=by
 simp only[nc,zAF]at h;have h1:W1&&&(R2|||W2)=0:=zAN h.1;have h2:W2&&&R1=0:=zAN h.2;have e1:=zBE (λx=>Nat.testBit x r) h1;have e2:=zBE (λx=>Nat.testBit x r) h2;simp only[Nat.testBit_and,zAP,Nat.zero_testBit,Bool.and_eq_false_iff,zGD]at e1 e2;refine⟨λx=>?_,λx=>?_⟩
 .rcases e1 with e|e
  .rw[x]at e;cases e
  .exact e
 .rcases e2 with e|e
  .rw[x]at e;cases e
  .exact e
def yN {m:Nat}:∀{l:List (Nat×Nat×Nat)},Iv m R W l=true->∀i R1 W1,(i,R1,W1)∈l->JX m i=true\/nc R1 W1 R W=true
 | [],_,_,_,_,h=>by cases h
 |(i,R1,W1)::l,h,j,R2,W2,hm=>by
  simp only[Iv,zAF,zBQ]at h;rcases zAQ.1 hm with e|hm
  .cases e;exact h.1
  .exact yN h.2 _ _ _ hm
def VM {RU WU:Nat} (h:nc RU WU R W=true) (hr:∀r,R1.testBit r=true->RU.testBit r=true) (hw:∀r,W1.testBit r=true->WU.testBit r=true) (r:Nat):
 (W1.testBit r=true->R.testBit r=false/\W.testBit r=false)/\(W.testBit r=true->R1.testBit r=false):=by
 obtain⟨a,b⟩:=Iw h r;refine⟨λx=>a (hw r x),λx=>?_⟩;cases hx:R1.testBit r with
 |false=>rfl
 |true=>have:=b x;rw[hr r hx]at this;cases this
def FZ:∀(ms:List Nat) (l:List (Nat×Nat)) (j:Nat) (prev:List (Nat×Nat×Nat)) (RU WU:Nat),nH ms l j prev RU WU=true->
 (∀i R1 W1,(i,R1,W1)∈prev->∀r,(R1.testBit r=true->RU.testBit r=true)/\(W1.testBit r=true->WU.testBit r=true))->
 (∀(b:Nat) (R W:Nat),l[b]?=some (R,W)->(∀i R1 W1,(i,R1,W1)∈prev->JX (vJ ms b) i=true\/∀r,(W1.testBit r=true->R.testBit r=false/\W.testBit r=false)/\(W.testBit r=true->R1.testBit r=false))/\
   ∀(a R1 W1:Nat),a<b->l[a]?=some (R1,W1)->JX (vJ ms b) (j+a)=true\/∀r,(W1.testBit r=true->R.testBit r=false/\W.testBit r=false)/\(W.testBit r=true->R1.testBit r=false)):=by
 intro ms l;induction l generalizing ms with
 |nil=>intro j prev RU WU _ _ b R W h;simp at h
 |cons x l ih=>
  obtain⟨Rx,Wx⟩:=x;intro j prev RU WU h M7;cases ms with
  |nil=>simp[nH]at h
  |cons m ms=>
   simp only[nH,zAF,zBQ]at h;obtain⟨h1,h2⟩:=h
   have ih:=ih ms (j+1) ((j,Rx,Wx)::prev) _ _ h2 (λi R1 W1 hm r=>by
    have e1:(Nat.lor RU Rx).testBit r=(RU.testBit r||Rx.testBit r):=zAP _ _ _;have e2:(Nat.lor WU Wx).testBit r=(WU.testBit r||Wx.testBit r):=zAP _ _ _;rw[e1,e2];rcases zAQ.1 hm with e|hm
    .cases e;exact⟨λx=>by rw[x,zBZ],λx=>by rw[x,zBZ]⟩
    .have:=M7 i R1 W1 hm r;exact⟨λx=>by rw[this.1 x];rfl,λx=>by rw[this.2 x];rfl⟩)
   intro b R W hb;cases b with
   |zero=>
    simp only[zBB,zAB,zAH]at hb;obtain⟨rfl,rfl⟩:=hb;refine⟨λi R1 W1 hm=>?_,λa _ _ ha _=>by omega⟩;rcases h1 with h1|h1
    .exact .inr (VM h1 (λr=>(M7 i R1 W1 hm r).1) λr=>(M7 i R1 W1 hm r).2)
    .exact(yN h1 i R1 W1 hm).imp id λx=>Iw x
   |succ b=>
    simp only[zBI]at hb;obtain⟨k1,k2⟩:=ih b R W hb;refine⟨λi R1 W1 hm=>k1 i R1 W1 (zAS _ hm),λa R1 W1 qE ha=>?_⟩;cases a with
    |zero=>
     simp only[zBB,zAB,zAH]at ha;obtain⟨rfl,rfl⟩:=ha;exact k1 j Rx Wx (by simp)
    |succ a=>
     simp only[zBI]at ha;have:=k2 a R1 W1 (by omega) ha;rw[show j+(a+1)=j+1+a by omega];exact this
def Iy:∀{l:List (Nat×Nat)} {i R W r:Nat},l[i]?=some (R,W)->R.testBit r=true->(LT l).testBit r=true
 | [],i,R,W,r,h,_=>by simp at h
 |(Rx,Wx)::l,i,R,W,r,h,hr=>by
  have e:(LT ((Rx,Wx)::l)).testBit r=(Rx.testBit r||(LT l).testBit r):=zAP _ _ _;rw[e];cases i with
  |zero=>simp only[zBB,zAB,zAH]at h;obtain⟨rfl,rfl⟩:=h;rw[hr];rfl
  |succ i=>simp only[zBI]at h;rw[Iy h hr,zBZ]
def Aj:∀{l:List (Nat×Nat)} {i R W r:Nat},l[i]?=some (R,W)->W.testBit r=true->(JZ l).testBit r=true
 | [],i,R,W,r,h,_=>by simp at h
 |(Rx,Wx)::l,i,R,W,r,h,hr=>by
  have e:(JZ ((Rx,Wx)::l)).testBit r=(Wx.testBit r||(JZ l).testBit r):=zAP _ _ _;rw[e];cases i with
  |zero=>simp only[zBB,zAB,zAH]at h;obtain⟨rfl,rfl⟩:=h;rw[hr];rfl
  |succ i=>simp only[zBI]at h;rw[Aj h hr,zBZ]
section
variable {P:un} {S:Nat->Bool} {K:Kz} {qX:List PanicEntry->nq->Prop} {ce:Next->Hp->Rs fu}
def Ak {ops:Array Oper}:∀(n i:Nat) (T:List fu) (H:Hp) (T2:List fu) (H2:Hp) (l:List (Nat×Nat)),iI P ce ops n i T H=some (T2,H2,l)->
 ∃(Ts:Nat->List fu) (Hs:Nat->Hp) (R W:Nat->Nat),Ts i=T/\Hs i=H/\Ts (i+n)=T2/\Hs (i+n)=H2/\(∀a,a<n->l[a]?=some (R (i+a),W (i+a)))/\∀a,i<=a->a<i+n->qY P ce ops a (Ts a) (Hs a)=some (Ts (a+1),Hs (a+1),R a,W a):=by
 intro n;induction n with
 |zero=>
  intro i T H T2 H2 l e;simp only[iI,zAB,zAH]at e;obtain⟨rfl,rfl,rfl⟩:=e;exact⟨λ_=>T,λ_=>H,λ_=>0,λ_=>0,rfl,rfl,rfl,rfl,λa h=>by omega,λa h1 h2=>by omega⟩
 |succ n ih=>
  intro i T H T2 H2 l e;simp only[iI]at e;split at e<;>try(cases e;done)
  rename_i T1 H1 R1 W1 e1;split at e<;>try(cases e;done)
  rename_i T2' H2' l' e2;simp only[zAB,zAH]at e;obtain⟨rfl,rfl,rfl⟩:=e;obtain⟨Ts,Hs,R,W,a1,a2,a3,a4,a5,a6⟩:=ih (i+1) T1 H1 T2' H2' l' e2;refine⟨λj=>if j=i then T else Ts j,λj=>if j=i then H else Hs j,λj=>if j=i then R1 else R j,λj=>if j=i then W1 else W j,zAE rfl,zAE rfl,?_,?_,?_,?_⟩
  .show(if i+(n+1)=i then T else Ts (i+(n+1)))=T2';rw[zAG (by omega),show i+(n+1)=i+1+n by omega];exact a3
  .show(if i+(n+1)=i then H else Hs (i+(n+1)))=H2';rw[zAG (by omega),show i+(n+1)=i+1+n by omega];exact a4
  .intro a ha;show _=some ((if i+a=i then R1 else R (i+a)),(if i+a=i then W1 else W (i+a)));cases a with
   |zero=>simp
   |succ a=>
    simp only[zBI];rw[a5 a (by omega),zAG (by omega),zAG (by omega),show i+1+a=i+(a+1) by omega]
  .intro a h1 h2;show qY P ce ops a (if a=i then T else Ts a) (if a=i then H else Hs a)=some ((if a+1=i then T else Ts (a+1)),(if a+1=i then H else Hs (a+1)),(if a=i then R1 else R a),(if a=i then W1 else W a));by_cases e:a=i
   .subst e;simp only[zBM];rw[zAG (by omega),zAG (by omega),e1,a1,a2]
   .rw[zAG e,zAG e,zAG (by omega),zAG (by omega),zAG e,zAG e];exact a6 a (by omega) (by omega)
def J1 (iB:kQ P S K qX ce) {ops:Array Oper}:∀(n i:Nat) (T:List fu) (H:Hp) (T2:List fu) (H2:Hp) (l:List (Nat×Nat)),iI P ce ops n i T H=some (T2,H2,l)->Ft H (LT l) (JZ l) H2/\T2.length=T.length:=by
 intro n;induction n with
 |zero=>
  intro i T H T2 H2 l e;simp only[iI,zAB,zAH]at e;obtain⟨rfl,rfl,rfl⟩:=e;exact⟨Ft.refl _,rfl⟩
 |succ n ih=>
  intro i T H T2 H2 l e;simp only[iI]at e;split at e<;>try(cases e;done)
  rename_i T1 H1 R1 W1 e1;split at e<;>try(cases e;done)
  rename_i T2' H2' l' e2;simp only[zAB,zAH]at e;obtain⟨rfl,rfl,rfl⟩:=e;obtain⟨a,b⟩:=ih _ _ _ _ _ _ e2;refine⟨(qZ iB e1).trans a,b.trans ?_⟩;obtain⟨o,_,h⟩:=lC e1;rcases h with⟨_,v,_,h⟩|⟨_,h,_⟩<;>rw[h,sZ]
def yO {ops:Array Oper} (e:fR P ce ops draw T H=some (T1,H1,R,W)):
 ∃l,iI P ce ops ops.size 0 T H=some (T1,H1,l)/\(draw=true->nH (ub ops ops.size) l 0 [] 0 0=true)/\R=LT l/\W=JZ l:=by
 unfold fR at e;split at e
 .cases e
 .rename_i T1 H1 l e1;cases hc:(!draw||nH (ub ops ops.size) l 0 [] 0 0)<;>rw[hc]at e<;>simp only[zAU,zAR]at e
  .cases e
  simp only[zAB,zAH]at e;obtain⟨rfl,rfl,rfl,rfl⟩:=e;exact⟨l,e1,λhd=>by rw[hd]at hc;simpa using hc,rfl,rfl⟩
def fD (iB:kQ P S K qX ce) {ops:Array Oper} (e:fR P ce ops draw T H=some (T1,H1,R,W)):Ft H R W H1/\T1.length=T.length:=by
 obtain⟨l,e1,_,rfl,rfl⟩:=yO e;exact J1 iB _ _ _ _ _ _ _ e1
def rb (hk:Ok P P.funcs S) (hZ:Yn P K) (iB:kQ P S K qX ce) {ops:Array Oper} (cD:fJ P S ops draw=true) (e:fR P ce ops draw T H=some (T1,H1,R,W))
 {Fp:Nat->Prop} {p:Pi} {tm:Array fu} {w:nq} (hg:P.globals.size<=H.n) (hF:∀r,(R.testBit r=true\/W.testBit r=true)->Fp r) (cB:tm.size=T.length) (hr:Rl P S K p H.get Fp w) (hT:∀x,VR S p (bW T x) (tm.getD x undef)) (hG:CU P S p)
 (hn:∀r,H.n<=r->r<H1.n->∀r',¬p r r') (id:Nat) (b:Frame) (ds:List Deferred) (k:List Item) (cs:List Frame):
 (∃bV w' q,Steps P (lone (bH b tm ds (.code (.region id ops draw)::k)) cs w) (lone (bH b bV ds k) cs w')/\bV.size=T.length/\
   Mv (λr=>W.testBit r=true) p H.n w q H1.n w'/\Rl P S K q H1.get Fp w'/\∀x,VR S q (bW T1 x) (bV.getD x undef))\/ji P qX b ds cs (lone (bH b tm ds (.code (.region id ops draw)::k)) cs w):=by
 obtain⟨l,e1,hp,rfl,rfl⟩:=yO e;obtain⟨Ts,Hs,R,W,a1,a2,a3,a4,a5,a6⟩:=Ak _ _ _ _ _ _ _ e1;rw[zDR]at a3 a4 a6;have t:Yo P ce ops Ts Hs R W:=⟨λi hi=>a6 i (zAJ _) hi⟩
 have lR:∀i,i<ops.size->l[i]?=some (R i,W i):=λi hi=>by have:=a5 i hi;rwa [zDR]at this
 simp only[fJ,zAF]at cD
 have ve:∀(i:Nat) (o:Oper),ops[i]?=some o->kA P S o.op=true:=λi o ho=>by
  obtain⟨au,he⟩:=zAC.1 ho;have:=zBP.1 cD.1 i au;rw[he]at this;exact this
 have mono:=λi j=>t.M2 (i:=i) (j:=j) iB;have hFp:∀i,i<ops.size->∀r,((R i).testBit r=true\/(W i).testBit r=true)->Fp r:=λi hi r hr=>hF r (hr.imp (λx=>Iy (lR i hi) x) λx=>Aj (lR i hi) x)
 have l0:∀r,last (λi=>(Hs i).get) (ET W) (λ_=>false) ops.size r=H.get r:=λr=>by
  have:∀n,last (λi=>(Hs i).get) (ET W) (λ_=>false) n r=H.get r:=by
   intro n;induction n with
   |zero=>show(Hs 0).get r=_;rw[a2]
   |succ n ih=>simp only[last,zGH,zAL,zBC];exact ih
  exact this _
 have l1:∀x,last (λi=>bW (Ts i)) (EU ops) (λ_=>false) ops.size x=bW T x:=λr=>by
  have:∀n,last (λi=>bW (Ts i)) (EU ops) (λ_=>false) n r=bW T r:=by
   intro n;induction n with
   |zero=>show bW (Ts 0) r=_;rw[a1]
   |succ n ih=>simp only[last,zGH,zAL,zBC];exact ih
  exact this _
 have fin:∀{order:List Nat} {Fo:Nat->Nat->Prop} {w0:nq},w0.heap=w.heap->Good Fo ops.size (λ_=>false) order->(∀i j,i<j->j<ops.size->Fo i j\/zak R W i j)->(∀(i j:Nat) (oi oj:Oper),i<j->ops[i]?=some oi->ops[j]?=some oj->Fo i j\/oi.apart ops oj=true)->
  (∃bV w' q,Steps P (lone (bH b tm ds (.inRegion ops order::k)) cs w0) (lone (bH b bV ds k) cs w')/\bV.size=T.length/\Mv (λr=>(JZ l).testBit r=true) p H.n w q H1.n w'/\Rl P S K q H1.get Fp w'/\∀x,VR S q (bW T1 x) (bV.getD x undef))\/ji P qX b ds cs (lone (bH b tm ds (.inRegion ops order::k)) cs w0):=by
  intro order Fo w0 QM C5 hm ht;rcases QL hk hZ iB ve t hm ht (by rw[a2];exact hg) hFp b ds k cs order (λ_=>false) p tm w0 C5 (λa c _ h=>by cases h) (by rw[a1];exact cB) ((hr.heap QM).congr λr _=>l0 r) (λx=>by rw[l1];exact hT x) hG (λj hj _ r h1 h2=>hn r (by have:=mono 0 j (zFC hj) (zAJ _);rw[a2]at this;omega) (by have:=mono (j+1) ops.size (zAA _) hj;rw[a4]at this;omega))with⟨bV,w',q,c1,c2,c3,c4,c5⟩|M5;rotate_left
  .exact .inr M5
  rw[a1]at c2;rw[a2,a4]at c3;rw[a4]at c4;rw[a3]at c5;exact .inl ⟨bV,w',q,c1.trans (.one eI),c2,(c3.MW QM.symm).mono λr ⟨i,hi,x⟩=>Aj (lR i hi) x,c4,c5⟩
 cases draw with
 |false=>
  rcases fin (order:=List.range ops.size) (Fo:=(·<·)) (w0:=w) rfl (by
   have:=vL ops.size ops.size 0 (zDR _);rw[<-List.range_eq_range']at this;exact jP (λj _=>by simp) (λa b qE hb=>by omega) this) (λi j h _=>.inl h) (λi j _ _ h _ _=>.inl h)with⟨bV,w',q,c⟩|M5
  .exact .inl ⟨bV,w',q,.head jz c.1,c.2⟩
  .exact .inr (.of_steps (.one jz) M5)
 |true=>
  have VN:=cD.2;simp only[zEJ,zDZ,zAF]at VN;have hpz:=FZ _ _ _ _ _ _ (hp rfl) (λ_ _ _ h=>by cases h);obtain⟨tt,w0,QM,zao⟩:=Ip (P:=P) (b:=b) (tm:=tm) (ds:=ds) (k:=k) (cs:=cs) (w:=w) (id:=id) (ops:=ops)
  rcases fin (order:=Region.schedule (P.follows .mixedOrders) ops tt) (Fo:=gF ops) (w0:=w0) QM (xG VN.1 _ _) (λi j h hj=>by
   rcases(hpz j _ _ (lR j hj)).2 i _ _ h (lR i (by omega))with x|x
   .rw[zDR]at x;exact .inl (yJ _ _ _ _ (CY x))
   .exact .inr x) (λi j oi oj h hoi JA=>by
   have hj:j<ops.size:=(zAC.1 JA).1;have h2:=zCM.1 (zCM.1 VN.2 j (zDB.2 hj)) i (zDB.2 h);rw[hoi,JA,zBQ]at h2;rcases h2 with x|x
   .exact .inl (yJ _ _ _ _ (CY x))
   .exact .inr x)with⟨bV,w',q,c⟩|M5
  .exact .inl ⟨bV,w',q,.head zao c.1,c.2⟩
  .exact .inr (.of_steps (.one zao) M5)
end
end Go.aD
namespace Go.aD
variable {H H1:Hp} {R R1 W W1 l l' n n1:Nat} {T T1:List fu} {args bS tmps:Array fu} {assign body:Code} {ex:Nat->Bool} {f:Operand} {j:Option Code} {jc:List Deferred} {m:Machine} {p q:Pi} {params:Array Tmp} {ro:Option Nat} {v:fu} {w1 w2:nq}
abbrev Rc:=Option (Option Code×List fu×List Deferred×Hp×Nat×Nat)
def td (R W:Nat):Rc->Rc
 |some (j,T,ds,H,R1,W1)=>some (j,T,ds,H,R|||R1,W|||W1)
 |none=>none
def mj {x:Rc} {ds:List Deferred} (h:td R W x=some (j,T,ds,H,R1,W1)):∃R2 W2,x=some (j,T,ds,H,R2,W2)/\R1=R|||R2/\W1=W|||W2:=by
 cases x with
 |none=>cases h
 |some y=>
  obtain⟨a,b,c,d,e,f⟩:=y;simp only[td,zAB,zAH]at h;obtain⟨rfl,rfl,rfl,rfl,rfl,rfl⟩:=h;exact⟨_,_,rfl,rfl,rfl⟩
def isJ:Option Code->Bool
 |none=>true
 |some .ret=>true
 |some (.exit _)=>true
 |some (.goto _)=>true
 |_=>false
def fK (r:Operand->fu) (f:Operand) (l:Nat):Sem Next:=do
 let d<-resolve r {callee:=.value f,args:=#[.const (.func (.yield l) #[] #[])],argTypes:=#[]} 0
 invoke d.target d.args
def re (P:un) (ce:Next->Hp->Rs fu) (ro:Option Nat) (fn:Nat) (f:Operand) (params:Array Tmp) (assign body:Code) (T:List fu) (ds:List Deferred) (H:Hp):Rc:=
 match aG P (Instr.enterLoop fn T.toArray params assign body ro) H with
 |none=>none
 |some ((l,mark),H1,R1,W1)=>match aG P (fK (CS (bW T)) f l) H1 with
  |none=>none
  |some (nx,H2,R2,W2)=>match ce nx H2 with
   |none=>none
   |some (_,H3,R3,W3)=>match aG P (Instr.endLoop l) H3 with
    |none=>none
    |some (j,H4,R4,W4)=>bif isJ j then some (j,T,mark++ds,H4,R1|||(R2|||(R3|||R4)),W1|||(W2|||(W3|||W4)))else none
abbrev Rg:=(Next->Hp->Rs fu)->Array Oper->Bool->List fu->Hp->Rs (List fu)
def kR (P:un) (rg:Rg) (ce:Next->Hp->Rs fu) (ro:Option Nat) (fn:Nat):Nat->Option Code->Code->List fu->List Deferred->Hp->Rc
 |0,_,_,_,_,_=>none
 |n+1,some sc,c,T,ds,H=>match kR P rg ce ro fn n none c T ds H with
  |some (some (.goto l),T1,jc,H1,R,W)=>match findLabel sc l with
   |some rest=>td R W (kR P rg ce ro fn n (some sc) rest T1 jc H1)
   |none=>some (some (.goto l),T1,jc,H1,R,W)
  |x=>x
 |n+1,none,c,T,ds,H=>match c with
  |.skip=>some (none,T,ds,H,0,0)
  |.label _=>some (none,T,ds,H,0,0)
  |.region _ ops draw=>match rg ce ops draw T H with
   |some (T1,H1,R,W)=>some (none,T1,ds,H1,R,W)
   |none=>none
  |.seq a b=>match kR P rg ce ro fn n none a T ds H with
   |some (none,T1,jc,H1,R,W)=>td R W (kR P rg ce ro fn n none b T1 jc H1)
   |x=>x
  |.cond x a b=>match CS (bW T) x with
   |.bool t=>kR P rg ce ro fn n none (bif t then a else b) T ds H
   |_=>none
  |.block id a=>match kR P rg ce ro fn n none a T ds H with
   |some (some (.exit i),T1,jc,H1,R,W)=>bif Nat.beq i id then some (none,T1,jc,H1,R,W)else some (some (.exit i),T1,jc,H1,R,W)
   |x=>x
  |.loop a=>match kR P rg ce ro fn n none a T ds H with
   |some (none,T1,jc,H1,R,W)=>td R W (kR P rg ce ro fn n none (.loop a) T1 jc H1)
   |x=>x
  |.scope a=>kR P rg ce ro fn n (some a) a T ds H
  |.exit id=>some (some (.exit id),T,ds,H,0,0)
  |.goto l=>some (some (.goto l),T,ds,H,0,0)
  |.ret=>some (some .ret,T,ds,H,0,0)
  |.rangeFunc f params assign body=>re P ce ro fn f params assign body T ds H
  |.refuse _=>none
def C6:Option Code->Bool
 |none=>true
 |some .ret=>true
 |_=>false
def kD (P:un):List Deferred->Hp->Rs Unit
 | [],H=>some ((),H,0,0)
 |{target:=.collected r,.. }::ds,H=>match aG P (Instr.takeDeferred r) H with
  |some (_,H1,R,W)=>match kD P ds H1 with
   |some (_,H2,R2,W2)=>some ((),H2,R|||R2,W|||W2)
   |none=>none
  |none=>none
 |_::_,_=>none
def F3 (P:un) (rg:Rg) (ce:Next->Hp->Rs fu) (n:Nat) (f:Nat) (args:Array fu) (H:Hp):Rs fu:=
 match P.funcs[f]? with
 |none=>none
 |some fn=>match fn.body with
  |none=>none
  |some body=>match kR P rg ce none f n none body (args.toList++List.replicate (fn.ntmps-args.size) undef) [] H with
   |none=>none
   |some (j,T1,jc,H1,R1,W1)=>bif C6 j then match kD P jc H1 with
    |none=>none
    |some (_,H2,R2,W2)=>match aG P (results fn T1.toArray) H2 with
     |none=>none
     |some (v,H3,R3,W3)=>some (v,H3,R1|||(R2|||R3),W1|||(W2|||W3))else none
def rf (P:un) (rg:Rg) (ce:Next->Hp->Rs fu) (n:Nat) (l f:Nat) (tmps:Array fu) (assign body:Code) (H:Hp):Rs fu:=
 match kR P rg ce (some l) f n none assign tmps.toList [] H with
 |some (none,T1,jc,H1,R1,W1)=>match aG P (Instr.beginRound l) H1 with
  |none=>none
  |some (_,H2,R2,W2)=>match kR P rg ce (some l) f n none body T1 jc H2 with
   |none=>none
   |some (j,_,_,H3,R3,W3)=>match aG P (Instr.endRound l j) H3 with
    |none=>none
    |some (v,H4,R4,W4)=>some (v,H4,R1|||(R2|||(R3|||R4)),W1|||(W2|||(W3|||W4)))
 |_=>none
def ud (P:un) (rg:Rg) (ex:Nat->Bool):Nat->Next->Hp->Rs fu
 |0,_,_=>none
 |n+1,nx,H=>match nx with
  |.enter f args=>bif ex f then none else F3 P rg (ud P rg ex n) n f args H
  |.round l f tmps assign body=>rf P rg (ud P rg ex n) n l f tmps assign body H
  |_=>none
abbrev evN (P:un) (ex:Nat->Bool):=ud P (fR P) ex
def cE (P:un) (S:Nat->Bool):Code->Bool
 |.skip|.label _|.exit _|.goto _|.ret=>true
 |.region _ ops draw=>fJ P S ops draw
 |.seq a b=>cE P S a&&cE P S b
 |.cond c a b=>iX P S c&&cE P S a&&cE P S b
 |.block _ a=>cE P S a
 |.loop a=>cE P S a
 |.scope a=>cE P S a
 |.rangeFunc f _ a b=>iX P S f&&cE P S a&&cE P S b
 |.refuse _=>false
def zaq (P:un) (e:a00) (v:fu):Prop:=∃i z,P.info? e=some i/\i.zero=some z/\v∈z.cells
def cK (P:un) (S:Nat->Bool):Kz:=⟨λc=>cE P S c=true,zaq P⟩
def zOk (P:un) (S:Nat->Bool):Yn P (cK P S):=λe i z h1 h2 u hu=>⟨i,z,h1,h2,hu⟩
def Al {P:un} {S:Nat->Bool}:∀{c:Code} {l:Nat} {r:Code},cE P S c=true->findLabel c l=some r->cE P S r=true:=by
 intro c;induction c with
 |seq a b Zz ZA=>
  intro l r h e;simp only[cE,zAF]at h;simp only[findLabel]at e;split at e
  .rename_i rest h1;simp only[zAB]at e;subst e;simp only[cE,zAF];exact⟨Zz h.1 h1,h.2⟩
  .exact ZA h.2 e
 |label l'=>
  intro l r h e;simp only[findLabel]at e;split at e
  .cases e;rfl
  .cases e
 |_=>intro l r h e;simp[findLabel]at e
section
variable {P:un} {S:Nat->Bool} {K:Kz} {qX:List PanicEntry->nq->Prop} {ce:Next->Hp->Rs fu}
def F4 (iB:kQ P S K qX ce) {fn:Nat} {ds:List Deferred}
 (e:re P ce ro fn f params assign body T ds H=some (j,T1,jc,H1,R,W)):Ft H R W H1/\T1.length=T.length:=by
 unfold re at e;split at e<;>try(cases e;done)
 rename_i e1;split at e<;>try(cases e;done)
 rename_i e2;split at e<;>try(cases e;done)
 rename_i e3;split at e<;>try(cases e;done)
 rename_i j _ _ _ e4;cases hj:isJ j<;>rw[hj]at e<;>simp only[zAU,zAR]at e
 .cases e
 simp only[zAB,zAH]at e;obtain⟨rfl,rfl,rfl,rfl,rfl,rfl⟩:=e;exact⟨(bM P _ e1).trans ((bM P _ e2).trans ((iB.ft _ _ _ _ _ _ e3).trans (bM P _ e4))),rfl⟩
def gG (iB:kQ P S K qX ce) (ro:Option Nat) (fn:Nat):∀(n:Nat) (sc:Option Code) (c:Code) (T:List fu) (ds:List Deferred) (H:Hp) (j:Option Code) (T1:List fu) (jc:List Deferred) (H1:Hp) (R W:Nat),
 kR P (fR P) ce ro fn n sc c T ds H=some (j,T1,jc,H1,R,W)->Ft H R W H1/\T1.length=T.length:=by
 intro n;induction n with
 |zero=>intro sc c T ds H j T1 jc H1 R W e;simp[kR]at e
 |succ n ih=>
  intro sc c T ds H j T1 jc H1 R W e
  have add:∀{sc c T2 C7 H2 R2 W2 j T1 jc H1 R W},Ft H R2 W2 H2/\T2.length=T.length->td R2 W2 (kR P (fR P) ce ro fn n sc c T2 C7 H2)=some (j,T1,jc,H1,R,W)->Ft H R W H1/\T1.length=T.length:=by
   intro sc c T2 C7 H2 R2 W2 j T1 jc H1 R W h e;obtain⟨R3,W3,e2,rfl,rfl⟩:=mj e;obtain⟨a,b⟩:=ih _ _ _ _ _ _ _ _ _ _ _ e2;exact⟨h.1.trans a,b.trans h.2⟩
  cases sc with
  |some sc=>
   simp only[kR]at e;split at e
   .rename_i e1;split at e
    .exact add (ih _ _ _ _ _ _ _ _ _ _ _ e1) e
    .simp only[zAB,zAH]at e;obtain⟨rfl,rfl,rfl,rfl,rfl,rfl⟩:=e;exact ih _ _ _ _ _ _ _ _ _ _ _ e1
   .exact ih _ _ _ _ _ _ _ _ _ _ _ e
  |none=>
   have Fe:∀{j':Option Code},some (j',T,ds,H,0,0)=some (j,T1,jc,H1,R,W)->Ft H R W H1/\T1.length=T.length:=λe=>by
    simp only[zAB,zAH]at e;obtain⟨rfl,rfl,rfl,rfl,rfl,rfl⟩:=e;exact⟨Ft.refl _,rfl⟩
   cases c with
   |skip=>exact Fe e
   |label l=>exact Fe e
   |exit id=>exact Fe e
   |goto l=>exact Fe e
   |ret=>exact Fe e
   |refuse w=>simp[kR]at e
   |region id ops draw=>
    simp only[kR]at e;split at e<;>try(cases e;done)
    rename_i e1;simp only[zAB,zAH]at e;obtain⟨rfl,rfl,rfl,rfl,rfl,rfl⟩:=e;exact fD iB e1
   |seq a b=>
    simp only[kR]at e;split at e
    .rename_i e1;exact add (ih _ _ _ _ _ _ _ _ _ _ _ e1) e
    .exact ih _ _ _ _ _ _ _ _ _ _ _ e
   |cond x a b=>
    simp only[kR]at e;split at e<;>try(cases e;done)
    exact ih _ _ _ _ _ _ _ _ _ _ _ e
   |block id a=>
    simp only[kR]at e;split at e
    .rename_i i _ _ _ _ _ e1;have:=ih _ _ _ _ _ _ _ _ _ _ _ e1;cases hb:Nat.beq i id<;>rw[hb]at e<;>simp only[zAU,zAR,zAB,zAH]at e<;>obtain⟨rfl,rfl,rfl,rfl,rfl,rfl⟩:=e<;>exact this
    .exact ih _ _ _ _ _ _ _ _ _ _ _ e
   |loop a=>
    simp only[kR]at e;split at e
    .rename_i e1;exact add (ih _ _ _ _ _ _ _ _ _ _ _ e1) e
    .exact ih _ _ _ _ _ _ _ _ _ _ _ e
   |scope a=>exact ih _ _ _ _ _ _ _ _ _ _ _ e
   |rangeFunc f params assign body=>exact F4 iB e
def jQ:∀(ds:List Deferred) (H H1:Hp) (R W:Nat),kD P ds H=some ((),H1,R,W)->Ft H R W H1
 | [],H,H1,R,W,e=>by
   simp only[kD,zAB,zAH,zCS]at e;obtain⟨rfl,rfl,rfl⟩:=e;exact Ft.refl _
 |d::ds,H,H1,R,W,e=>by
  obtain⟨t,args⟩:=d;cases t<;>simp only[kD]at e<;>try(cases e;done)
  split at e<;>try(cases e;done)
  rename_i e1;split at e<;>try(cases e;done)
  rename_i e2;simp only[zAB,zAH,zCS]at e;obtain⟨rfl,rfl,rfl⟩:=e;exact(bM P _ e1).trans (jQ ds _ _ _ _ e2)
def Iz (iB:kQ P S K qX ce) {f:Nat} (e:F3 P (fR P) ce n f args H=some (v,H1,R,W)):Ft H R W H1:=by
 unfold F3 at e;split at e<;>try(cases e;done)
 split at e<;>try(cases e;done)
 split at e<;>try(cases e;done)
 rename_i j _ _ _ _ _ e1;cases hr:C6 j<;>rw[hr]at e<;>simp only[zAU,zAR]at e
 .cases e
 split at e<;>try(cases e;done)
 rename_i e2;split at e<;>try(cases e;done)
 rename_i e3;simp only[zAB,zAH]at e;obtain⟨rfl,rfl,rfl,rfl⟩:=e;exact(gG iB _ _ _ _ _ _ _ _ _ _ _ _ _ _ e1).1.trans ((jQ _ _ _ _ _ e2).trans (bM P _ e3))
def vM (iB:kQ P S K qX ce) {f:Nat} (e:rf P (fR P) ce n l f tmps assign body H=some (v,H1,R,W)):Ft H R W H1:=by
 unfold rf at e;split at e<;>try(cases e;done)
 rename_i e1;split at e<;>try(cases e;done)
 rename_i e2;split at e<;>try(cases e;done)
 rename_i e3;split at e<;>try(cases e;done)
 rename_i e4;simp only[zAB,zAH]at e;obtain⟨rfl,rfl,rfl,rfl⟩:=e;exact(gG iB _ _ _ _ _ _ _ _ _ _ _ _ _ _ e1).1.trans ((bM P _ e2).trans ((gG iB _ _ _ _ _ _ _ _ _ _ _ _ _ _ e3).1.trans (bM P _ e4)))
end
section
variable {P:un} {b:Frame} {tm:Array fu} {ds:List Deferred} {k:List Item} {cs:List Frame} {w:nq}
def M8 {mark:List Deferred} {nx:Next} {g:Frame}
 (h1:(Instr.enterLoop b.fn tm params assign body b.roundOf).run P w=.ok (l,mark) w1) (h2:(fK (bH b tm (mark++ds) (.inRangeFunc l::k)).eval f l).run P w1=.ok nx w2) (hg:sm P nx=some g):
 step P (lone (bH b tm ds (.code (.rangeFunc f params assign body)::k)) cs w)=.next (lone g (bH b tm (mark++ds) (.inRangeFunc l::k)::cs) w2):=by
 refine bN rfl ?_;have:=(jN (P:=P) (cs:=cs) (fr:=bH b tm (mark++ds) (.inRangeFunc l::k)) rfl h2).2.2 g hg;rw[<-this];unfold stepG.exec;simp only[bH]at h1⊢;simp only[Sem.runT_eq,h1,GStep.bare_after];rfl
def C8 (h:(Instr.endLoop l).run P w=.ok j w1):
 step P (lone (bH b tm ds (.endRangeFunc l::k)) cs w)=.next (lone (bH b tm ds ((j.map Item.code).toList++k)) cs w1):=by
 refine bN rfl ?_;unfold stepG.exec;simp only[bH];simp only[Sem.runT_eq,h,GStep.bare_after];rfl
def xH (hl:b.roundOf=some l) (h:(Instr.beginRound l).run P w=.ok () w1):
 step P (lone (bH b tm ds (.beginRound::k)) cs w)=.next (lone (bH b tm ds k) cs w1):=by
 refine bN rfl ?_
 have hs:(do (bH b tm ds (.beginRound::k)).roundOf.elim (Go.stuck "beginRound: no round") Instr.beginRound;Pure.pure Next.skip:Sem Next).run P w=.ok .skip w1:=by
  show(do b.roundOf.elim (Go.stuck "beginRound: no round") Instr.beginRound;Pure.pure Next.skip:Sem Next).run P w=.ok .skip w1;rw[hl];exact dQ P _ _ w h
 have:=(jN (P:=P) (cs:=cs) (fr:=bH b tm ds (.beginRound::k)) rfl hs).2.1 rfl;rw[show(bH b tm ds (.beginRound::k)).finish undef=bH b tm ds k from rfl]at this;rw[<-this];rfl
end
def vN (j:Option Code) (k todo:List Item):Prop:=match j with
 |none=>todo=k
 |some .ret=>∃k2,todo=.code .ret::k2
 |some (.exit id)=>∃k2,todo=.code (.exit id)::k2/\exitTo id k2=exitTo id k
 |some (.goto l)=>∃k2,todo=.code (.goto l)::k2/\gotoIn l k2=gotoIn l k
 |some _=>False
structure Pw (P:un) (S:Nat->Bool) (Fp:Nat->Prop) (p:Pi) (H:Hp) (T:List fu) (ds:List Deferred) (tm:Array fu) (lN:List Deferred) (w:nq):Prop where
 sz:tm.size=T.length
 rl:Rl P S (cK P S) p H.get Fp w
 tr:∀x,VR S p (bW T x) (tm.getD x undef)
 dl:DL p ds lN
 gl:CU P S p
 hg:P.globals.size<=H.n
def M9 (P:un) (S:Nat->Bool) (Fp:Nat->Prop) (b:Frame) (cs:List Frame) (k:List Item) (p:Pi) (n:Nat) (w:nq) (m:Machine) (j:Option Code) (T1:List fu) (jc:List Deferred) (H1:Hp) (W:Nat):Prop:=
 ∃bV pp w' q todo,Steps P m (lone (bH b bV pp todo) cs w')/\Mv (λr=>W.testBit r=true) p n w q H1.n w'/\Pw P S Fp q H1 T1 jc bV pp w'/\vN j k todo
section
variable {P:un} {S:Nat->Bool} {Fp:Nat->Prop} {b:Frame} {cs:List Frame} {ce:Next->Hp->Rs fu}
def vN.pass {x:Item} (hx:x.plain=true) {c:Code} (hj:j=some c) {k todo:List Item} (h:vN j (x::k) todo):vN j k todo:=by
 subst hj;cases c<;>try exact h
 .obtain⟨k2,h1,h2⟩:=h;refine⟨k2,h1,h2.trans ?_⟩;cases x<;>first|rfl|cases hx
 .obtain⟨k2,h1,h2⟩:=h;refine⟨k2,h1,h2.trans ?_⟩;cases x<;>first|rfl|cases hx
def bD {W:Nat->Prop} {N:Nat} {w:nq} (h:∀r,n<=r->r<N->∀r',¬p r r') (m:Mv W p n w q n1 w1):∀r,n1<=r->r<N->∀r',¬q r r':=λr a c r' hq=>by
 rcases m.new r r' hq with x|⟨_,x,_⟩
 .exact h r (zAM m.nn a) c r' x
 .omega
def gH (h:∀r,((R|||R1).testBit r=true\/(W|||W1).testBit r=true)->Fp r):∀r,(R.testBit r=true\/W.testBit r=true)->Fp r:=λr x=>h r (x.imp (λx=>by rw[zAP,x];rfl) λx=>by rw[zAP,x];rfl)
def cM (h:∀r,((R|||R1).testBit r=true\/(W|||W1).testBit r=true)->Fp r):∀r,(R1.testBit r=true\/W1.testBit r=true)->Fp r:=λr x=>h r (x.imp (λx=>by rw[zAP,x,zBZ]) λx=>by rw[zAP,x,zBZ])
def Mv.or {s:Pi} {n2 W2:Nat} {w:nq} (h:Mv (λr=>W1.testBit r=true) p n w q n1 w1) (k:Mv (λr=>W2.testBit r=true) q n1 w1 s n2 w2):Mv (λr=>(W1|||W2).testBit r=true) p n w s n2 w2:=
 h.trans k (λr x=>by rw[zAP,x];rfl) (λr x=>by rw[zAP,x,zBZ])
def iS {α β:Type} {Q:Pi->α->β->Prop} {s:Sem α} {s':Sem β} {a:α} {w:nq} (h:SR P P.funcs S (cK P S) 0 Q s s' p) (e:aG P s H=some (a,H1,R,W))
 (hr:Rl P S (cK P S) p H.get Fp w) (hg:P.globals.size<=H.n) (hn:∀r,H.n<=r->r<H1.n->∀r',¬p r r') (hF:∀r,(R.testBit r=true\/W.testBit r=true)->Fp r):
 ∃a' w1 q,s'.run P w=.ok a' w1/\Q q a a'/\Mv (λr=>W.testBit r=true) p H.n w q H1.n w1/\Rl P S (cK P S) q H1.get Fp w1:=by
 obtain⟨a',w1,q,c1,c2,c3,c4⟩:=mi (P:=P) (F:=P.funcs) s (h hr.ok) e hr hg hn (λr x=>.inr (hF r x));exact⟨a',w1,q,c1,c2,c3,c4.mono λr x=>.inl x⟩
def i7 {tm:Array fu} (h1:tm.size=T.length) (h2:∀x,VR S p (bW T x) (tm.getD x undef)):AR S p T.toArray tm:=by
 refine⟨by simp[h1],λi v v' hv qx=>?_⟩
 have e1:bW T i=v:=by
  have:∀(L:List fu) i,L[i]?=some v->bW L i=v:=by
   intro L;induction L with
   |nil=>intro i h;simp at h
   |cons y L ih=>intro i h;cases i with
    |zero=>simpa [bW]using h
    |succ i=>exact ih i (by simpa using h)
  exact this T i (by simpa using hv)
 have:=h2 i;rw[e1,zBA,qx]at this;exact this
def SR.fK {K:Kz} (hb:se P P.funcs S) {r r':Operand->fu} (hE:tX P S p r r') (hf:iX P S f=true) (hl:p l l'):
 SR P P.funcs S K 0 (QX S K) (aD.fK r f l) (aD.fK r' f l') p:=by
 have e:∀(r:Operand->fu),(∀v,r (.const v)=v)->∀l,aD.fK r f l=(Deferred.ofValue (r f) #[.func (.yield l) #[] #[]]>>=λd=>invoke d.target d.args):=λr hr l=>by
  unfold aD.fK resolve;simp[hr]
 rw[e r (λv=>(hE.const v).1),e r' (λv=>(hE.const v).2)];exact SR.nu hb (hE.at hf) (AR.one (VR.yield hl))
def J2 (hk:Ok P P.funcs S) (iB:kQ P S (cK P S) (λ_ _=>False) ce) {ds:List Deferred}
 (e:re P ce ro b.fn f params assign body T ds H=some (j,T1,jc,H1,R,W)) (hf:iX P S f=true) (ha:cE P S assign=true) (hb:cE P S body=true) (hS:S b.fn=true)
 {tm:Array fu} {lN:List Deferred} {w:nq} {k:List Item} (rh:RR p ro b.roundOf) (cD:Pw P S Fp p H T ds tm lN w) (hn:∀r,H.n<=r->r<H1.n->∀r',¬p r r') (hF:∀r,(R.testBit r=true\/W.testBit r=true)->Fp r):
 M9 P S Fp b cs k p H.n w (lone (bH b tm lN (.code (.rangeFunc f params assign body)::k)) cs w) j T1 jc H1 W:=by
 unfold re at e;split at e<;>try(cases e;done)
 rename_i l mark Ha Ra Wa e1;split at e<;>try(cases e;done)
 rename_i nx Hb Rb Wb e2;split at e<;>try(cases e;done)
 rename_i v Hc Rc Wc e3;split at e<;>try(cases e;done)
 rename_i j' Hd Rd Wd e4;cases hj:isJ j'<;>rw[hj]at e<;>simp only[zAU,zAR]at e
 .cases e
 simp only[zAB,zAH]at e;obtain⟨rfl,rfl,rfl,rfl,rfl,rfl⟩:=e;have f1:=bM P _ e1;have f2:=bM P _ e2;have f3:=iB.ft _ _ _ _ _ _ e3;have f4:=bM P _ e4;have n1:=f1.nn;have n2:=f2.nn;have n3:=f3.nn;have n4:=f4.nn
 obtain⟨⟨l',vi⟩,w1,q1,a1,⟨a2,a3⟩,a4,a5⟩:=iS (SR.enterLoop (K:=cK P S) (f:=b.fn) (f':=b.fn) rfl hS (show cE P S _=true from rfl) (i7 cD.sz cD.tr) params ha hb rh) e1 cD.rl cD.hg (λr x y=>hn r x (by omega)) (gH hF);have sY:=bD hn a4;have hE:=VJ (b:=b) (ds:=vi++lN) (k:=.inRangeFunc l'::k) (cD.gl.mono a4.le) (τ:=bW T) (tm:=tm) λx=>(cD.tr x).mono a4.le;obtain⟨xi,w2,q2,b1,b2,b3,b4⟩:=iS (s':=fK (bH b tm (vi++lN) (.inRangeFunc l'::k)).eval f l') (SR.fK hk.pG hE hf a2) e2 a5 (by have:=cD.hg;omega) (λr x y=>sY r x (by omega)) (gH (cM hF));have xh:=bD sY b3;rcases iB.run _ _ _ _ _ _ e3 q2 Fp w2 xi (bH b tm (vi++lN) (.inRangeFunc l'::k)) cs b2 b4 ((cD.gl.mono a4.le).mono b3.le) (by have:=cD.hg;omega) (λr x y=>xh r x (by omega)) (gH (cM (cM hF)))with⟨g,v',w3,c1,c2,q3,c3,c4,c5⟩|⟨_,_,_,_,_,h⟩
 rotate_left
 .exact h.elim
 have Yq:=bD xh c4;obtain⟨j2,w4,q4,d1,⟨d2,d3⟩,d4,d5⟩:=iS (SR.endLoop (c4.le _ _ (b3.le _ _ a2))) e4 (c5.mono λr x=>.inl x) (by have:=cD.hg;omega) (λr x y=>Yq r x (by omega)) (cM (cM (cM hF)));subst d2;have pK:(bH b tm (vi++lN) (.inRangeFunc l'::k)).finish v'=bH b tm (vi++lN) (.endRangeFunc l'::k):=rfl;rw[pK]at c2;refine⟨tm,vi++lN,w4,q4,(j'.map Item.code).toList++k,.head (M8 a1 b1 c1) (c2.trans (.one (C8 d1))),a4.or (b3.or (c4.or d4)),⟨cD.sz,d5,λx=>((((cD.tr x).mono a4.le).mono b3.le).mono c4.le).mono d4.le,DL.append (((a3.mono b3.le).mono c4.le).mono d4.le) ((((cD.dl.mono a4.le).mono b3.le).mono c4.le).mono d4.le),(((cD.gl.mono a4.le).mono b3.le).mono c4.le).mono d4.le,by have:=cD.hg;omega⟩,?_⟩;cases j' with
 |none=>rfl
 |some c=>cases c<;>first|(cases hj;done)|exact⟨k,rfl⟩|exact⟨k,rfl,rfl⟩
def M9.of_steps {k:List Item} {w:nq} {m':Machine} (h:Steps P m m') (g:M9 P S Fp b cs k p n w m' j T1 jc H1 W):M9 P S Fp b cs k p n w m j T1 jc H1 W:=by
 obtain⟨bV,pp,w',q,todo,a,c⟩:=g;exact⟨bV,pp,w',q,todo,h.trans a,c⟩
def F5 {m1 f:Machine} (h:Steps P m f) (hs:step P m=.next m1) (bu:m≠f):Steps P m1 f:=by
 obtain⟨n,hn⟩:=h;cases n with
 |zero=>
  simp only[runN]at hn;cases hn;exact absurd rfl bu
 |succ n=>
  simp only[runN,hs]at hn;exact⟨n,hn⟩
def nI (hk:Ok P P.funcs S) (iB:kQ P S (cK P S) (λ_ _=>False) ce) (ro:Option Nat) (hS:S b.fn=true):∀(n:Nat) (sc:Option Code) (c:Code) (T:List fu) (ds:List Deferred) (H:Hp) (j:Option Code) (T1:List fu) (jc:List Deferred) (H1:Hp) (R W:Nat),
 kR P (fR P) ce ro b.fn n sc c T ds H=some (j,T1,jc,H1,R,W)->cE P S c=true->(∀x,sc=some x->cE P S x=true)->∀(p:Pi) (tm:Array fu) (lN:List Deferred) (w:nq) (k:List Item),RR p ro b.roundOf->Pw P S Fp p H T ds tm lN w->
 (∀r,H.n<=r->r<H1.n->∀r',¬p r r')->(∀r,(R.testBit r=true\/W.testBit r=true)->Fp r)->
 M9 P S Fp b cs k p H.n w (lone (bH b tm lN (.code c::(match sc with|none=>k|some x=>.inScope x::k))) cs w) j T1 jc H1 W:=by
 intro n;induction n with
 |zero=>intro sc c T ds H j T1 jc H1 R W e;simp[kR]at e
 |succ n ih=>
  intro sc c T ds H j T1 jc H1 R W e hc QC p tm lN w k rh cD hn hF
  have two:∀{sc2 c2 T2 C7 H2 R2 W2 m k2},Ft H R2 W2 H2->M9 P S Fp b cs k2 p H.n w m none T2 C7 H2 W2->k2=(.code c2::(match sc2 with|none=>k|some x=>.inScope x::k))->td R2 W2 (kR P (fR P) ce ro b.fn n sc2 c2 T2 C7 H2)=some (j,T1,jc,H1,R,W)->cE P S c2=true->(∀x,sc2=some x->cE P S x=true)->
   M9 P S Fp b cs k p H.n w m j T1 jc H1 W:=by
   intro sc2 c2 T2 C7 H2 R2 W2 m k2 ES VO kE F6 LO ze6;obtain⟨R3,W3,e3,rfl,rfl⟩:=mj F6;obtain⟨bV,pp,w',q,todo,g1,g2,g3,g4⟩:=VO;have g4:=g4;subst g4;subst kE;obtain⟨jR,QO,w2,q2,yP,k1,k2,k3,k4⟩:=ih sc2 c2 T2 C7 H2 j T1 jc H1 R3 W3 e3 LO ze6 q bV pp w' k (rh.mono g2.le) g3 (bD hn g2) (cM hF);exact⟨jR,QO,w2,q2,yP,g1.trans k1,g2.or k2,k3,k4⟩
  have VP:∀{sc2 c2 R3 W3 T3 ds3 H3},td R3 W3 (kR P (fR P) ce ro b.fn n sc2 c2 T3 ds3 H3)=some (j,T1,jc,H1,R,W)->H3.n<=H1.n/\∀r,(R3.testBit r=true\/W3.testBit r=true)->Fp r:=by
   intro sc2 c2 R3 W3 T3 ds3 H3 F6;obtain⟨R4,W4,e4,rfl,rfl⟩:=mj F6;exact⟨(gG iB _ _ _ _ _ _ _ _ _ _ _ _ _ _ e4).1.nn,gH hF⟩
  have here:∀{todo m},Steps P m (lone (bH b tm lN todo) cs w)->some (j,T,ds,H,0,0)=some (j,T1,jc,H1,R,W)->vN j k todo->M9 P S Fp b cs k p H.n w m j T1 jc H1 W:=by
   intro todo m hs e he;simp only[zAB,zAH]at e;obtain⟨_,rfl,rfl,rfl,rfl,rfl⟩:=e;exact⟨tm,lN,w,p,todo,hs,Mv.refl _ _ _ _,cD,he⟩
  cases sc with
  |some sc=>
   simp only[kR]at e;have ze7:=QC sc rfl
   have pop:∀{j2 T2 C7 H2 W2},M9 P S Fp b cs (.inScope sc::k) p H.n w (lone (bH b tm lN (.code c:: .inScope sc::k)) cs w) j2 T2 C7 H2 W2->(∀l,j2=some (.goto l)->findLabel sc l=none)->M9 P S Fp b cs k p H.n w (lone (bH b tm lN (.code c:: .inScope sc::k)) cs w) j2 T2 C7 H2 W2:=by
    intro j2 T2 C7 H2 W2 ⟨bV,pp,w',q,todo,g1,g2,g3,g4⟩ J3;cases j2 with
    |none=>
     have g4:=g4;subst g4;exact⟨bV,pp,w',q,k,g1.trans (.one FX),g2,g3,rfl⟩
    |some c2=>
     refine⟨bV,pp,w',q,todo,g1,g2,g3,?_⟩;cases c2<;>try exact g4
     .rename_i l;obtain⟨k2,h1,h2⟩:=g4;refine⟨k2,h1,h2.trans ?_⟩;show(match findLabel sc l with|some rest=>(some (Item.code rest::Item.inScope sc::k):Option (List Item))|none=>gotoIn l k)=_;rw[J3 l rfl]
   split at e
   .rename_i l T2 C7 H2 R2 W2 e1;split at e
    .rename_i rest J3;have⟨x1,x2⟩:=VP e;have VO:=ih none c T ds H _ T2 C7 H2 R2 W2 e1 hc (λ_ h=>by cases h) p tm lN w (.inScope sc::k) rh cD (λr a c=>hn r a (by omega)) x2;obtain⟨bV,pp,w',q,todo,g1,g2,g3,k2,rfl,g5⟩:=VO
     have g6:gotoIn l k2=some (.code rest:: .inScope sc::k):=by
      rw[g5];show(match findLabel sc l with|some rest=>(some (Item.code rest::Item.inScope sc::k):Option (List Item))|none=>gotoIn l k)=_;rw[J3]
     exact two (sc2:=some sc) (gG iB _ _ _ _ _ _ _ _ _ _ _ _ _ _ e1).1 ⟨bV,pp,w',q,_,g1.trans (.one (QI g6)),g2,g3,rfl⟩ rfl e (Al ze7 J3) QC
    .rename_i J3;simp only[zAB,zAH]at e;obtain⟨rfl,rfl,rfl,rfl,rfl,rfl⟩:=e;exact pop (ih none c T ds H _ _ _ _ _ _ e1 hc (λ_ h=>by cases h) p tm lN w (.inScope sc::k) rh cD hn hF) λl' h=>by cases h;exact J3
   .rename_i je;refine pop (ih none c T ds H _ _ _ _ _ _ e hc (λ_ h=>by cases h) p tm lN w (.inScope sc::k) rh cD hn hF) λl h=>?_;subst h;exact absurd e (je _ _ _ _ _ _)
  |none=>
   cases c with
   |skip=>
    simp only[kR,zAB,zAH]at e;obtain⟨rfl,e⟩:=e;exact here (.one uC) (by obtain⟨rfl,rfl,rfl,rfl,rfl⟩:=e;rfl) rfl
   |label l=>
    simp only[kR,zAB,zAH]at e;obtain⟨rfl,e⟩:=e;exact here (.one MZ) (by obtain⟨rfl,rfl,rfl,rfl,rfl⟩:=e;rfl) rfl
   |exit id=>
    simp only[kR,zAB,zAH]at e;obtain⟨rfl,e⟩:=e;exact here (.refl _ _) (by obtain⟨rfl,rfl,rfl,rfl,rfl⟩:=e;rfl) ⟨k,rfl,rfl⟩
   |goto l=>
    simp only[kR,zAB,zAH]at e;obtain⟨rfl,e⟩:=e;exact here (.refl _ _) (by obtain⟨rfl,rfl,rfl,rfl,rfl⟩:=e;rfl) ⟨k,rfl,rfl⟩
   |ret=>
    simp only[kR,zAB,zAH]at e;obtain⟨rfl,e⟩:=e;exact here (.refl _ _) (by obtain⟨rfl,rfl,rfl,rfl,rfl⟩:=e;rfl) ⟨k,rfl⟩
   |refuse w=>simp[kR]at e
   |region id ops draw=>
    simp only[kR]at e;split at e<;>try(cases e;done)
    rename_i T2 H2 R2 W2 e1;simp only[zAB,zAH]at e;obtain⟨rfl,rfl,rfl,rfl,rfl,rfl⟩:=e;rcases rb hk (zOk P S) iB hc e1 cD.hg hF cD.sz cD.rl cD.tr cD.gl hn id b lN k cs with⟨bV,w',q,a1,a2,a3,a4,a5⟩|⟨_,_,_,_,_,h⟩
    .exact⟨bV,lN,w',q,k,a1,a3,⟨a2.trans (fD iB e1).2.symm,a4,a5,cD.dl.mono a3.le,cD.gl.mono a3.le,zAM cD.hg a3.nn⟩,rfl⟩
    .exact h.elim
   |seq a c=>
    simp only[cE,zAF]at hc;simp only[kR]at e;split at e
    .rename_i T2 C7 H2 R2 W2 e1;have⟨x1,x2⟩:=VP e;exact(two (sc2:=none) (gG iB _ _ _ _ _ _ _ _ _ _ _ _ _ _ e1).1 (ih none a T ds H _ _ _ _ _ _ e1 hc.1 (λ_ h=>by cases h) p tm lN w (.code c::k) rh cD (λr a c=>hn r a (by omega)) x2) rfl e hc.2 λ_ h=>by cases h).of_steps (.one eH)
    .rename_i je;obtain⟨bV,pp,w',q,todo,g1,g2,g3,g4⟩:=ih none a T ds H _ _ _ _ _ _ e hc.1 (λ_ h=>by cases h) p tm lN w (.code c::k) rh cD hn hF;cases j with
     |none=>exact absurd e (je _ _ _ _ _)
     |some c2=>exact⟨bV,pp,w',q,todo,.head eH g1,g2,g3,g4.pass (c:=c2) (x:=.code c) rfl rfl⟩
   |cond x a c=>
    simp only[cE,zAF]at hc;simp only[kR]at e;split at e<;>try(cases e;done)
    rename_i t ht;have hE:=(VJ (b:=b) (ds:=lN) (k:=.code (.cond x a c)::k) cD.gl cD.tr).at hc.1.1
    have hx:(bH b tm lN (.code (.cond x a c)::k)).eval x=.bool t:=by
     rw[ht]at hE;generalize(bH b tm lN (.code (.cond x a c)::k)).eval x=y at hE;cases hE;rfl
    refine M9.of_steps (.one (oE hx)) ?_;rw[show(if t=true then a else c)=(bif t then a else c) by cases t<;>rfl];exact ih none _ T ds H _ _ _ _ _ _ e (by cases t;exact hc.2;exact hc.1.2) (λ_ h=>by cases h) p tm lN w k rh cD hn hF
   |block id a=>
    simp only[kR]at e;split at e
    .rename_i i T2 C7 H2 R2 W2 e1;cases hb:Nat.beq i id<;>rw[hb]at e<;>simp only[zAU,zAR,zAB,zAH]at e<;>obtain⟨rfl,rfl,rfl,rfl,rfl,rfl⟩:=e
     .obtain⟨bV,pp,w',q,todo,g1,g2,g3,k2,g4,g5⟩:=ih none a T ds H _ _ _ _ _ _ e1 hc (λ_ h=>by cases h) p tm lN w (.inBlock id::k) rh cD hn hF;refine⟨bV,pp,w',q,todo,.head qV g1,g2,g3,k2,g4,g5.trans ?_⟩;show(if id==i then some k else exitTo i k)=_;rw[zAG];intro h;have:id=i:=by simpa using h
      subst this;rw[Nat.beq_refl]at hb;cases hb
     .have:i=id:=zAN hb;subst this;obtain⟨bV,pp,w',q,todo,g1,g2,g3,k2,rfl,g5⟩:=ih none a T ds H _ _ _ _ _ _ e1 hc (λ_ h=>by cases h) p tm lN w (.inBlock i::k) rh cD hn hF;refine⟨bV,pp,w',q,k,.head qV (g1.trans (.one (QH ?_))),g2,g3,rfl⟩;rw[g5];show(if i==i then some k else exitTo i k)=_;simp
    .rename_i je;obtain⟨bV,pp,w',q,todo,g1,g2,g3,g4⟩:=ih none a T ds H _ _ _ _ _ _ e hc (λ_ h=>by cases h) p tm lN w (.inBlock id::k) rh cD hn hF;cases j with
     |none=>
      have g4:=g4;subst g4;exact⟨bV,pp,w',q,k,.head qV (g1.trans (.one FW)),g2,g3,rfl⟩
     |some c2=>
      refine⟨bV,pp,w',q,todo,.head qV g1,g2,g3,?_⟩;cases c2<;>try exact g4
      exact absurd e (je _ _ _ _ _ _)
   |loop a=>
    simp only[kR]at e;split at e
    .rename_i T2 C7 H2 R2 W2 e1;have⟨x1,x2⟩:=VP e;obtain⟨R3,W3,e3,rfl,rfl⟩:=mj e;obtain⟨bV,pp,w',q,todo,g1,g2,g3,g4⟩:=ih none a T ds H _ _ _ _ _ _ e1 hc (λ_ h=>by cases h) p tm lN w (.inLoop a::k) rh cD (λr a c=>hn r a (by omega)) x2;have g4:=g4;subst g4;obtain⟨jR,QO,w2,q2,yP,k1,k2,k3,k4⟩:=ih none (.loop a) T2 C7 H2 j T1 jc H1 R3 W3 e3 hc (λ_ h=>by cases h) q bV pp w' k (rh.mono g2.le) g3 (bD hn g2) (cM hF);refine⟨jR,QO,w2,q2,yP,.head Ae (g1.trans (.head JV (F5 k1 Ae λhm=>?_))),g2.or k2,k3,k4⟩
     have h1:(bH b bV pp (.code (.loop a)::k)).todo=(bH b jR QO yP).todo:=by
      have:=zBE (λm:Machine=>(m.gs[0]?).map λg=>g.frame.todo) hm;simpa [lone]using this
     have h1:.code (.loop a)::k=yP:=h1;cases j with
     |none=>
      have k4:yP=k:=k4;have:=zBE List.length (h1.trans k4);simp at this
     |some c=>
      cases c<;>try exact k4.elim
      all_goals(obtain⟨k9,k5⟩:=k4;first|(rw[<-h1]at k5;simp at k5;done)|(rw[<-h1]at k5;have k6:=k5.1;simp at k6;done))
    .rename_i je;obtain⟨bV,pp,w',q,todo,g1,g2,g3,g4⟩:=ih none a T ds H _ _ _ _ _ _ e hc (λ_ h=>by cases h) p tm lN w (.inLoop a::k) rh cD hn hF;cases j with
     |none=>exact absurd e (je _ _ _ _ _)
     |some c2=>exact⟨bV,pp,w',q,todo,.head Ae g1,g2,g3,g4.pass (c:=c2) (x:=.inLoop a) rfl rfl⟩
   |scope a=>
    simp only[kR]at e;exact(ih (some a) a T ds H _ _ _ _ _ _ e hc (λx h=>by cases h;exact hc) p tm lN w k rh cD hn hF).of_steps (.one M0)
   |rangeFunc f params assign body=>
    simp only[cE,zAF]at hc;simp only[kR]at e;exact J2 hk iB e hc.1.1 hc.1.2 hc.2 hS rh cD hn hF
end
def xI (b:Frame) (tm:Array fu) (ds:List Deferred) (todo:List Item):Frame:={bH b tm ds todo with mode:=.returning}
section
variable {P:un} {b:Frame} {tm:Array fu} {ds:List Deferred} {todo:List Item} {cs:List Frame} {w:nq}
def yQ {fr fr':Frame} {lM:List Frame} {w':nq} (hm:fr.mode=.returning) (h:(unwind P true fr cs none w).bare=.go {frame:=fr',callers:=lM,status:=.running,dying:=none} w'):
 step P (lone fr cs w)=.next (lone fr' lM w'):=by
 refine step_lone_go ?_;rw[<-h];obtain⟨fn,tmps,todo,ds,mode,kind,ro⟩:=fr;simp only at hm;subst hm;rfl
def QP {r:Nat} (h:(Instr.takeDeferred r).run P w=.ok [] w1):step P (lone (xI b tm ({target:=.collected r,args}::ds) todo) cs w)=.next (lone (xI b tm ds todo) cs w1):=by
 refine yQ rfl ?_;unfold unwind;simp only[xI,bH,Sem.runT_eq,h,GStep.bare_after];rfl
def sq {fn:Func} (hf:P.funcs[b.fn]?=some fn) (hkd:b.kind=.normal) (h:(results fn tm).run P w=.ok v w1) (c:Frame):step P (lone (xI b tm [] todo) (c::cs) w)=.next (lone (c.finish v) cs w1):=by
 refine yQ rfl ?_;unfold unwind;simp only[xI,bH,hf,Sem.runT_eq,h,GStep.bare_after];unfold doReturn;simp only[hkd];rfl
def nJ (hj:C6 j=true) (h:vN j [] todo) (rh:b.roundOf=none):step P (lone (bH b tm ds todo) cs w)=.next (lone (xI b tm ds todo) cs w):=by
 refine bN rfl ?_;cases j with
 |none=>
  have h:=h;subst h;rw[Go.aD.fx true rfl,Go.aD.kh true (f:=bH b tm ds _) rh];rfl
 |some c=>
  cases c<;>try(cases hj;done)
  obtain⟨k2,rfl⟩:=h;rw[Go.aD.fA true rfl,Go.aD.kh true (f:=bH b tm ds _) rh];rfl
def xJ (h:vN j [] todo) (rh:b.roundOf=some l) (hkd:b.kind=.normal) (hr:(Instr.endRound l j).run P w=.ok v w1) (c:Frame):
 step P (lone (bH b tm ds todo) (c::cs) w)=.next (lone (c.finish v) cs w1):=by
 have fin:(Go.aD.jf P true (bH b tm ds todo) (c::cs) j w).bare=.go {frame:=c.finish v,callers:=cs,status:=.running,dying:=none} w1:=by
  rw[Go.aD.kj true (f:=bH b tm ds todo) rh,GStep.bare_after];simp only[Sem.runT_eq,hr];unfold doReturn;simp only[bH,hkd];rfl
 refine bN rfl ?_;cases j with
 |none=>
  have h:=h;subst h;rw[Go.aD.fx true rfl];exact fin
 |some c=>
  cases c<;>try exact h.elim
  .obtain⟨k2,rfl,h2⟩:=h;rw[Go.aD.eL true rfl,h2];exact fin
  .obtain⟨k2,rfl,h2⟩:=h;rw[Go.aD.eM true rfl,h2];exact fin
  .obtain⟨k2,rfl⟩:=h;rw[Go.aD.fA true rfl];exact fin
end
def F7 (P:un) (S ex:Nat->Bool):Prop:=∀(f:Nat) (fn:Func) (body:Code),S f=true->ex f=false->P.funcs[f]?=some fn->fn.body=some body->cE P S body=true
section
variable {P:un} {S:Nat->Bool} {Fp:Nat->Prop} {b:Frame} {cs:List Frame} {ce:Next->Hp->Rs fu}
def vO {todo:List Item} {tm:Array fu}:∀(ds:List Deferred) {H H1:Hp} {R W:Nat} {p:Pi} {lN:List Deferred} {w:nq},kD P ds H=some ((),H1,R,W)->DL p ds lN->Rl P S (cK P S) p H.get Fp w->P.globals.size<=H.n->
 (∀r,H.n<=r->r<H1.n->∀r',¬p r r')->(∀r,(R.testBit r=true\/W.testBit r=true)->Fp r)->
 ∃w1 q,Steps P (lone (xI b tm lN todo) cs w) (lone (xI b tm [] todo) cs w1)/\Mv (λr=>W.testBit r=true) p H.n w q H1.n w1/\Rl P S (cK P S) q H1.get Fp w1
 | [],H,H1,R,W,p,lN,w,e,hd,hr,hg,hn,hF=>by
   cases hd;simp only[kD,zAB,zAH,zCS]at e;obtain⟨rfl,rfl,rfl⟩:=e;exact⟨w,p,.refl _ _,Mv.refl _ _ _ _,hr⟩
 |d::ds,H,H1,R,W,p,lN,w,e,hd,hr,hg,hn,hF=>by
  cases hd with
  | @cons _ l' r r' h t=>
    simp only[kD]at e;split at e<;>try(cases e;done)
    rename_i x Ha Ra Wa e1;split at e<;>try(cases e;done)
    rename_i y Hb Rb Wb e2;simp only[zAB,zAH,zCS]at e;obtain⟨rfl,rfl,rfl⟩:=e;have n1:=(bM P _ e1).nn;have n2:=(jQ _ _ _ _ _ e2).nn;obtain⟨a',w1,q1,a1,⟨_,rfl⟩,a3,a4⟩:=iS (SR.takeDeferred h) e1 hr hg (λr x y=>hn r x (by omega)) (gH hF);obtain⟨w2,q2,b1,b2,b3⟩:=vO ds e2 (t.mono a3.le) a4 (by omega) (bD hn a3) (cM hF);exact⟨w2,q2,.head (QP a1) b1,a3.or b2,b3⟩
def te (l:List fu) (n:Nat) (x:Nat):bW (l++List.replicate n undef) x=bW l x:=by
 induction l generalizing x with
 |nil=>
  have:∀(n x:Nat),bW (List.replicate n undef) x=undef:=by
   intro n;induction n with
   |zero=>intro x;rfl
   |succ n ih=>intro x;cases x with
    |zero=>rfl
    |succ x=>exact ih x
  rw[zEG,this];rfl
 |cons y l ih=>cases x with
  |zero=>rfl
  |succ x=>exact ih x
def tg (a:Array fu) (x:Nat):bW a.toList x=a.getD x undef:=by
 rw[zBA,<-zDM];generalize a.toList=l;induction l generalizing x with
 |nil=>rfl
 |cons y l ih=>cases x with
  |zero=>rfl
  |succ x=>simpa [bW]using ih x
def nK (h:AR S p args bS) (n:Nat):
 (bS++Array.replicate (n-bS.size) undef).size=(args.toList++List.replicate (n-args.size) undef).length/\
 ∀x,VR S p (bW (args.toList++List.replicate (n-args.size) undef) x) ((bS++Array.replicate (n-bS.size) undef).getD x undef):=by
 refine⟨by simp[h.1],λx=>?_⟩;rw[te,tg]
 have:(bS++Array.replicate (n-bS.size) undef).getD x undef=bS.getD x undef:=by
  rw[zBA,zBA];rcases zDA x bS.size with hx|hx
  .rw[zEK hx]
  .rw[zDP hx,zAY hx,zDX];split<;>rfl
 rw[this];exact h.getD x VR.undef
def VQ (hk:Ok P P.funcs S) (hB:F7 P S ex) (iB:kQ P S (cK P S) (λ_ _=>False) ce) {f:Nat} (e:F3 P (fR P) ce n f args H=some (v,H1,R,W)) (hS:S f=true) (hx:ex f=false)
 {w:nq} (ha:AR S p args bS) (hr:Rl P S (cK P S) p H.get Fp w) (hG:CU P S p) (hg:P.globals.size<=H.n) (hn:∀r,H.n<=r->r<H1.n->∀r',¬p r r') (hF:∀r,(R.testBit r=true\/W.testBit r=true)->Fp r) (fr:Frame):
 ∃v' w1 q,Steps P (lone (Frame.enter P f bS .normal) (fr::cs) w) (lone (fr.finish v') cs w1)/\VR S q v v'/\Mv (λr=>W.testBit r=true) p H.n w q H1.n w1/\Rl P S (cK P S) q H1.get Fp w1:=by
 unfold F3 at e;split at e<;>try(cases e;done)
 rename_i fn xK;split at e<;>try(cases e;done)
 rename_i body ly;split at e<;>try(cases e;done)
 rename_i j T1 jc Ha Ra Wa e1;cases hj:C6 j<;>rw[hj]at e<;>simp only[zAU,zAR]at e
 .cases e
 split at e<;>try(cases e;done)
 rename_i u Hb Rb Wb e2;split at e<;>try(cases e;done)
 rename_i x Hc Rc Wc e3;simp only[zAB,zAH]at e;obtain⟨rfl,rfl,rfl,rfl⟩:=e;have f1:=gG iB _ _ _ _ _ _ _ _ _ _ _ _ _ _ e1;have n1:=f1.1.nn;have n2:=(jQ _ _ _ _ _ e2).nn;have n3:=(bM P _ e3).nn;let b0:Frame:=Frame.enter P f bS .normal
 have TJ:lone (Frame.enter P f bS .normal) (fr::cs) w=lone (bH b0 (bS++Array.replicate (fn.ntmps-bS.size) undef) [] [.code body]) (fr::cs) w:=by
  simp[b0,bH,Frame.enter,xK,ly]
 rw[TJ];obtain⟨s1,s2⟩:=nK ha fn.ntmps;obtain⟨bV,pp,w1,q1,todo,a1,a2,a3,a4⟩:=nI (b:=b0) (cs:=fr::cs) hk iB none hS n none body _ [] H j T1 jc Ha Ra Wa e1 (hB f fn body hS hx xK ly) (λ_ h=>by cases h) p _ [] w [] .none ⟨s1,hr,s2,.nil,hG,hg⟩ (λr x y=>hn r x (by omega)) (gH hF);have sY:=bD hn a2;obtain⟨w2,q2,b1,b2,b3⟩:=vO (b:=b0) (cs:=fr::cs) (todo:=todo) (tm:=bV) jc e2 a3.dl a3.rl (by omega) (λr x y=>sY r x (by omega)) (gH (cM hF));have xh:=bD sY b2;obtain⟨v',w3,q3,c1,c2,c3,c4⟩:=iS (SR.results (fn:=fn) (oS:=fn) rfl (i7 a3.sz λx=>(a3.tr x).mono b2.le)) e3 b3 (by omega) xh (cM (cM hF));exact⟨v',w3,q3,a1.trans (.head (nJ hj a4 rfl) (b1.trans (.one (sq (b:=b0) xK rfl c1 fr)))),c2,a2.or (b2.or c3),c4⟩
def J4 (hk:Ok P P.funcs S) (iB:kQ P S (cK P S) (λ_ _=>False) ce) {f:Nat} {vg:Array fu} (e:rf P (fR P) ce n l f tmps assign body H=some (v,H1,R,W)) (hS:S f=true) (hca:cE P S assign=true) (hcb:cE P S body=true)
 {w:nq} (hl:p l l') (ha:AR S p tmps vg) (hr:Rl P S (cK P S) p H.get Fp w) (hG:CU P S p) (hg:P.globals.size<=H.n) (hn:∀r,H.n<=r->r<H1.n->∀r',¬p r r') (hF:∀r,(R.testBit r=true\/W.testBit r=true)->Fp r) (fr:Frame):
 ∃v' w1 q,Steps P (lone (Frame.round l' f vg assign body .normal) (fr::cs) w) (lone (fr.finish v') cs w1)/\VR S q v v'/\Mv (λr=>W.testBit r=true) p H.n w q H1.n w1/\Rl P S (cK P S) q H1.get Fp w1:=by
 unfold rf at e;split at e<;>try(cases e;done)
 rename_i T1 jc Ha Ra Wa e1;split at e<;>try(cases e;done)
 rename_i u Hb Rb Wb e2;split at e<;>try(cases e;done)
 rename_i j T3 ds3 Hc Rc Wc e3;split at e<;>try(cases e;done)
 rename_i x Hd Rd Wd e4;simp only[zAB,zAH]at e;obtain⟨rfl,rfl,rfl,rfl⟩:=e;have n1:=(gG iB _ _ _ _ _ _ _ _ _ _ _ _ _ _ e1).1.nn;have n2:=(bM P _ e2).nn;have n3:=(gG iB _ _ _ _ _ _ _ _ _ _ _ _ _ _ e3).1.nn;have n4:=(bM P _ e4).nn;let b0:Frame:=Frame.round l' f vg assign body .normal
 have s2:∀x,VR S p (bW tmps.toList x) (vg.getD x undef):=λx=>by rw[tg];exact ha.getD x VR.undef
 obtain⟨i9,zfa,w1,q1,zje,a1,a2,a3,a4⟩:=nI (b:=b0) (cs:=fr::cs) hk iB (some l) hS n none assign _ [] H none T1 jc Ha Ra Wa e1 hca (λ_ h=>by cases h) p vg [] w [.beginRound,.code body] (.some hl) ⟨by simp[ha.1],hr,s2,.nil,hG,hg⟩ (λr x y=>hn r x (by omega)) (gH hF);have a4:=a4;subst a4;have sY:=bD hn a2;obtain⟨u',w2,q2,b1,b2,b3,b4⟩:=iS (SR.beginRound (a2.le _ _ hl)) e2 a3.rl (by omega) (λr x y=>sY r x (by omega)) (gH (cM hF));have xh:=bD sY b3;obtain⟨sr,zmf,w3,q3,zjf,c1,c2,c3,c4⟩:=nI (b:=b0) (cs:=fr::cs) hk iB (some l) hS n none body _ jc Hb j T3 ds3 Hc Rc Wc e3 hcb (λ_ h=>by cases h) q2 i9 zfa w2 [] (.some (b3.le _ _ (a2.le _ _ hl))) ⟨a3.sz,b4,λx=>(a3.tr x).mono b3.le,a3.dl.mono b3.le,a3.gl.mono b3.le,by omega⟩ (λr x y=>xh r x (by omega)) (gH (cM (cM hF)));have Yq:=bD xh c2
 have hj:∀c,j=some c->cE P S c=true:=λc hc=>by
  subst hc;cases c<;>first|rfl|exact c4.elim
 obtain⟨v',w4,q4,d1,d2,d3,d4⟩:=iS (SR.endRound (K:=cK P S) (c2.le _ _ (b3.le _ _ (a2.le _ _ hl))) j hj) e4 c3.rl (by omega) Yq (cM (cM (cM hF)));exact⟨v',w4,q4,a1.trans (.head (xH (b:=b0) rfl b1) (c1.trans (.one (xJ (b:=b0) c4 rfl rfl d1 fr)))),d2,a2.or (b3.or (c2.or d3)),d4⟩
def F8 (hk:Ok P P.funcs S) (hB:F7 P S ex):∀n,kQ P S (cK P S) (λ_ _=>False) (evN P ex n):=by
 intro n;induction n with
 |zero=>exact⟨λnx H v H1 R W e=>by simp[evN,ud]at e,λnx H v H1 R W e=>by simp[evN,ud]at e⟩
 |succ n ih=>
  refine⟨λnx H v H1 R W e=>?_,λnx H v H1 R W e p Fp w xi fr cs EP hr hG hg hn hF=>?_⟩
  .cases nx<;>simp only[evN,ud]at e<;>try(cases e;done)
   .rename_i f args;cases hx:ex f<;>rw[hx]at e<;>simp only[zAU,zAR]at e
    .exact Iz ih e
    .cases e
   .exact vM ih e
  .cases EP<;>simp only[evN,ud]at e<;>try(cases e;done)
   .rename_i f xs de hS ha;cases hx:ex f<;>rw[hx]at e<;>simp only[zAU,zAR]at e;rotate_left
    .cases e
    obtain⟨v',w1,q,a1,a2,a3,a4⟩:=VQ (cs:=cs) hk hB ih e hS hx ha hr hG hg hn hF fr;refine .inl ⟨_,v',w1,rfl,a1,q,a2,a3,a4.mono λr x=>?_⟩;rcases x with x|⟨x,y⟩
    .exact x
    .exact hF r (.inr ((Iz ih e).nw r x y))
   .rename_i l l' f xs de a c hl hf ha hca hcb _;obtain⟨v',w1,q,a1,a2,a3,a4⟩:=J4 (cs:=cs) hk ih e hf hca hcb hl ha hr hG hg hn hF fr;refine .inl ⟨_,v',w1,rfl,a1,q,a2,a3,a4.mono λr x=>?_⟩;rcases x with x|⟨x,y⟩
    .exact x
    .exact hF r (.inr ((vM ih e).nw r x y))
end
end Go.aD
