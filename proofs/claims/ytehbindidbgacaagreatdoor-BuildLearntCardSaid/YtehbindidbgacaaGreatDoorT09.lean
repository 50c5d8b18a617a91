/- A part. Conditions: none. -/
import Derived.Test.YtehbindidbgacaaGreatDoorT07
import Derived.Test.YtehbindidbgacaaGreatDoorT08
import Derived.Orders
set_option linter.all false
namespace Go.aC
variable {D:Nat->Bool} {Fp:Nat->Prop} {Hs:Nat->Hp} {T T1:List Value} {Ts:Nat->List Value} {b:Frame} {ds:List Deferred} {i j:Nat} {ops:Array Oper} {p:Pi} {r':Operand->Value} {tm:Array Value} {τ:Nat->Value}
def bG:List Value->Nat->Value
 | [],_=>undef
 |x::_,0=>x
 |_::l,n+1=>bG l n
def lH:List Value->Nat->Value->List Value
 | [],_,_=>[]
 |_::l,0,v=>v::l
 |x::l,n+1,v=>x::lH l n v
theorem jn:∀(l:List Value) (n:Nat) (v:Value),(lH l n v).length=l.length
 | [],_,_=>rfl
 |_::_,0,_=>rfl
 |_::l,n+1,v=>by simp[lH,jn l n v]
theorem vr:∀(l:List Value) (n:Nat) (v:Value) (m:Nat),bG (lH l n v) m=if m=n/\n<l.length then v else bG l m
 | [],n,v,m=>by simp[lH,bG]
 |x::l,0,v,0=>by simp[lH,bG]
 |x::l,0,v,m+1=>by simp[lH,bG]
 |x::l,n+1,v,0=>by simp[lH,bG]
 |x::l,n+1,v,m+1=>by simp[lH,bG,vr l n v m]
def zO (τ:Nat->Value):Operand->Value
 |.tmp t=>τ t
 |.const v=>v
 |.global g=>.pointer (some ⟨g,0,none⟩)
 |.func f=>.func (.func f) #[] #[]
def ri (T:List Value) (dst:Option Tmp) (v:Value):List Value:=match dst with
 |some d=>lH T d v
 |none=>T
def dC (P:Program) (ce:Next->Hp->Rs Value) (r:Operand->Value) (o:Oper) (H:Hp):Rs Value:=
 match lG P r o H with
 |some (.value v,H1,R,W)=>some (v,H1,R,W)
 |some (.skip,H1,R,W)=>some (undef,H1,R,W)
 |some (nx,H1,R,W)=>match ce nx H1 with
  |some (v,H2,R2,W2)=>some (v,H2,R|||R2,W|||W2)
  |none=>none
 |none=>none
def zP (P:Program) (S:Nat->Bool) (p:Pi):Prop:=∀g,g<P.globals.size->S (P.funcs.size+g)=true->p g g
theorem zP.mono {P:Program} {S:Nat->Bool} {q:Pi} (h:zP P S p) (hq:Le p q):zP P S q:=λg a b=>hq _ _ (h g a b)
def ig (P:Program) (oA:List PanicEntry->World->Prop) (b:Frame) (ds:List Deferred) (cs:List Frame) (m:Machine):Prop:=
 ∃tm todo chain w1,Steps P m (lone ((bh b tm ds todo).raise chain) cs w1)/\oA chain w1
theorem ig.of_steps {P:Program} {oA:List PanicEntry->World->Prop} {cs:List Frame} {m m':Machine} (h:Steps P m m') (t:ig P oA b ds cs m'):ig P oA b ds cs m:=
 let⟨tm,todo,chain,w1,a,e⟩:=t;⟨tm,todo,chain,w1,h.trans a,e⟩
structure jA (P:Program) (S:Nat->Bool) (K:Kz) (oA:List PanicEntry->World->Prop) (ce:Next->Hp->Rs Value):Prop where
 ft:∀nx H v H1 R W,ce nx H=some (v,H1,R,W)->Ft H R W H1
 run:∀nx H v H1 R W,ce nx H=some (v,H1,R,W)->∀(p:Pi) (Fp:Nat->Prop) (w:World) (uc:Next) (fr:Frame) (cs:List Frame),NX S K p nx uc->Rl P S K p H.get Fp w->zP P S p->P.globals.size<=H.n->
  (∀r,H.n<=r->r<H1.n->∀r',¬p r r')->(∀r,(R.testBit r=true\/W.testBit r=true)->Fp r)->
  (VP P uc fr cs w λv' w1=>∃q,VR S q v v'/\Mv (λr=>W.testBit r=true) p H.n w q H1.n w1/\Rl P S K q H1.get (λr=>Fp r\/(H.n<=r/\r<H1.n)) w1)\/
  ∃g chain w1,pE P uc=some g/\Steps P (lone g (fr::cs) w) (lone (fr.raise chain) cs w1)/\oA chain w1
section
variable {P:Program} {S:Nat->Bool} {K:Kz} {oA:List PanicEntry->World->Prop} {ce:Next->Hp->Rs Value} {r:Operand->Value} {o:Oper} {H:Hp} {v:Value} {H1:Hp} {R W:Nat}
theorem vu (e:dC P ce r o H=some (v,H1,R,W)):
 lG P r o H=some (.value v,H1,R,W)\/(lG P r o H=some (.skip,H1,R,W)/\v=undef)\/
 ∃nx Ha Ra Wa Rb Wb,lG P r o H=some (nx,Ha,Ra,Wa)/\ce nx Ha=some (v,H1,Rb,Wb)/\R=Ra|||Rb/\W=Wa|||Wb:=by
 unfold dC at e;split at e
 .rename_i h;simp only[zAA,zAF]at e;obtain⟨rfl,rfl,rfl,rfl⟩:=e;exact .inl h
 .rename_i h;simp only[zAA,zAF]at e;obtain⟨rfl,rfl,rfl,rfl⟩:=e;exact .inr (.inl ⟨h,rfl⟩)
 .rename_i h;split at e<;>try(cases e;done)
  rename_i h2;simp only[zAA,zAF]at e;obtain⟨rfl,rfl,rfl,rfl⟩:=e;exact .inr (.inr ⟨_,_,_,_,_,_,h,h2,rfl,rfl⟩)
 .cases e
theorem I9 (gt:jA P S K oA ce) (e:dC P ce r o H=some (v,H1,R,W)):Ft H R W H1:=by
 rcases vu e with h|⟨h,_⟩|⟨nx,Ha,Ra,Wa,Rb,Wb,h,h2,rfl,rfl⟩
 .exact rD h
 .exact rD h
 .exact(rD h).trans (gt.ft _ _ _ _ _ _ h2)
theorem CH {r:Operand->Value} (ho:jm P S o.op=true) (h:∀x∈o.op.operands,r x=r' x):lG P r o H=lG P r' o H:=by
 have hs:∀cs b,o.op≠ .select cs b:=λcs b e=>by
  rw[e]at ho;simp[jm,nY]at ho
 have e1:execOp r o=execOp r' o:=execOp_congr o hs h
 have e2:kL r o.op=kL r' o.op:=by
  unfold kL;split
  .rename_i b as ts bO;split
   .rename_i x hx;rw[h x (by rw[bO];simp only[Op.operands,Call.operands];exact Array.mem_append_right _ (zDN hx))]
   .rfl
  .rename_i t x lo hi mx bO;rw[h x (by rw[bO];simp[Op.operands])]
  .rfl
 unfold lG;rw[e1,e2];cases kL r' o.op<;>simp only[zAT,zAQ];split
 .rename_i t x lo hi mx bO;rw[h x (by rw[bO];simp[Op.operands])]
 .rename_i as ts bO;have:as.map r=as.map r':=Array.map_congr_left λx hx=>h x (by rw[bO];simp[Op.operands,Call.operands,hx]);rw[this]
 .rename_i s d x bO;rw[h x (by rw[bO];simp[Op.operands])]
 .rfl
theorem zQ {r:Operand->Value} (ho:jm P S o.op=true) (h:∀x∈o.op.operands,r x=r' x):dC P ce r o H=dC P ce r' o H:=by
 unfold dC;rw[CH ho h]
theorem RC (hG:zP P S p) {k:List Item} (hT:∀t,VR S p (τ t) (tm.getD t undef)):qZ P S p (zO τ) (bh b tm ds k).eval:=
 ⟨λt=>hT t,λv=>⟨rfl,rfl⟩,λg a c=>.ptr 0 none (hG g a c),λf=>⟨rfl,rfl⟩⟩
theorem zR (ho:jm P S o.op=true):oz o.op=true:=by
 cases h:o.op<;>first|rfl|(rw[h]at ho;simp[jm,nY]at ho)
theorem M6 (hk:Ok P P.funcs S) (hZ:Ur P K) (gt:jA P S K oA ce) {w:World} (ho:ops[i]?=some o) (it:jm P S o.op=true) (hw:Region.wanted o (yielded ops tm)=true)
 (hT:∀t,VR S p (τ t) (tm.getD t undef)) (e:dC P ce (zO τ) o H=some (v,H1,R,W)) (hr:Rl P S K p H.get Fp w) (hG:zP P S p) (hg:P.globals.size<=H.n)
 (hn:∀r,H.n<=r->r<H1.n->∀r',¬p r r') (hF:∀r,(R.testBit r=true\/W.testBit r=true)->Fp r) (b:Frame) (ds:List Deferred) (rest:List Nat) (k:List Item) (cs:List Frame):
 (∃v' w1 q,Steps P (lone (bh b tm ds (.inRegion ops (i::rest)::k)) cs w) (lone (bh b (iK tm o.dst v') ds (.inRegion ops rest::k)) cs w1)/\VR S q v v'/\Mv (λr=>W.testBit r=true) p H.n w q H1.n w1/\Rl P S K q H1.get (λr=>Fp r\/(H.n<=r/\r<H1.n)) w1)\/
 ig P oA b ds cs (lone (bh b tm ds (.inRegion ops (i::rest)::k)) cs w):=by
 have hwf:ae P P.funcs=P:=rfl;have hex:=xt (P:=P) (b:=b) (ds:=ds) (k:=k) (cs:=cs) (w:=w) (rest:=rest) ho hw (zR it);have hE:=RC (b:=b) (ds:=ds) (k:=.inRegion ops (i::rest)::k) hG hT;rcases vu e with h|⟨h,rfl⟩|⟨nx,Ha,Ra,Wa,Rb,Wb,h,h2,rfl,rfl⟩
 .obtain⟨uc,w1,q,c1,c2,c3,c4⟩:=ns hk hZ hE o it h hr hg hn λr x=>.inr (hF r x);cases c2 with
  | @value _ v' hv=>
    refine .inl ⟨v',w1,q,.one ?_,hv,c3,c4⟩;rw[<-jY v' ho];refine bp rfl ?_;rw[hex];exact(iL rfl c1).1 v' rfl
 .obtain⟨uc,w1,q,c1,c2,c3,c4⟩:=ns hk hZ hE o it h hr hg hn λr x=>.inr (hF r x);cases c2 with
  |skip=>
   refine .inl ⟨undef,w1,q,.one ?_,VR.undef,c3,c4⟩;rw[<-jY undef ho];refine bp rfl ?_;rw[hex];exact(iL rfl c1).2.1 rfl
 .have fa:=rD h;have fb:=gt.ft _ _ _ _ _ _ h2;have n1:=fa.nn;have n2:=fb.nn;obtain⟨uc,w1,q,c1,c2,c3,c4⟩:=ns hk hZ hE o it h hr hg (λr a1 a2=>hn r a1 (by omega)) (λr qi=>.inr (hF r (qi.imp (λx=>by rw[zAO,x];rfl) λx=>by rw[zAO,x];rfl)))
  have VQ:=gt.run _ _ _ _ _ _ h2 q (λr=>Fp r\/(H.n<=r/\r<Ha.n)) w1 uc (bh b tm ds (.inRegion ops (i::rest)::k)) cs c2 c4 (hG.mono c3.le) (by omega) (λr a1 a2 r' hq=>by
   rcases c3.new r r' hq with x|⟨_,x,_⟩
   .exact hn r (by omega) a2 r' x
   .omega) (λr qi=>.inl (hF r (qi.imp (λx=>by rw[zAO,x,zBX]) λx=>by rw[zAO,x,zBX])))
  rcases VQ with⟨g,v',w2,d1,d2,q2,d3,d4,d5⟩|⟨g,chain,w2,d1,d2,d3⟩
  rotate_left
  .refine .inr ⟨_,_,chain,w2,.head (bp rfl ?_) d2,d3⟩;rw[hex];exact(iL rfl c1).2.2 g d1
  refine .inl ⟨v',w2,q2,?_,d3,c3.trans d4 (λr x=>by rw[zAO,x];rfl) (λr x=>by rw[zAO,x,zBX]),d5.mono λr x=>?_⟩
  .rw[<-jY v' ho];refine .head (bp rfl ?_) d2;rw[hex];exact(iL rfl c1).2.2 g d1
  .rcases x with x|⟨a,b⟩
   .exact .inl (.inl x)
   .by_cases az:r<Ha.n
    .exact .inl (.inr ⟨a,az⟩)
    .exact .inr ⟨by omega,b⟩
end
section
variable {κ β:Type} (A:Nat->κ->β) (wr:Nat->κ->Bool)
def last (D:Nat->Bool):Nat->κ->β
 |0,k=>A 0 k
 |i+1,k=>if D i&&wr i k then A (i+1) k else last D i k
variable {A wr}
theorem rF {n:Nat} {k:κ} (hA:∀i,i<n->wr i k=false->A (i+1) k=A i k) (hi:i<=n) (h1:∀j,j<i->wr j k=true->D j=true) (h2:∀j,i<=j->j<n->wr j k=true->D j=false):
 last A wr D n k=A i k:=by
 have lo:∀m,m<=i->last A wr D m k=A m k:=by
  intro m;induction m with
  |zero=>intro _;rfl
  |succ m ih=>
   intro hm;simp only[last];cases hw:wr m k with
   |false=>simp only[Bool.and_false,zAN,zBG];rw[ih (by omega),hA m (by omega) hw]
   |true=>rw[h1 m (by omega) hw];rfl
 have qj:∀m,i<=m->m<=n->last A wr D m k=A i k:=by
  intro m;induction m with
  |zero=>intro a _;have:i=0:=by omega
         rw[this];rfl
  |succ m ih=>
   intro a b;by_cases e:i=m+1
   .rw[<-e];exact lo i (zAC i)
   .simp only[last];cases hw:wr m k with
    |false=>simp only[Bool.and_false,zAN,zBG];exact ih (by omega) (by omega)
    |true=>rw[h2 m (by omega) (by omega) hw];simp only[zGC,zAN,zBG];exact ih (by omega) (by omega)
 exact qj n hi (zAC n)
def add (D:Nat->Bool) (i:Nat):Nat->Bool:=λj=>j==i||D j
theorem xu {k:κ} (h:wr i k=false):∀n,last A wr (add D i) n k=last A wr D n k:=by
 intro n;induction n with
 |zero=>rfl
 |succ n ih=>
  simp only[last,ih];by_cases e:n=i
  .subst e;rw[h];simp
  .have:add D i n=D n:=by simp[add,e]
   rw[this]
theorem Et {k:κ} (h:wr i k=true):∀n,i<n->(∀j,i<j->j<n->wr j k=true->D j=false)->last A wr (add D i) n k=A (i+1) k:=by
 intro n;induction n with
 |zero=>intro a _;omega
 |succ n ih=>
  intro a b;simp only[last];by_cases e:n=i
  .subst e;rw[h];simp[add]
  .have e2:add D i n=D n:=by simp[add,e]
   rw[e2];cases hw:wr n k with
   |false=>simp only[Bool.and_false,zAN,zBG];exact ih (by omega) λj x y=>b j x (by omega)
   |true=>rw[b n (by omega) (by omega) hw];simp only[zGC,zAN,zBG];exact ih (by omega) λj x y=>b j x (by omega)
end
def iM (ops:Array Oper) (τ:Nat->Value) (j:Nat):Option Bool:=
 match(ops[j]?).bind (·.dst)with
 |some d=>match τ d with
  |.bool b=>some b
  |_=>none
 |none=>none
def oB (P:Program) (ce:Next->Hp->Rs Value) (ops:Array Oper) (i:Nat) (T:List Value) (H:Hp):Rs (List Value):=
 match ops[i]? with
 |none=>none
 |some o=>bif Region.wanted o (iM ops (bG T))then match dC P ce (zO (bG T)) o H with
   |some (v,H1,R,W)=>some (ri T o.dst v,H1,R,W)
   |none=>none
  else some (ri T o.dst undef,H,0,0)
theorem qu (T:List Value) (d:Option Tmp) (v:Value):(ri T d v).length=T.length:=by
 cases d<;>simp[ri,jn]
theorem vv (T:Array Value) (d:Option Tmp) (v:Value):(iK T d v).size=T.size:=by
 cases d<;>simp[iK]
theorem pF (T:List Value) (d:Option Tmp) (v:Value) (t:Nat):bG (ri T d v) t=if d=some t/\t<T.length then v else bG T t:=by
 cases d with
 |none=>simp[ri]
 |some d=>
  simp only[ri,vr,zAA];by_cases e:d=t
  .subst e;simp
  .have:¬t=d:=λh=>e h.symm;simp[e,this]
theorem vw (T:Array Value) (d:Option Tmp) (v:Value) (t:Nat):(iK T d v).getD t undef=if d=some t/\t<T.size then v else T.getD t undef:=by
 cases d with
 |none=>simp[iK]
 |some d=>
  simp only[iK,zAA,zBD,zCD];by_cases e:d=t
  .subst e;by_cases h:d<T.size<;>simp[h]
  .simp[e]
section
variable {P:Program} {S:Nat->Bool} {K:Kz} {oA:List PanicEntry->World->Prop} {ce:Next->Hp->Rs Value}
theorem F7 {o:Oper} (h:∀g b d,o.guard=some (g,b)->(ops[g]?).bind (·.dst)=some d->VR S p (τ d) (tm.getD d undef)):
 Region.wanted o (yielded ops tm)=Region.wanted o (iM ops τ):=by
 unfold Region.wanted;cases hg:o.guard with
 |none=>rfl
 |some gb=>
  obtain⟨g,b⟩:=gb;simp only
  have:yielded ops tm g=iM ops τ g:=by
   unfold yielded iM;cases hd:(ops[g]?).bind (·.dst)with
   |none=>rfl
   |some d=>
    have hv:=h g b d hg hd;simp only[zDJ];rw[zBD]at hv;cases hx:tm[d]? with
    |none=>
     rw[hx]at hv;simp only[Option.getD_none]at hv;generalize τ d=x at hv;cases hv<;>first|rfl|(rename_i h;cases h)
    |some y=>
     rw[hx]at hv;simp only[zAB]at hv;generalize τ d=x at hv;cases hv<;>first|rfl|(rename_i h;cases y<;>first|rfl|cases h)
  rw[this]
theorem jZ {H:Hp} {H1:Hp} {R W:Nat} (e:oB P ce ops i T H=some (T1,H1,R,W)):
 ∃o,ops[i]?=some o/\((Region.wanted o (iM ops (bG T))=true/\∃v,dC P ce (zO (bG T)) o H=some (v,H1,R,W)/\T1=ri T o.dst v)\/
  (Region.wanted o (iM ops (bG T))=false/\T1=ri T o.dst undef/\H1=H/\R=0/\W=0)):=by
 unfold oB at e;split at e
 .cases e
 .rename_i o ho;refine⟨o,ho,?_⟩;cases hw:Region.wanted o (iM ops (bG T))<;>rw[hw]at e<;>simp only[zAT,zAQ]at e
  .simp only[zAA,zAF]at e;obtain⟨rfl,rfl,rfl,rfl⟩:=e;exact .inr ⟨rfl,rfl,rfl,rfl,rfl⟩
  .split at e<;>try(cases e;done)
   rename_i v H2 R2 W2 ha;simp only[zAA,zAF]at e;obtain⟨rfl,rfl,rfl,rfl⟩:=e;exact .inl ⟨rfl,v,ha,rfl⟩
theorem oC (gt:jA P S K oA ce) {H:Hp} {H1:Hp} {R W:Nat} (e:oB P ce ops i T H=some (T1,H1,R,W)):Ft H R W H1:=by
 obtain⟨o,_,h⟩:=jZ e;rcases h with⟨_,v,h,_⟩|⟨_,_,rfl,rfl,rfl⟩
 .exact I9 gt h
 .exact Ft.refl _
structure Us (P:Program) (ce:Next->Hp->Rs Value) (ops:Array Oper) (Ts:Nat->List Value) (Hs:Nat->Hp) (R W:Nat->Nat):Prop where
 one:∀i,i<ops.size->oB P ce ops i (Ts i) (Hs i)=some (Ts (i+1),Hs (i+1),R i,W i)
def Good (Fo:Nat->Nat->Prop) (n:Nat):(Nat->Bool)->List Nat->Prop
 |D,[]=>∀i,i<n->D i=true
 |D,i::l=>i<n/\D i=false/\(∀a,Fo a i->D a=true)/\Good Fo n (add D i) l
def BC (W:Nat->Nat) (i r:Nat):Bool:=(W i).testBit r
def BD (ops:Array Oper) (i t:Nat):Bool:=(ops[i]?).bind (·.dst)==some t
def VS (R W:Nat->Nat) (i j:Nat):Prop:=∀r,((W i).testBit r=true->(R j).testBit r=false/\(W j).testBit r=false)/\((W j).testBit r=true->(R i).testBit r=false)
theorem Us.Ja {R W:Nat->Nat} (t:Us P ce ops Ts Hs R W) (gt:jA P S K oA ce) (hj:j<=ops.size) (h:i<=j):(Hs i).n<=(Hs j).n:=by
 induction j with
 |zero=>have:i=0:=by omega
        subst this;exact zAC _
 |succ j ih=>
  by_cases e:i=j+1
  .subst e;exact zAC _
  .exact zAP (ih (by omega) (by omega)) (oC gt (t.one j (by omega))).nn
theorem Us.length {R W:Nat->Nat} (t:Us P ce ops Ts Hs R W) (hj:j<=ops.size):(Ts j).length=(Ts 0).length:=by
 induction j with
 |zero=>rfl
 |succ j ih=>
  rw[<-ih (by omega)];obtain⟨o,_,h⟩:=jZ (t.one j (by omega));rcases h with⟨_,v,_,h⟩|⟨_,h,_⟩<;>rw[h,qu]
theorem M7 (hk:Ok P P.funcs S) (hZ:Ur P K) (gt:jA P S K oA ce) (rZ:∀(i:Nat) (o:Oper),ops[i]?=some o->jm P S o.op=true)
 {R W:Nat->Nat} (t:Us P ce ops Ts Hs R W) {Fo:Nat->Nat->Prop}
 (hm:∀i j,i<j->j<ops.size->Fo i j\/VS R W i j) (ht:∀(i j:Nat) (oi oj:Oper),i<j->ops[i]?=some oi->ops[j]?=some oj->Fo i j\/oi.apart ops oj=true)
 (hg:P.globals.size<=(Hs 0).n) (ZA:∀i,i<ops.size->∀r,((R i).testBit r=true\/(W i).testBit r=true)->Fp r) (b:Frame) (ds:List Deferred) (k:List Item) (cs:List Frame):
 ∀(l:List Nat) (D:Nat->Bool) (p:Pi) (tm:Array Value) (w:World),Good Fo ops.size D l->(∀a c,Fo a c->D c=true->D a=true)->tm.size=(Ts 0).length->
  Rl P S K p (last (λi=>(Hs i).get) (BC W) D ops.size) Fp w->(∀x,VR S p (last (λi=>bG (Ts i)) (BD ops) D ops.size x) (tm.getD x undef))->zP P S p->
  (∀j,j<ops.size->D j=false->∀r,(Hs j).n<=r->r<(Hs (j+1)).n->∀r',¬p r r')->
  (∃bF w' q,Steps P (lone (bh b tm ds (.inRegion ops l::k)) cs w) (lone (bh b bF ds (.inRegion ops []::k)) cs w')/\bF.size=(Ts 0).length/\
    Mv (λr=>∃i,i<ops.size/\(W i).testBit r=true) p (Hs 0).n w q (Hs ops.size).n w'/\Rl P S K q (Hs ops.size).get Fp w'/\∀x,VR S q (bG (Ts ops.size) x) (bF.getD x undef))\/
  ig P oA b ds cs (lone (bh b tm ds (.inRegion ops l::k)) cs w):=by
 have mono:=λi j=>t.Ja (i:=i) (j:=j) gt;have PC:∀i,i<ops.size->∀r,BC W i r=false->(Hs (i+1)).get r=(Hs i).get r:=λi hi r hr=>(oC gt (t.one i hi)).same r hr
 have PD:∀i,i<ops.size->∀x,BD ops i x=false->bG (Ts (i+1)) x=bG (Ts i) x:=λi hi x hx=>by
  obtain⟨o,ho,h⟩:=jZ (t.one i hi);have hd:¬(o.dst=some x):=λe=>by simp[BD,ho,e]at hx
  rcases h with⟨_,v,_,h⟩|⟨_,h,_⟩<;>rw[h,pF,zAH (λa=>hd a.1)]
 intro l;induction l with
 |nil=>
  intro D p tm w hl hD bW hr hT hG hn;have hl:∀i,i<ops.size->D i=true:=hl;refine .inl ⟨tm,w,p,.refl _ _,bW,(Mv.refl _ p _ w).wide (zAC _) (mono 0 ops.size (zAC _) (zAR _)),hr.congr λr _=>?_,λx=>?_⟩
  .exact(rF (A:=λi=>(Hs i).get) (wr:=BC W) (k:=r) (λi hi h=>PC i hi r h) (zAC _) (λj hj _=>hl j hj) (λj a b _=>by omega)).symm
  .rw[<-rF (A:=λi=>bG (Ts i)) (wr:=BD ops) (k:=x) (λi hi h=>PD i hi x h) (zAC _) (λj hj _=>hl j hj) (λj a b _=>by omega)];exact hT x
 |cons i l ih=>
  intro D p tm w hl hD bW hr hT hG hn;obtain⟨hi,Ut,uv,hl⟩:=hl;have e1:=t.one i hi;have BB:=oC gt e1;obtain⟨o,ho,jS⟩:=jZ e1
  have later:∀j,i<j->Fo i j->D j=false:=λj hj hf=>by
   cases hx:D j with
   |false=>rfl
   |true=>rw[hD i j hf hx]at Ut;cases Ut
  have PE:∀r,((R i).testBit r=true\/(W i).testBit r=true)->(Hs i).get r=last (λi=>(Hs i).get) (BC W) D ops.size r:=λr hr=>by
   refine(rF (A:=λi=>(Hs i).get) (wr:=BC W) (k:=r) (λi hi h=>PC i hi r h) (zET hi) (λj hj hw=>?_) (λj a c hw=>?_)).symm
   .rcases hm j i hj hi with h|h
    .exact uv j h
    .have:=(h r).1 hw;rcases hr with x|x<;>simp_all
   .by_cases e:j=i
    .subst e;exact Ut
    .have ru:i<j:=by omega
     rcases hm i j ru c with h|h
     .exact later j ru h
     .have h2:=h r;have hw:(W j).testBit r=true:=hw;rcases hr with x|x
      .have:=h2.2 hw;rw[x]at this;cases this
      .have:=(h2.1 x).2;rw[hw]at this;cases this
  have Jb:∀x,x∈o.looksAt ops->last (λi=>bG (Ts i)) (BD ops) D ops.size x=bG (Ts i) x:=λx hx=>by
   refine rF (A:=λi=>bG (Ts i)) (wr:=BD ops) (k:=x) (λi hi h=>PD i hi x h) (zET hi) (λj hj hw=>?_) (λj a c hw=>?_)
   .have hjs:j<ops.size:=by omega
    have Jc:ops[j]?=some ops[j]:=zAG hjs;have hd:ops[j].dst=some x:=by simpa [BD,Jc]using hw
    rcases ht j i _ _ hj Jc ho with h|h
    .exact uv j h
    .exact absurd hx ((Oper.apart_spec h).1 x hd)
   .by_cases e:j=i
    .subst e;exact Ut
    .have ru:i<j:=by omega
     have Jc:ops[j]?=some ops[j]:=zAG c;have hd:ops[j].dst=some x:=by simpa [BD,Jc]using hw
     rcases ht i j _ _ ru ho Jc with h|h
     .exact later j ru h
     .exact absurd hx ((Oper.apart_spec h).2.2 x hd)
  have lB:Region.wanted o (yielded ops tm)=Region.wanted o (iM ops (bG (Ts i))):=by
   refine F7 (S:=S) (p:=p) λg c d IG hd=>?_;rw[<-Jb d (by simp[Oper.looksAt,IG,hd])];exact hT d
  have Eu:∀a c,Fo a c->add D i c=true->add D i a=true:=λa c hac hc=>by
   simp only[add,zBN,beq_iff_eq]at hc⊢;rcases hc with rfl|hc
   .exact .inr (uv a hac)
   .exact .inr (hD a c hac hc)
  have Ev:∀{v v':Value} {q:Pi},Le p q->VR S q v v'->Ts (i+1)=ri (Ts i) o.dst v->∀x,VR S q (last (λi=>bG (Ts i)) (BD ops) (add D i) ops.size x) ((iK tm o.dst v').getD x undef):=λ{v v' q} hq hv VT x=>by
   rw[vw];cases hw:BD ops i x with
   |false=>
    have hd:¬(o.dst=some x):=λe=>by simp[BD,ho,e]at hw
    rw[xu hw,zAH λa=>hd a.1];exact(hT x).mono hq
   |true=>
    have hd:o.dst=some x:=by simpa [BD,ho]using hw
    rw[Et hw ops.size hi λj ru c VU=>?_]
    .rw[VT,pF,t.length (zET hi),<-bW];by_cases az:x<tm.size
     .rw[zAI ⟨hd,az⟩,zAI ⟨hd,az⟩];exact hv
     .rw[zAH λa=>az a.2,zAH λa=>az a.2];have e2:tm.getD x undef=undef:=by rw[zBD,zAZ (by omega)];rfl
      have e3:bG (Ts i) x=undef:=by
       have:∀(L:List Value) n,L.length<=n->bG L n=undef:=by
        intro L;induction L with
        |nil=>intro n _;rfl
        |cons y L ih=>intro n hn;cases n with
         |zero=>simp at hn
         |succ n=>exact ih n (by simpa using hn)
       exact this _ _ (by rw[t.length (zET hi),<-bW];omega)
      rw[e2,e3];exact VR.undef
    .have Jc:ops[j]?=some ops[j]:=zAG c;have Zv:ops[j].dst=some x:=by simpa [BD,Jc]using VU
     rcases ht i j _ _ ru ho Jc with h|h
     .exact later j ru h
     .exact absurd Zv ((Oper.apart_spec h).2.1 x hd)
  have zS:∀{q:Pi} {w1:World},Mv (λr=>(W i).testBit r=true) p (Hs i).n w q (Hs (i+1)).n w1->∀j,j<ops.size->add D i j=false->∀r,(Hs j).n<=r->r<(Hs (j+1)).n->∀r',¬q r r':=λ{q w1} rb j hj hDj r h1 h2 r' hq=>by
   simp only[add,zFY,zEJ,ne_eq]at hDj;rcases rb.new r r' hq with x|⟨a,c,_⟩
   .exact hn j hj hDj.2 r h1 h2 r' x
   .rcases Nat.lt_or_gt_of_ne hDj.1 with h|h
    .have:=mono (j+1) i (by omega) (by omega);omega
    .have:=mono (i+1) j (by omega) (by omega);omega
  have m0:=mono 0 i (zET hi) (zAR _);have m1:=mono (i+1) ops.size (zAC _) hi;have Jd:∀{q:Pi} {w1:World},Mv (λr=>(W i).testBit r=true) p (Hs i).n w q (Hs (i+1)).n w1->Mv (λr=>∃i,i<ops.size/\(W i).testBit r=true) p (Hs 0).n w q (Hs ops.size).n w1:=λh=>(h.wide m0 m1).mono λr x=>⟨i,hi,x⟩
  rcases jS with⟨hw,v,ba,VT⟩|⟨hw,VT,VJ,hR,hW⟩
  .have zbn:dC P ce (zO (last (λi=>bG (Ts i)) (BD ops) D ops.size)) o (Hs i)=some (v,Hs (i+1),R i,W i):=by
    rw[<-ba];refine zQ (rZ i o ho) λx hx=>?_;cases x with
    |tmp x=>exact Jb x (List.mem_append_left _ (List.mem_filterMap.2 ⟨.tmp x,by simpa using hx,rfl⟩))
    |_=>rfl
   have zbo:=M6 hk hZ gt (Fp:=λr=>(R i).testBit r=true\/(W i).testBit r=true) ho (rZ i o ho) (lB.trans hw) hT zbn ((hr.mono (ZA i hi)).congr λr x=>PE r x) hG (by omega) (hn i hi Ut) (λr x=>x) b ds l k cs;rcases zbo with⟨v',w1,q,c1,c2,c3,c4⟩|Je;rotate_left
   .exact .inr Je
   have jz:∀r,(W i).testBit r=true->((Hs i).n<=r/\r<(Hs (i+1)).n)\/(last (λi=>(Hs i).get) (BC W) D ops.size r).isSome:=λr hr=>(BB.wr r hr).imp id λx=>by rw[<-PE r (.inr hr)];exact x
   have VV:=hr.join c3 c4 (h2:=last (λi=>(Hs i).get) (BC W) (add D i) ops.size) (λr x=>.inl (.inr x)) (λr x=>ZA i hi r (.inr x)) BB.nw (hn i hi Ut) jz (λr x=>Et (wr:=BC W) x ops.size hi λj ru c VU=>by
    rcases hm i j ru c with h|h
    .exact later j ru h
    .have h2:=((h r).1 x).2;have VU:(W j).testBit r=true:=VU;rw[VU]at h2;cases h2) (λr x=>xu (wr:=BC W) (by simpa [BC]using x) ops.size)
   rcases ih (add D i) q (iK tm o.dst v') w1 hl Eu (by rw[vv];exact bW) VV (Ev c3.le c2 VT) (hG.mono c3.le) (zS c3)with⟨bF,w',q',d1,d2,d3,d4,d5⟩|Je;rotate_left
   .exact .inr (.of_steps c1 Je)
   exact .inl ⟨bF,w',q',c1.trans d1,d2,(Jd c3).I6 d3 (λ_ x=>x) (λ_ x=>x),d4,d5⟩
  .have mX:∀r,last (λi=>(Hs i).get) (BC W) (add D i) ops.size r=last (λi=>(Hs i).get) (BC W) D ops.size r:=λr=>xu (wr:=BC W) (by simp[BC,hW]) ops.size;have rb:Mv (λr=>(W i).testBit r=true) p (Hs i).n w p (Hs (i+1)).n w:=(Mv.refl _ p _ w).wide (zAC _) BB.nn;rcases ih (add D i) p (iK tm o.dst undef) w hl Eu (by rw[vv];exact bW) (hr.congr λr _=>mX r) (Ev (Le.refl p) VR.undef VT) hG (zS rb)with⟨bF,w',q',d1,d2,d3,d4,d5⟩|Je;rotate_left
   .exact .inr (.of_steps (.one (mZ ho (lB.trans hw))) Je)
   exact .inl ⟨bF,w',q',.head (mZ ho (lB.trans hw)) d1,d2,(Jd rb).I6 d3 (λ_ x=>x) (λ_ x=>x),d4,d5⟩
end
end Go.aC
namespace Go.aC
open Go.aC (Pw Ie)
variable {H H1:Hp} {R R1 W W1 j n:Nat} {T T1:List Value} {draw:Bool} {l:List Nat} {listed:Array Bool} {m:Region.Mode}
inductive fE (ops:Array Oper):Nat->Nat->Prop
 |RD {i j:Nat} {o:Oper} {e:Edge} (h:ops[j]?=some o) (he:e∈o.after) (hb:Region.binds .any e=true) (hi:e.on=i):fE ops i j
 |step {i k j:Nat} {o:Oper} {e:Edge} (t:fE ops i k) (h:ops[j]?=some o) (he:e∈o.after) (hb:Region.binds .any e=true) (hi:e.on=k):fE ops i j
def F8 (m i:Nat):Bool:=Nat.beq (Nat.land 1 (Nat.shiftRight m i)) 1
theorem zT {m i:Nat} (h:F8 m i=true):m.testBit i=true:=by
 have h:=zAL h;have h:1&&&(m>>>i)=1:=h;simp[Nat.testBit,h]
def sH:List Nat->Nat->Nat
 | [],_=>0
 |x::_,0=>x
 |_::l,n+1=>sH l n
theorem xw:∀(l:List Nat) (n:Nat),sH l n=(l[n]?).getD 0
 | [],n=>rfl
 |x::l,0=>rfl
 |x::l,n+1=>by simp[sH,xw l n]
def RE (l:List Nat):List Edge->Nat->Nat
 | [],m=>m
 |e::es,m=>RE l es (bif Region.binds .any e then Nat.lor m (Nat.lor (2^e.on) (sH l e.on))else m)
def rj (ops:Array Oper):Nat->List Nat
 |0=>[]
 |n+1=>rj ops n++[match ops[n]? with|none=>0|some o=>RE (rj ops n) o.after.toList 0]
theorem jo (ops:Array Oper):∀n,(rj ops n).length=n
 |0=>rfl
 |n+1=>by simp[rj,jo ops n]
theorem F9 {ops:Array Oper} {o:Oper} (ho:ops[j]?=some o) (hl:∀k i,(sH l k).testBit i=true->fE ops i k):∀(es:List Edge) (m:Nat),(∀e∈es,e∈o.after)->(∀i,m.testBit i=true->fE ops i j)->∀i,(RE l es m).testBit i=true->fE ops i j:=by
 intro es;induction es with
 |nil=>intro m _ hm i h;exact hm i h
 |cons e es ih=>
  intro m he hm i h;refine ih _ (λx hx=>he x (zBH _ hx)) (λi h=>?_) i h;cases hb:Region.binds .any e<;>rw[hb]at h<;>simp only[zAT,zAQ]at h
  .exact hm i h
  .have h:(m|||(2^e.on|||sH l e.on)).testBit i=true:=h;rw[zAO,zAO,zBN,zBN]at h;rcases h with h|h|h
   .exact hm i h
   .rw[tb]at h;exact .RD ho (he e (by simp)) hb h.symm
   .exact .step (hl _ _ h) ho (he e (by simp)) hb rfl
theorem vx (ops:Array Oper):∀n k i,(sH (rj ops n) k).testBit i=true->fE ops i k:=by
 intro n;induction n with
 |zero=>intro k i h;simp[rj,sH]at h
 |succ n ih=>
  intro k i h;rw[xw]at h;simp only[rj]at h;rcases zCS k n with hk|hk
  .rw[zCR (by rw[jo];exact hk),<-xw]at h;exact ih k i h
  .rw[zDI (by rw[jo];exact hk),jo]at h;by_cases e:k=n
   .subst e;simp only[Nat.sub_self,zBC,zAB]at h;cases ho:ops[k]? with
    |none=>rw[ho]at h;simp at h
    |some o=>
     rw[ho]at h;exact F9 ho ih o.after.toList 0 (λe he=>by simpa using he) (λi h=>by simp at h) i h
   .rw[zDA (by simp;omega)]at h;simp at h
def LW (listed:Array Bool):Nat->Nat
 |0=>0
 |m+1=>LW listed m+(bif listed.getD m true then 0 else 1)
theorem zU {listed:Array Bool}:∀{m:Nat},LW listed m=0->∀i,i<m->listed.getD i true=true
 |0,_,i,hi=>absurd hi (zEM _)
 |m+1,h,i,hi=>by
  simp only[LW]at h;by_cases e:i=m
  .subst e;cases hx:listed.getD i true with
   |true=>rfl
   |false=>rw[hx]at h;simp at h
  .exact zU (m:=m) (by omega) i (by omega)
theorem Ew {listed:Array Bool} {i:Nat} (hi:listed.getD i true=false):∀{m:Nat},LW (listed.setIfInBounds i true) m+(if i<m then 1 else 0)=LW listed m
 |0=>by simp[LW]
 |m+1=>by
  have ih:=Ew hi (m:=m);simp only[LW];by_cases e:i=m
  .subst e
   have az:i<listed.size:=by
    rcases zCS i listed.size with h|h
    .exact h
    .simp[h]at hi
   have:(listed.setIfInBounds i true).getD i true=true:=by simp[az]
   rw[this,hi];simp only[Nat.lt_irrefl,zBG,zBW,zBV,zAT,zAQ]at ih⊢;omega
  .rw[Go.getD_set_ne true e];by_cases h:i<m
   .rw[zAI h]at ih;rw[zAI (by omega)];omega
   .rw[zAH h]at ih;rw[zAH (by omega)];omega
theorem Ey {ops:Array Oper}:j∈Ie m ops listed↔listed.getD j true=false/\∃o,ops[j]?=some o/\∀e∈o.after,Region.binds m e=true->listed.getD e.on false=true:=
 Go.mem_ready
theorem vy {e:Edge} (h:Region.binds .any e=true):Region.binds m e=true:=by
 unfold Region.binds at*;split at h<;>first|(cases h;done)|rfl
theorem iN {Fo:Nat->Nat->Prop}:∀{l:List Nat} {D E:Nat->Bool},(∀i,i<n->D i=E i)->(∀a b,Fo a b->b<n->a<n)->Good Fo n D l->Good Fo n E l
 | [],D,E,h,_,g=>λi hi=>by rw[<-h i hi];exact g i hi
 |i::l,D,E,h,hFo,⟨g1,g2,g3,g4⟩=>⟨g1,by rw[<-h i g1];exact g2,λa ha=>by rw[<-h a (hFo a i ha g1)];exact g3 a ha,iN (λj hj=>by simp only[add,h j hj]) hFo g4⟩
section
variable {ops:Array Oper} (hE:∀ (i:Nat) (o:Oper) (e:Edge),ops[i]?=some o->e ∈ o.after->Region.binds .any e=true->e.on < i)
include hE
theorem vz {a b:Nat} (h:fE ops a b):a<b:=by
 induction h with
 |RD h he hb hi=>have:=hE _ _ _ h he hb;omega
 |step t h he hb hi ih=>have:=hE _ _ _ h he hb;omega
theorem Jf {zV:Nat->Nat} (hR:∀(i:Nat) (o:Oper) (e:Edge),ops[i]?=some o->e∈o.after->Region.binds m e=true->e.on<ops.size/\zV e.on<zV i)
 (h:Pw m ops n listed l):listed.size=ops.size->LW listed ops.size<=n->
 (∀a b,fE ops a b->listed.getD b false=true->listed.getD a false=true)->Good (fE ops) ops.size (λj=>listed.getD j false) l:=by
 induction h with
 | @stop n listed h=>
   intro hs hu hc i hi
   have all:∀i,i<ops.size->listed.getD i true=true:=by
    rcases h with h|h
    .subst h;exact zU (by omega)
    .have:∀k i,zV i=k->i<ops.size->listed.getD i true=true:=by
      intro k;induction k using Nat.strongRecOn with
      |ind k ih=>
       intro i hk hi;cases hx:listed.getD i true with
       |true=>rfl
       |false=>
        have ho:ops[i]?=some ops[i]:=zAG hi
        have:i∈Ie m ops listed:=Ey.2 ⟨hx,_,ho,λe he hb=>by
         obtain⟨h1,h2⟩:=hR _ _ _ ho he hb;have:=ih (zV e.on) (by omega) e.on rfl h1;have h2:e.on<listed.size:=by omega
         simpa [h2]using this⟩
        rw[h]at this;cases this
     exact λi hi=>this _ i rfl hi
   have:=all i hi;have h2:i<listed.size:=by omega
   simpa [h2]using this
 | @next n i listed l h t ih=>
   intro hs hu hc;obtain⟨h1,o,ho,h2⟩:=Ey.1 h;have hi:i<ops.size:=(zAD.1 ho).1;have his:i<listed.size:=by omega
   have uv:∀a,fE ops a i->listed.getD a false=true:=λa ha=>by
    cases ha with
    |RD h he hb hi=>rw[ho]at h;cases h;rw[<-hi];exact h2 _ he (vy hb)
    |step t h he hb hi=>rw[ho]at h;cases h;exact hc _ _ t (by rw[<-hi];exact h2 _ he (vy hb))
   have e1:∀j,j<ops.size->(listed.setIfInBounds i true).getD j false=add (λj=>listed.getD j false) i j:=λj hj=>by
    by_cases e:j=i
    .subst e;simp[add,his]
    .rw[Go.getD_set_ne false (Ne.symm e)];simp only[add,beq_false_of_ne e,zEA]
   refine⟨hi,by simpa [his]using h1,uv,?_⟩;have az:∀a b,fE ops a b->b<ops.size->a<ops.size:=λa b nW hb=>Nat.lt_trans (vz hE nW) hb;refine iN (λj hj=>e1 j hj) az (ih (by simpa using hs) ?_ λa b nW hb=>?_)
   .have:=Ew h1 (m:=ops.size);rw[zAI hi]at this;omega
   .by_cases e:i=b
    .subst e;exact Go.getD_set_true (uv a nW)
    .rw[Go.getD_set_ne false e]at hb;exact Go.getD_set_true (hc a b nW hb)
end
theorem vA:∀(n m:Nat),LW (Array.replicate n false) m<=m
 |n,0=>zAC _
 |n,m+1=>by
  have:=vA n m;simp only[LW];cases(Array.replicate n false).getD m true<;>simp<;>omega
def pos:List Nat->Nat->Nat
 | [],_=>0
 |x::l,i=>bif Nat.beq x i then 0 else pos l i+1
def mr (ops:Array Oper):Bool:=
 ((List.range ops.size).all λi=>match ops[i]? with|some o=>o.after.all λe=>Nat.blt e.on ops.size&&(!(Region.binds .any e||Region.binds .text e)||Nat.blt e.on i)|none=>true)&&
 (!Region.departs ops||(let l:=Region.linearise .gc ops 0;(List.range ops.size).all λi=>match ops[i]? with|some o=>o.after.all λe=>!Region.binds .gc e||Nat.blt (pos l e.on) (pos l i)|none=>true))
theorem sI {ops:Array Oper} (h:mr ops=true):
 (∀(i:Nat) (o:Oper) (e:Edge),ops[i]?=some o->e∈o.after->Region.binds .any e=true->e.on<i)/\
 ∀m,(m=.gc->Region.departs ops=true)->∃zV:Nat->Nat,∀(i:Nat) (o:Oper) (e:Edge),ops[i]?=some o->e∈o.after->Region.binds m e=true->e.on<ops.size/\zV e.on<zV i:=by
 simp only[mr,zAE]at h
 have arr:∀{f:Edge->Bool} {a:Array Edge},a.all f=true->∀e∈a,f e=true:=λ{f a} h e he=>by
  obtain⟨j,hj,hje⟩:=zCH.1 he;have h3:=zBO.1 h j hj;rw[hje]at h3;exact h3
 have h1:∀(i:Nat) (o:Oper) (e:Edge),ops[i]?=some o->e∈o.after->e.on<ops.size/\((Region.binds .any e=true\/Region.binds .text e=true)->e.on<i):=λi o e ho he=>by
  have hi:i<ops.size:=(zAD.1 ho).1;have:=zCQ.1 h.1 i (zEV.2 hi);rw[ho]at this;have:=arr this e he;simp only[zAE]at this;refine⟨zAV (zBW _) (zBB this.1),λhb=>?_⟩;have h2:=this.2;rw[show(Region.binds .any e||Region.binds .text e)=true by rcases hb with x|x<;>simp[x]]at h2;exact zAV (zBW _) (zBB h2)
 refine⟨λi o e ho he hb=>(h1 i o e ho he).2 (.inl hb),λm hm=>?_⟩;cases m with
 |text=>exact⟨id,λi o e ho he hb=>⟨(h1 i o e ho he).1,(h1 i o e ho he).2 (.inr hb)⟩⟩
 |any=>exact⟨id,λi o e ho he hb=>⟨(h1 i o e ho he).1,(h1 i o e ho he).2 (.inl hb)⟩⟩
 |gc=>
  have h2:=h.2;rw[hm rfl]at h2;simp only[zEB,zEA]at h2;refine⟨pos (Region.linearise .gc ops 0),λi o e ho he hb=>⟨(h1 i o e ho he).1,?_⟩⟩;have hi:i<ops.size:=(zAD.1 ho).1;have:=zCQ.1 h2 i (zEV.2 hi);rw[ho]at this;have:=arr this e he;rw[hb]at this;exact zAV (zBW _) (zBB this)
theorem uA {ops:Array Oper} (hE:mr ops=true) (mixed:Bool) (t:Nat):Good (fE ops) ops.size (λ_=>false) (Region.schedule mixed ops t):=by
 obtain⟨hA,hR⟩:=sI hE
 have key:∀m t,(m=.gc->Region.departs ops=true)->Good (fE ops) ops.size (λ_=>false) (Region.linearise m ops t):=λm t hm=>by
  obtain⟨zV,rG⟩:=hR m hm
  have hr:∀j,(Array.replicate ops.size false).getD j false=false:=λj=>by
   rw[zBD,zDU];split<;>rfl
  refine iN (λj _=>hr j) (λa b nW hb=>Nat.lt_trans (vz hA nW) hb) (Jf hA rG (Go.aC.Ct m ops t) (by simp) (vA _ _) λa b nW hb=>?_);rw[hr]at hb;cases hb
 unfold Region.schedule;split
 .exact key _ _ λh=>by cases h
 .rename_i hc
  have hd:Region.departs ops=true:=by
   cases hx:Region.departs ops with
   |true=>rfl
   |false=>rw[hx]at hc;simp at hc
  exact key _ _ λ_=>hd
theorem sJ (n:Nat):∀(m i:Nat),i+m=n->Good (·<·) n (λj=>decide (j<i)) (List.range' i m)
 |0,i,h=>λj hj=>by simp;omega
 |m+1,i,h=>by
  refine⟨by omega,by simp,λa ha=>by simpa using ha,?_⟩;refine iN (D:=λj=>decide (j<i+1)) (λj hj=>?_) (λa b nW hb=>by omega) (sJ n m (i+1) (by omega));simp only[add];by_cases e:j=i
  .subst e;simp
  .by_cases h:j<i
   .have:j<i+1:=by omega
    simp[h,this]
   .have:¬j<i+1:=by omega
    simp[h,this,e]
def gD (P:Program) (ce:Next->Hp->Rs Value) (ops:Array Oper):Nat->Nat->List Value->Hp->Option (List Value×Hp×List (Nat×Nat))
 |0,_,T,H=>some (T,H,[])
 |n+1,i,T,H=>match oB P ce ops i T H with
  |none=>none
  |some (T1,H1,R,W)=>match gD P ce ops n (i+1) T1 H1 with
   |none=>none
   |some (T2,H2,l)=>some (T2,H2,(R,W)::l)
def nc (R1 W1 R2 W2:Nat):Bool:=Nat.beq (Nat.land W1 (Nat.lor R2 W2)) 0&&Nat.beq (Nat.land W2 R1) 0
def Ez (m R W:Nat):List (Nat×Nat×Nat)->Bool
 | []=>true
 |(i,R1,W1)::l=>(F8 m i||nc R1 W1 R W)&&Ez m R W l
def iq:List Nat->List (Nat×Nat)->Nat->List (Nat×Nat×Nat)->Nat->Nat->Bool
 |_,[],_,_,_,_=>true
 | [],_::_,_,_,_,_=>false
 |m::ms,(R,W)::l,j,prev,RU,WU=>(nc RU WU R W||Ez m R W prev)&&iq ms l (j+1) ((j,R,W)::prev) (Nat.lor RU R) (Nat.lor WU W)
def Ig:List (Nat×Nat)->Nat
 | []=>0
 |(R,_)::l=>Nat.lor R (Ig l)
def Ga:List (Nat×Nat)->Nat
 | []=>0
 |(_,W)::l=>Nat.lor W (Ga l)
def eZ (P:Program) (ce:Next->Hp->Rs Value) (ops:Array Oper) (draw:Bool) (T:List Value) (H:Hp):Rs (List Value):=
 match gD P ce ops ops.size 0 T H with
 |none=>none
 |some (T1,H1,l)=>bif !draw||iq (rj ops ops.size) l 0 [] 0 0 then some (T1,H1,Ig l,Ga l)else none
def Gb (ops:Array Oper) (l:List Nat):Bool:=
 (List.range ops.size).all λj=>(List.range j).all λi=>F8 (sH l j) i||(match ops[i]?,ops[j]? with|some oi,some oj=>oi.apart ops oj|_,_=>true)
def eU (P:Program) (S:Nat->Bool) (ops:Array Oper) (draw:Bool):Bool:=
 (ops.all λo=>jm P S o.op)&&(!draw||(mr ops&&Gb ops (rj ops ops.size)))
theorem EA {R2 W2:Nat} (h:nc R1 W1 R2 W2=true) (r:Nat):(W1.testBit r=true->R2.testBit r=false/\W2.testBit r=false)/\(W2.testBit r=true->R1.testBit r=false):=by
 simp only[nc,zAE]at h;have h1:W1&&&(R2|||W2)=0:=zAL h.1;have h2:W2&&&R1=0:=zAL h.2;have e1:=zBK (λx=>Nat.testBit x r) h1;have e2:=zBK (λx=>Nat.testBit x r) h2;simp only[Nat.testBit_and,zAO,Nat.zero_testBit,Bool.and_eq_false_iff,zFY]at e1 e2;refine⟨λx=>?_,λx=>?_⟩
 .rcases e1 with e|e
  .rw[x]at e;cases e
  .exact e
 .rcases e2 with e|e
  .rw[x]at e;cases e
  .exact e
theorem vB {m:Nat}:∀{l:List (Nat×Nat×Nat)},Ez m R W l=true->∀i R1 W1,(i,R1,W1)∈l->F8 m i=true\/nc R1 W1 R W=true
 | [],_,_,_,_,h=>by cases h
 |(i,R1,W1)::l,h,j,R2,W2,hm=>by
  simp only[Ez,zAE,zBN]at h;rcases zAS.1 hm with e|hm
  .cases e;exact h.1
  .exact vB h.2 _ _ _ hm
theorem RF {RU WU:Nat} (h:nc RU WU R W=true) (hr:∀r,R1.testBit r=true->RU.testBit r=true) (hw:∀r,W1.testBit r=true->WU.testBit r=true) (r:Nat):
 (W1.testBit r=true->R.testBit r=false/\W.testBit r=false)/\(W.testBit r=true->R1.testBit r=false):=by
 obtain⟨a,b⟩:=EA h r;refine⟨λx=>a (hw r x),λx=>?_⟩;cases hx:R1.testBit r with
 |false=>rfl
 |true=>have:=b x;rw[hr r hx]at this;cases this
theorem CI:∀(ms:List Nat) (l:List (Nat×Nat)) (j:Nat) (prev:List (Nat×Nat×Nat)) (RU WU:Nat),iq ms l j prev RU WU=true->
 (∀i R1 W1,(i,R1,W1)∈prev->∀r,(R1.testBit r=true->RU.testBit r=true)/\(W1.testBit r=true->WU.testBit r=true))->
 (∀(b:Nat) (R W:Nat),l[b]?=some (R,W)->(∀i R1 W1,(i,R1,W1)∈prev->F8 (sH ms b) i=true\/∀r,(W1.testBit r=true->R.testBit r=false/\W.testBit r=false)/\(W.testBit r=true->R1.testBit r=false))/\
   ∀(a R1 W1:Nat),a<b->l[a]?=some (R1,W1)->F8 (sH ms b) (j+a)=true\/∀r,(W1.testBit r=true->R.testBit r=false/\W.testBit r=false)/\(W.testBit r=true->R1.testBit r=false)):=by
 intro ms l;induction l generalizing ms with
 |nil=>intro j prev RU WU _ _ b R W h;simp at h
 |cons x l ih=>
  obtain⟨Rx,Wx⟩:=x;intro j prev RU WU h Jg;cases ms with
  |nil=>simp[iq]at h
  |cons m ms=>
   simp only[iq,zAE,zBN]at h;obtain⟨h1,h2⟩:=h
   have ih:=ih ms (j+1) ((j,Rx,Wx)::prev) _ _ h2 (λi R1 W1 hm r=>by
    have e1:(Nat.lor RU Rx).testBit r=(RU.testBit r||Rx.testBit r):=zAO _ _ _;have e2:(Nat.lor WU Wx).testBit r=(WU.testBit r||Wx.testBit r):=zAO _ _ _;rw[e1,e2];rcases zAS.1 hm with e|hm
    .cases e;exact⟨λx=>by rw[x,zBX],λx=>by rw[x,zBX]⟩
    .have:=Jg i R1 W1 hm r;exact⟨λx=>by rw[this.1 x];rfl,λx=>by rw[this.2 x];rfl⟩)
   intro b R W hb;cases b with
   |zero=>
    simp only[zBC,zAA,zAF]at hb;obtain⟨rfl,rfl⟩:=hb;refine⟨λi R1 W1 hm=>?_,λa _ _ ha _=>by omega⟩;rcases h1 with h1|h1
    .exact .inr (RF h1 (λr=>(Jg i R1 W1 hm r).1) λr=>(Jg i R1 W1 hm r).2)
    .exact(vB h1 i R1 W1 hm).imp id λx=>EA x
   |succ b=>
    simp only[zBM]at hb;obtain⟨k1,k2⟩:=ih b R W hb;refine⟨λi R1 W1 hm=>k1 i R1 W1 (zBH _ hm),λa R1 W1 nW ha=>?_⟩;cases a with
    |zero=>
     simp only[zBC,zAA,zAF]at ha;obtain⟨rfl,rfl⟩:=ha;exact k1 j Rx Wx (by simp)
    |succ a=>
     simp only[zBM]at ha;have:=k2 a R1 W1 (by omega) ha;rw[show j+(a+1)=j+1+a by omega];exact this
theorem EC:∀{l:List (Nat×Nat)} {i R W r:Nat},l[i]?=some (R,W)->R.testBit r=true->(Ig l).testBit r=true
 | [],i,R,W,r,h,_=>by simp at h
 |(Rx,Wx)::l,i,R,W,r,h,hr=>by
  have e:(Ig ((Rx,Wx)::l)).testBit r=(Rx.testBit r||(Ig l).testBit r):=zAO _ _ _;rw[e];cases i with
  |zero=>simp only[zBC,zAA,zAF]at h;obtain⟨rfl,rfl⟩:=h;rw[hr];rfl
  |succ i=>simp only[zBM]at h;rw[EC h hr,zBX]
theorem xx:∀{l:List (Nat×Nat)} {i R W r:Nat},l[i]?=some (R,W)->W.testBit r=true->(Ga l).testBit r=true
 | [],i,R,W,r,h,_=>by simp at h
 |(Rx,Wx)::l,i,R,W,r,h,hr=>by
  have e:(Ga ((Rx,Wx)::l)).testBit r=(Wx.testBit r||(Ga l).testBit r):=zAO _ _ _;rw[e];cases i with
  |zero=>simp only[zBC,zAA,zAF]at h;obtain⟨rfl,rfl⟩:=h;rw[hr];rfl
  |succ i=>simp only[zBM]at h;rw[xx h hr,zBX]
section
variable {P:Program} {S:Nat->Bool} {K:Kz} {oA:List PanicEntry->World->Prop} {ce:Next->Hp->Rs Value}
theorem xy {ops:Array Oper}:∀(n i:Nat) (T:List Value) (H:Hp) (T2:List Value) (H2:Hp) (l:List (Nat×Nat)),gD P ce ops n i T H=some (T2,H2,l)->
 ∃(Ts:Nat->List Value) (Hs:Nat->Hp) (R W:Nat->Nat),Ts i=T/\Hs i=H/\Ts (i+n)=T2/\Hs (i+n)=H2/\(∀a,a<n->l[a]?=some (R (i+a),W (i+a)))/\∀a,i<=a->a<i+n->oB P ce ops a (Ts a) (Hs a)=some (Ts (a+1),Hs (a+1),R a,W a):=by
 intro n;induction n with
 |zero=>
  intro i T H T2 H2 l e;simp only[gD,zAA,zAF]at e;obtain⟨rfl,rfl,rfl⟩:=e;exact⟨λ_=>T,λ_=>H,λ_=>0,λ_=>0,rfl,rfl,rfl,rfl,λa h=>by omega,λa h1 h2=>by omega⟩
 |succ n ih=>
  intro i T H T2 H2 l e;simp only[gD]at e;split at e<;>try(cases e;done)
  rename_i T1 H1 R1 W1 e1;split at e<;>try(cases e;done)
  rename_i T2' Uu l' e2;simp only[zAA,zAF]at e;obtain⟨rfl,rfl,rfl⟩:=e;obtain⟨Ts,Hs,R,W,a1,a2,a3,a4,a5,a6⟩:=ih (i+1) T1 H1 T2' Uu l' e2;refine⟨λj=>if j=i then T else Ts j,λj=>if j=i then H else Hs j,λj=>if j=i then R1 else R j,λj=>if j=i then W1 else W j,zAI rfl,zAI rfl,?_,?_,?_,?_⟩
  .show(if i+(n+1)=i then T else Ts (i+(n+1)))=T2';rw[zAH (by omega),show i+(n+1)=i+1+n by omega];exact a3
  .show(if i+(n+1)=i then H else Hs (i+(n+1)))=Uu;rw[zAH (by omega),show i+(n+1)=i+1+n by omega];exact a4
  .intro a ha;show _=some ((if i+a=i then R1 else R (i+a)),(if i+a=i then W1 else W (i+a)));cases a with
   |zero=>simp
   |succ a=>
    simp only[zBM];rw[a5 a (by omega),zAH (by omega),zAH (by omega),show i+1+a=i+(a+1) by omega]
  .intro a h1 h2;show oB P ce ops a (if a=i then T else Ts a) (if a=i then H else Hs a)=some ((if a+1=i then T else Ts (a+1)),(if a+1=i then H else Hs (a+1)),(if a=i then R1 else R a),(if a=i then W1 else W a));by_cases e:a=i
   .subst e;simp only[zBV];rw[zAH (by omega),zAH (by omega),e1,a1,a2]
   .rw[zAH e,zAH e,zAH (by omega),zAH (by omega),zAH e,zAH e];exact a6 a (by omega) (by omega)
theorem Gc (gt:jA P S K oA ce) {ops:Array Oper}:∀(n i:Nat) (T:List Value) (H:Hp) (T2:List Value) (H2:Hp) (l:List (Nat×Nat)),gD P ce ops n i T H=some (T2,H2,l)->Ft H (Ig l) (Ga l) H2/\T2.length=T.length:=by
 intro n;induction n with
 |zero=>
  intro i T H T2 H2 l e;simp only[gD,zAA,zAF]at e;obtain⟨rfl,rfl,rfl⟩:=e;exact⟨Ft.refl _,rfl⟩
 |succ n ih=>
  intro i T H T2 H2 l e;simp only[gD]at e;split at e<;>try(cases e;done)
  rename_i T1 H1 R1 W1 e1;split at e<;>try(cases e;done)
  rename_i T2' Uu l' e2;simp only[zAA,zAF]at e;obtain⟨rfl,rfl,rfl⟩:=e;obtain⟨a,b⟩:=ih _ _ _ _ _ _ e2;refine⟨(oC gt e1).trans a,b.trans ?_⟩;obtain⟨o,_,h⟩:=jZ e1;rcases h with⟨_,v,_,h⟩|⟨_,h,_⟩<;>rw[h,qu]
theorem vC {ops:Array Oper} (e:eZ P ce ops draw T H=some (T1,H1,R,W)):
 ∃l,gD P ce ops ops.size 0 T H=some (T1,H1,l)/\(draw=true->iq (rj ops ops.size) l 0 [] 0 0=true)/\R=Ig l/\W=Ga l:=by
 unfold eZ at e;split at e
 .cases e
 .rename_i T1 H1 l e1;cases hc:(!draw||iq (rj ops ops.size) l 0 [] 0 0)<;>rw[hc]at e<;>simp only[zAT,zAQ]at e
  .cases e
  simp only[zAA,zAF]at e;obtain⟨rfl,rfl,rfl,rfl⟩:=e;exact⟨l,e1,λhd=>by rw[hd]at hc;simpa using hc,rfl,rfl⟩
theorem eN (gt:jA P S K oA ce) {ops:Array Oper} (e:eZ P ce ops draw T H=some (T1,H1,R,W)):Ft H R W H1/\T1.length=T.length:=by
 obtain⟨l,e1,_,rfl,rfl⟩:=vC e;exact Gc gt _ _ _ _ _ _ _ e1
theorem oD (hk:Ok P P.funcs S) (hZ:Ur P K) (gt:jA P S K oA ce) {ops:Array Oper} (bK:eU P S ops draw=true) (e:eZ P ce ops draw T H=some (T1,H1,R,W))
 {Fp:Nat->Prop} {p:Pi} {tm:Array Value} {w:World} (hg:P.globals.size<=H.n) (hF:∀r,(R.testBit r=true\/W.testBit r=true)->Fp r) (bW:tm.size=T.length) (hr:Rl P S K p H.get Fp w) (hT:∀x,VR S p (bG T x) (tm.getD x undef)) (hG:zP P S p)
 (hn:∀r,H.n<=r->r<H1.n->∀r',¬p r r') (id:Nat) (b:Frame) (ds:List Deferred) (k:List Item) (cs:List Frame):
 (∃bF w' q,Steps P (lone (bh b tm ds (.code (.region id ops draw)::k)) cs w) (lone (bh b bF ds k) cs w')/\bF.size=T.length/\
   Mv (λr=>W.testBit r=true) p H.n w q H1.n w'/\Rl P S K q H1.get Fp w'/\∀x,VR S q (bG T1 x) (bF.getD x undef))\/ig P oA b ds cs (lone (bh b tm ds (.code (.region id ops draw)::k)) cs w):=by
 obtain⟨l,e1,hp,rfl,rfl⟩:=vC e;obtain⟨Ts,Hs,R,W,a1,a2,a3,a4,a5,a6⟩:=xy _ _ _ _ _ _ _ e1;rw[zDG]at a3 a4 a6;have t:Us P ce ops Ts Hs R W:=⟨λi hi=>a6 i (zAR _) hi⟩
 have lR:∀i,i<ops.size->l[i]?=some (R i,W i):=λi hi=>by have:=a5 i hi;rwa [zDG]at this
 simp only[eU,zAE]at bK
 have rZ:∀(i:Nat) (o:Oper),ops[i]?=some o->jm P S o.op=true:=λi o ho=>by
  obtain⟨az,he⟩:=zAD.1 ho;have:=zBO.1 bK.1 i az;rw[he]at this;exact this
 have mono:=λi j=>t.Ja (i:=i) (j:=j) gt;have ZA:∀i,i<ops.size->∀r,((R i).testBit r=true\/(W i).testBit r=true)->Fp r:=λi hi r hr=>hF r (hr.imp (λx=>EC (lR i hi) x) λx=>xx (lR i hi) x)
 have l0:∀r,last (λi=>(Hs i).get) (BC W) (λ_=>false) ops.size r=H.get r:=λr=>by
  have:∀n,last (λi=>(Hs i).get) (BC W) (λ_=>false) n r=H.get r:=by
   intro n;induction n with
   |zero=>show(Hs 0).get r=_;rw[a2]
   |succ n ih=>simp only[last,zGC,zAN,zBG];exact ih
  exact this _
 have l1:∀x,last (λi=>bG (Ts i)) (BD ops) (λ_=>false) ops.size x=bG T x:=λr=>by
  have:∀n,last (λi=>bG (Ts i)) (BD ops) (λ_=>false) n r=bG T r:=by
   intro n;induction n with
   |zero=>show bG (Ts 0) r=_;rw[a1]
   |succ n ih=>simp only[last,zGC,zAN,zBG];exact ih
  exact this _
 have fin:∀{order:List Nat} {Fo:Nat->Nat->Prop} {w0:World},w0.heap=w.heap->Good Fo ops.size (λ_=>false) order->(∀i j,i<j->j<ops.size->Fo i j\/VS R W i j)->(∀(i j:Nat) (oi oj:Oper),i<j->ops[i]?=some oi->ops[j]?=some oj->Fo i j\/oi.apart ops oj=true)->
  (∃bF w' q,Steps P (lone (bh b tm ds (.inRegion ops order::k)) cs w0) (lone (bh b bF ds k) cs w')/\bF.size=T.length/\Mv (λr=>(Ga l).testBit r=true) p H.n w q H1.n w'/\Rl P S K q H1.get Fp w'/\∀x,VR S q (bG T1 x) (bF.getD x undef))\/ig P oA b ds cs (lone (bh b tm ds (.inRegion ops order::k)) cs w0):=by
  intro order Fo w0 ZB VW hm ht;rcases M7 hk hZ gt rZ t hm ht (by rw[a2];exact hg) ZA b ds k cs order (λ_=>false) p tm w0 VW (λa c _ h=>by cases h) (by rw[a1];exact bW) ((hr.heap ZB).congr λr _=>l0 r) (λx=>by rw[l1];exact hT x) hG (λj hj _ r h1 h2=>hn r (by have:=mono 0 j (zET hj) (zAR _);rw[a2]at this;omega) (by have:=mono (j+1) ops.size (zAC _) hj;rw[a4]at this;omega))with⟨bF,w',q,c1,c2,c3,c4,c5⟩|Je;rotate_left
  .exact .inr Je
  rw[a1]at c2;rw[a2,a4]at c3;rw[a4]at c4;rw[a3]at c5;exact .inl ⟨bF,w',q,c1.trans (.one dV),c2,(c3.I4 ZB.symm).mono λr ⟨i,hi,x⟩=>xx (lR i hi) x,c4,c5⟩
 cases draw with
 |false=>
  rcases fin (order:=List.range ops.size) (Fo:=(·<·)) (w0:=w) rfl (by
   have:=sJ ops.size ops.size 0 (zDG _);rw[<-List.range_eq_range']at this;exact iN (λj _=>by simp) (λa b nW hb=>by omega) this) (λi j h _=>.inl h) (λi j _ _ h _ _=>.inl h)with⟨bF,w',q,c⟩|Je
  .exact .inl ⟨bF,w',q,.head iB c.1,c.2⟩
  .exact .inr (.of_steps (.one iB) Je)
 |true=>
  have RG:=bK.2;simp only[zEB,zEA,zAE]at RG;have hpz:=CI _ _ _ _ _ _ (hp rfl) (λ_ _ _ h=>by cases h);obtain⟨tt,w0,ZB,VX⟩:=Es (P:=P) (b:=b) (tm:=tm) (ds:=ds) (k:=k) (cs:=cs) (w:=w) (id:=id) (ops:=ops)
  rcases fin (order:=Region.schedule (P.follows .mixedOrders) ops tt) (Fo:=fE ops) (w0:=w0) ZB (uA RG.1 _ _) (λi j h hj=>by
   rcases(hpz j _ _ (lR j hj)).2 i _ _ h (lR i (by omega))with x|x
   .rw[zDG]at x;exact .inl (vx _ _ _ _ (zT x))
   .exact .inr x) (λi j oi oj h hoi Jc=>by
   have hj:j<ops.size:=(zAD.1 Jc).1;have h2:=zCQ.1 (zCQ.1 RG.2 j (zEV.2 hj)) i (zEV.2 h);rw[hoi,Jc,zBN]at h2;rcases h2 with x|x
   .exact .inl (vx _ _ _ _ (zT x))
   .exact .inr x)with⟨bF,w',q,c⟩|Je
  .exact .inl ⟨bF,w',q,.head VX c.1,c.2⟩
  .exact .inr (.of_steps (.one VX) Je)
end
end Go.aC
namespace Go.aC
variable {H H1:Hp} {R R1 W W1 l l' n n1:Nat} {T T1:List Value} {args bz tmps:Array Value} {assign body:Code} {ex:Nat->Bool} {f:Operand} {gY:List Deferred} {j:Option Code} {m:Machine} {p q:Pi} {params:Array Tmp} {ro:Option Nat} {v:Value} {w1 w2:World}
abbrev Rc:=Option (Option Code×List Value×List Deferred×Hp×Nat×Nat)
def qv (R W:Nat):Rc->Rc
 |some (j,T,ds,H,R1,W1)=>some (j,T,ds,H,R|||R1,W|||W1)
 |none=>none
theorem kq {x:Rc} {ds:List Deferred} (h:qv R W x=some (j,T,ds,H,R1,W1)):∃R2 W2,x=some (j,T,ds,H,R2,W2)/\R1=R|||R2/\W1=W|||W2:=by
 cases x with
 |none=>cases h
 |some y=>
  obtain⟨a,b,c,d,e,f⟩:=y;simp only[qv,zAA,zAF]at h;obtain⟨rfl,rfl,rfl,rfl,rfl,rfl⟩:=h;exact⟨_,_,rfl,rfl,rfl⟩
def isJ:Option Code->Bool
 |none=>true
 |some .ret=>true
 |some (.exit _)=>true
 |some (.goto _)=>true
 |_=>false
def eV (r:Operand->Value) (f:Operand) (l:Nat):Sem Next:=do
 let d<-resolve r {callee:=.value f,args:=#[.const (.func (.yield l) #[] #[])],argTypes:=#[]} 0
 invoke d.target d.args
def oE (P:Program) (ce:Next->Hp->Rs Value) (ro:Option Nat) (fn:Nat) (f:Operand) (params:Array Tmp) (assign body:Code) (T:List Value) (ds:List Deferred) (H:Hp):Rc:=
 match aE P (Instr.enterLoop fn T.toArray params assign body ro) H with
 |none=>none
 |some ((l,mark),H1,R1,W1)=>match aE P (eV (zO (bG T)) f l) H1 with
  |none=>none
  |some (nx,H2,R2,W2)=>match ce nx H2 with
   |none=>none
   |some (_,H3,R3,W3)=>match aE P (Instr.endLoop l) H3 with
    |none=>none
    |some (j,H4,R4,W4)=>bif isJ j then some (j,T,mark++ds,H4,R1|||(R2|||(R3|||R4)),W1|||(W2|||(W3|||W4)))else none
abbrev Rg:=(Next->Hp->Rs Value)->Array Oper->Bool->List Value->Hp->Rs (List Value)
def jB (P:Program) (rg:Rg) (ce:Next->Hp->Rs Value) (ro:Option Nat) (fn:Nat):Nat->Option Code->Code->List Value->List Deferred->Hp->Rc
 |0,_,_,_,_,_=>none
 |n+1,some sc,c,T,ds,H=>match jB P rg ce ro fn n none c T ds H with
  |some (some (.goto l),T1,gY,H1,R,W)=>match findLabel sc l with
   |some rest=>qv R W (jB P rg ce ro fn n (some sc) rest T1 gY H1)
   |none=>some (some (.goto l),T1,gY,H1,R,W)
  |x=>x
 |n+1,none,c,T,ds,H=>match c with
  |.skip=>some (none,T,ds,H,0,0)
  |.label _=>some (none,T,ds,H,0,0)
  |.region _ ops draw=>match rg ce ops draw T H with
   |some (T1,H1,R,W)=>some (none,T1,ds,H1,R,W)
   |none=>none
  |.seq a b=>match jB P rg ce ro fn n none a T ds H with
   |some (none,T1,gY,H1,R,W)=>qv R W (jB P rg ce ro fn n none b T1 gY H1)
   |x=>x
  |.cond x a b=>match zO (bG T) x with
   |.bool t=>jB P rg ce ro fn n none (bif t then a else b) T ds H
   |_=>none
  |.block id a=>match jB P rg ce ro fn n none a T ds H with
   |some (some (.exit i),T1,gY,H1,R,W)=>bif Nat.beq i id then some (none,T1,gY,H1,R,W)else some (some (.exit i),T1,gY,H1,R,W)
   |x=>x
  |.loop a=>match jB P rg ce ro fn n none a T ds H with
   |some (none,T1,gY,H1,R,W)=>qv R W (jB P rg ce ro fn n none (.loop a) T1 gY H1)
   |x=>x
  |.scope a=>jB P rg ce ro fn n (some a) a T ds H
  |.exit id=>some (some (.exit id),T,ds,H,0,0)
  |.goto l=>some (some (.goto l),T,ds,H,0,0)
  |.ret=>some (some .ret,T,ds,H,0,0)
  |.rangeFunc f params assign body=>oE P ce ro fn f params assign body T ds H
  |.refuse _=>none
def zW:Option Code->Bool
 |none=>true
 |some .ret=>true
 |_=>false
def jp (P:Program):List Deferred->Hp->Rs Unit
 | [],H=>some ((),H,0,0)
 |{target:=.collected r,.. }::ds,H=>match aE P (Instr.takeDeferred r) H with
  |some (_,H1,R,W)=>match jp P ds H1 with
   |some (_,H2,R2,W2)=>some ((),H2,R|||R2,W|||W2)
   |none=>none
  |none=>none
 |_::_,_=>none
def CJ (P:Program) (rg:Rg) (ce:Next->Hp->Rs Value) (n:Nat) (f:Nat) (args:Array Value) (H:Hp):Rs Value:=
 match P.funcs[f]? with
 |none=>none
 |some fn=>match fn.body with
  |none=>none
  |some body=>match jB P rg ce none f n none body (args.toList++List.replicate (fn.ntmps-args.size) undef) [] H with
   |none=>none
   |some (j,T1,gY,H1,R1,W1)=>bif zW j then match jp P gY H1 with
    |none=>none
    |some (_,H2,R2,W2)=>match aE P (results fn T1.toArray) H2 with
     |none=>none
     |some (v,H3,R3,W3)=>some (v,H3,R1|||(R2|||R3),W1|||(W2|||W3))else none
def oF (P:Program) (rg:Rg) (ce:Next->Hp->Rs Value) (n:Nat) (l f:Nat) (tmps:Array Value) (assign body:Code) (H:Hp):Rs Value:=
 match jB P rg ce (some l) f n none assign tmps.toList [] H with
 |some (none,T1,gY,H1,R1,W1)=>match aE P (Instr.beginRound l) H1 with
  |none=>none
  |some (_,H2,R2,W2)=>match jB P rg ce (some l) f n none body T1 gY H2 with
   |none=>none
   |some (j,_,_,H3,R3,W3)=>match aE P (Instr.endRound l j) H3 with
    |none=>none
    |some (v,H4,R4,W4)=>some (v,H4,R1|||(R2|||(R3|||R4)),W1|||(W2|||(W3|||W4)))
 |_=>none
def rk (P:Program) (rg:Rg) (ex:Nat->Bool):Nat->Next->Hp->Rs Value
 |0,_,_=>none
 |n+1,nx,H=>match nx with
  |.enter f args=>bif ex f then none else CJ P rg (rk P rg ex n) n f args H
  |.round l f tmps assign body=>oF P rg (rk P rg ex n) n l f tmps assign body H
  |_=>none
abbrev VY (P:Program) (ex:Nat->Bool):=rk P (eZ P) ex
def cE (P:Program) (S:Nat->Bool):Code->Bool
 |.skip|.label _|.exit _|.goto _|.ret=>true
 |.region _ ops draw=>eU P S ops draw
 |.seq a b=>cE P S a&&cE P S b
 |.cond c a b=>gU P S c&&cE P S a&&cE P S b
 |.block _ a=>cE P S a
 |.loop a=>cE P S a
 |.scope a=>cE P S a
 |.rangeFunc f _ a b=>gU P S f&&cE P S a&&cE P S b
 |.refuse _=>false
def VZ (P:Program) (e:TypeId) (v:Value):Prop:=∃i z,P.info? e=some i/\i.zero=some z/\v∈z.cells
def cK (P:Program) (S:Nat->Bool):Kz:=⟨λc=>cE P S c=true,VZ P⟩
theorem V2 (P:Program) (S:Nat->Bool):Ur P (cK P S):=λe i z h1 h2 u hu=>⟨i,z,h1,h2,hu⟩
theorem xz {P:Program} {S:Nat->Bool}:∀{c:Code} {l:Nat} {r:Code},cE P S c=true->findLabel c l=some r->cE P S r=true:=by
 intro c;induction c with
 |seq a b Vf Vg=>
  intro l r h e;simp only[cE,zAE]at h;simp only[findLabel]at e;split at e
  .rename_i rest h1;simp only[zAA]at e;subst e;simp only[cE,zAE];exact⟨Vf h.1 h1,h.2⟩
  .exact Vg h.2 e
 |label l'=>
  intro l r h e;simp only[findLabel]at e;split at e
  .cases e;rfl
  .cases e
 |_=>intro l r h e;simp[findLabel]at e
section
variable {P:Program} {S:Nat->Bool} {K:Kz} {oA:List PanicEntry->World->Prop} {ce:Next->Hp->Rs Value}
theorem CK (gt:jA P S K oA ce) {fn:Nat} {ds:List Deferred}
 (e:oE P ce ro fn f params assign body T ds H=some (j,T1,gY,H1,R,W)):Ft H R W H1/\T1.length=T.length:=by
 unfold oE at e;split at e<;>try(cases e;done)
 rename_i e1;split at e<;>try(cases e;done)
 rename_i e2;split at e<;>try(cases e;done)
 rename_i e3;split at e<;>try(cases e;done)
 rename_i j _ _ _ e4;cases hj:isJ j<;>rw[hj]at e<;>simp only[zAT,zAQ]at e
 .cases e
 simp only[zAA,zAF]at e;obtain⟨rfl,rfl,rfl,rfl,rfl,rfl⟩:=e;exact⟨(bm P _ e1).trans ((bm P _ e2).trans ((gt.ft _ _ _ _ _ _ e3).trans (bm P _ e4))),rfl⟩
theorem fF (gt:jA P S K oA ce) (ro:Option Nat) (fn:Nat):∀(n:Nat) (sc:Option Code) (c:Code) (T:List Value) (ds:List Deferred) (H:Hp) (j:Option Code) (T1:List Value) (gY:List Deferred) (H1:Hp) (R W:Nat),
 jB P (eZ P) ce ro fn n sc c T ds H=some (j,T1,gY,H1,R,W)->Ft H R W H1/\T1.length=T.length:=by
 intro n;induction n with
 |zero=>intro sc c T ds H j T1 gY H1 R W e;simp[jB]at e
 |succ n ih=>
  intro sc c T ds H j T1 gY H1 R W e
  have add:∀{sc c T2 yT H2 R2 W2 j T1 gY H1 R W},Ft H R2 W2 H2/\T2.length=T.length->qv R2 W2 (jB P (eZ P) ce ro fn n sc c T2 yT H2)=some (j,T1,gY,H1,R,W)->Ft H R W H1/\T1.length=T.length:=by
   intro sc c T2 yT H2 R2 W2 j T1 gY H1 R W h e;obtain⟨R3,W3,e2,rfl,rfl⟩:=kq e;obtain⟨a,b⟩:=ih _ _ _ _ _ _ _ _ _ _ _ e2;exact⟨h.1.trans a,b.trans h.2⟩
  cases sc with
  |some sc=>
   simp only[jB]at e;split at e
   .rename_i e1;split at e
    .exact add (ih _ _ _ _ _ _ _ _ _ _ _ e1) e
    .simp only[zAA,zAF]at e;obtain⟨rfl,rfl,rfl,rfl,rfl,rfl⟩:=e;exact ih _ _ _ _ _ _ _ _ _ _ _ e1
   .exact ih _ _ _ _ _ _ _ _ _ _ _ e
  |none=>
   have Jh:∀{j':Option Code},some (j',T,ds,H,0,0)=some (j,T1,gY,H1,R,W)->Ft H R W H1/\T1.length=T.length:=λe=>by
    simp only[zAA,zAF]at e;obtain⟨rfl,rfl,rfl,rfl,rfl,rfl⟩:=e;exact⟨Ft.refl _,rfl⟩
   cases c with
   |skip=>exact Jh e
   |label l=>exact Jh e
   |exit id=>exact Jh e
   |goto l=>exact Jh e
   |ret=>exact Jh e
   |refuse w=>simp[jB]at e
   |region id ops draw=>
    simp only[jB]at e;split at e<;>try(cases e;done)
    rename_i e1;simp only[zAA,zAF]at e;obtain⟨rfl,rfl,rfl,rfl,rfl,rfl⟩:=e;exact eN gt e1
   |seq a b=>
    simp only[jB]at e;split at e
    .rename_i e1;exact add (ih _ _ _ _ _ _ _ _ _ _ _ e1) e
    .exact ih _ _ _ _ _ _ _ _ _ _ _ e
   |cond x a b=>
    simp only[jB]at e;split at e<;>try(cases e;done)
    exact ih _ _ _ _ _ _ _ _ _ _ _ e
   |block id a=>
    simp only[jB]at e;split at e
    .rename_i i _ _ _ _ _ e1;have:=ih _ _ _ _ _ _ _ _ _ _ _ e1;cases hb:Nat.beq i id<;>rw[hb]at e<;>simp only[zAT,zAQ,zAA,zAF]at e<;>obtain⟨rfl,rfl,rfl,rfl,rfl,rfl⟩:=e<;>exact this
    .exact ih _ _ _ _ _ _ _ _ _ _ _ e
   |loop a=>
    simp only[jB]at e;split at e
    .rename_i e1;exact add (ih _ _ _ _ _ _ _ _ _ _ _ e1) e
    .exact ih _ _ _ _ _ _ _ _ _ _ _ e
   |scope a=>exact ih _ _ _ _ _ _ _ _ _ _ _ e
   |rangeFunc f params assign body=>exact CK gt e
theorem iO:∀(ds:List Deferred) (H H1:Hp) (R W:Nat),jp P ds H=some ((),H1,R,W)->Ft H R W H1
 | [],H,H1,R,W,e=>by
   simp only[jp,zAA,zAF,zCB]at e;obtain⟨rfl,rfl,rfl⟩:=e;exact Ft.refl _
 |d::ds,H,H1,R,W,e=>by
  obtain⟨t,args⟩:=d;cases t<;>simp only[jp]at e<;>try(cases e;done)
  split at e<;>try(cases e;done)
  rename_i e1;split at e<;>try(cases e;done)
  rename_i e2;simp only[zAA,zAF,zCB]at e;obtain⟨rfl,rfl,rfl⟩:=e;exact(bm P _ e1).trans (iO ds _ _ _ _ e2)
theorem ED (gt:jA P S K oA ce) {f:Nat} (e:CJ P (eZ P) ce n f args H=some (v,H1,R,W)):Ft H R W H1:=by
 unfold CJ at e;split at e<;>try(cases e;done)
 split at e<;>try(cases e;done)
 split at e<;>try(cases e;done)
 rename_i j _ _ _ _ _ e1;cases hr:zW j<;>rw[hr]at e<;>simp only[zAT,zAQ]at e
 .cases e
 split at e<;>try(cases e;done)
 rename_i e2;split at e<;>try(cases e;done)
 rename_i e3;simp only[zAA,zAF]at e;obtain⟨rfl,rfl,rfl,rfl⟩:=e;exact(fF gt _ _ _ _ _ _ _ _ _ _ _ _ _ _ e1).1.trans ((iO _ _ _ _ _ e2).trans (bm P _ e3))
theorem sK (gt:jA P S K oA ce) {f:Nat} (e:oF P (eZ P) ce n l f tmps assign body H=some (v,H1,R,W)):Ft H R W H1:=by
 unfold oF at e;split at e<;>try(cases e;done)
 rename_i e1;split at e<;>try(cases e;done)
 rename_i e2;split at e<;>try(cases e;done)
 rename_i e3;split at e<;>try(cases e;done)
 rename_i e4;simp only[zAA,zAF]at e;obtain⟨rfl,rfl,rfl,rfl⟩:=e;exact(fF gt _ _ _ _ _ _ _ _ _ _ _ _ _ _ e1).1.trans ((bm P _ e2).trans ((fF gt _ _ _ _ _ _ _ _ _ _ _ _ _ _ e3).1.trans (bm P _ e4)))
end
section
variable {P:Program} {b:Frame} {tm:Array Value} {ds:List Deferred} {k:List Item} {cs:List Frame} {w:World}
theorem Ji {mark:List Deferred} {nx:Next} {g:Frame}
 (h1:(Instr.enterLoop b.fn tm params assign body b.roundOf).run P w=.ok (l,mark) w1) (h2:(eV (bh b tm (mark++ds) (.inRangeFunc l::k)).eval f l).run P w1=.ok nx w2) (hg:pE P nx=some g):
 step P (lone (bh b tm ds (.code (.rangeFunc f params assign body)::k)) cs w)=.next (lone g (bh b tm (mark++ds) (.inRangeFunc l::k)::cs) w2):=by
 refine bp rfl ?_;have:=(iL (P:=P) (cs:=cs) (fr:=bh b tm (mark++ds) (.inRangeFunc l::k)) rfl h2).2.2 g hg;rw[<-this];unfold stepG.exec;simp only[bh]at h1⊢;simp only[Sem.runT_eq,h1,GStep.bare_after];rfl
theorem zX (h:(Instr.endLoop l).run P w=.ok j w1):
 step P (lone (bh b tm ds (.endRangeFunc l::k)) cs w)=.next (lone (bh b tm ds ((j.map Item.code).toList++k)) cs w1):=by
 refine bp rfl ?_;unfold stepG.exec;simp only[bh];simp only[Sem.runT_eq,h,GStep.bare_after];rfl
theorem uB (hl:b.roundOf=some l) (h:(Instr.beginRound l).run P w=.ok () w1):
 step P (lone (bh b tm ds (.beginRound::k)) cs w)=.next (lone (bh b tm ds k) cs w1):=by
 refine bp rfl ?_
 have hs:(do (bh b tm ds (.beginRound::k)).roundOf.elim (Go.stuck "beginRound: no round") Instr.beginRound;Pure.pure Next.skip:Sem Next).run P w=.ok .skip w1:=by
  show(do b.roundOf.elim (Go.stuck "beginRound: no round") Instr.beginRound;Pure.pure Next.skip:Sem Next).run P w=.ok .skip w1;rw[hl];exact dp P _ _ w h
 have:=(iL (P:=P) (cs:=cs) (fr:=bh b tm ds (.beginRound::k)) rfl hs).2.1 rfl;rw[show(bh b tm ds (.beginRound::k)).finish undef=bh b tm ds k from rfl]at this;rw[<-this];rfl
end
def sL (j:Option Code) (k todo:List Item):Prop:=match j with
 |none=>todo=k
 |some .ret=>∃k2,todo=.code .ret::k2
 |some (.exit id)=>∃k2,todo=.code (.exit id)::k2/\exitTo id k2=exitTo id k
 |some (.goto l)=>∃k2,todo=.code (.goto l)::k2/\gotoIn l k2=gotoIn l k
 |some _=>False
structure LX (P:Program) (S:Nat->Bool) (Fp:Nat->Prop) (p:Pi) (H:Hp) (T:List Value) (ds:List Deferred) (tm:Array Value) (ka:List Deferred) (w:World):Prop where
 sz:tm.size=T.length
 rl:Rl P S (cK P S) p H.get Fp w
 tr:∀x,VR S p (bG T x) (tm.getD x undef)
 dl:DL p ds ka
 gl:zP P S p
 hg:P.globals.size<=H.n
def Jj (P:Program) (S:Nat->Bool) (Fp:Nat->Prop) (b:Frame) (cs:List Frame) (k:List Item) (p:Pi) (n:Nat) (w:World) (m:Machine) (j:Option Code) (T1:List Value) (gY:List Deferred) (H1:Hp) (W:Nat):Prop:=
 ∃bF mU w' q todo,Steps P m (lone (bh b bF mU todo) cs w')/\Mv (λr=>W.testBit r=true) p n w q H1.n w'/\LX P S Fp q H1 T1 gY bF mU w'/\sL j k todo
section
variable {P:Program} {S:Nat->Bool} {Fp:Nat->Prop} {b:Frame} {cs:List Frame} {ce:Next->Hp->Rs Value}
theorem sL.pass {x:Item} (hx:x.plain=true) {c:Code} (hj:j=some c) {k todo:List Item} (h:sL j (x::k) todo):sL j k todo:=by
 subst hj;cases c<;>try exact h
 .obtain⟨k2,h1,h2⟩:=h;refine⟨k2,h1,h2.trans ?_⟩;cases x<;>first|rfl|cases hx
 .obtain⟨k2,h1,h2⟩:=h;refine⟨k2,h1,h2.trans ?_⟩;cases x<;>first|rfl|cases hx
theorem bg {W:Nat->Prop} {N:Nat} {w:World} (h:∀r,n<=r->r<N->∀r',¬p r r') (m:Mv W p n w q n1 w1):∀r,n1<=r->r<N->∀r',¬q r r':=λr a c r' hq=>by
 rcases m.new r r' hq with x|⟨_,x,_⟩
 .exact h r (zAP m.nn a) c r' x
 .omega
theorem fG (h:∀r,((R|||R1).testBit r=true\/(W|||W1).testBit r=true)->Fp r):∀r,(R.testBit r=true\/W.testBit r=true)->Fp r:=λr x=>h r (x.imp (λx=>by rw[zAO,x];rfl) λx=>by rw[zAO,x];rfl)
theorem bV (h:∀r,((R|||R1).testBit r=true\/(W|||W1).testBit r=true)->Fp r):∀r,(R1.testBit r=true\/W1.testBit r=true)->Fp r:=λr x=>h r (x.imp (λx=>by rw[zAO,x,zBX]) λx=>by rw[zAO,x,zBX])
theorem Mv.or {s:Pi} {n2 W2:Nat} {w:World} (h:Mv (λr=>W1.testBit r=true) p n w q n1 w1) (k:Mv (λr=>W2.testBit r=true) q n1 w1 s n2 w2):Mv (λr=>(W1|||W2).testBit r=true) p n w s n2 w2:=
 h.trans k (λr x=>by rw[zAO,x];rfl) (λr x=>by rw[zAO,x,zBX])
theorem gN {α β:Type} {Q:Pi->α->β->Prop} {s:Sem α} {s':Sem β} {a:α} {w:World} (h:SR P P.funcs S (cK P S) 0 Q s s' p) (e:aE P s H=some (a,H1,R,W))
 (hr:Rl P S (cK P S) p H.get Fp w) (hg:P.globals.size<=H.n) (hn:∀r,H.n<=r->r<H1.n->∀r',¬p r r') (hF:∀r,(R.testBit r=true\/W.testBit r=true)->Fp r):
 ∃a' w1 q,s'.run P w=.ok a' w1/\Q q a a'/\Mv (λr=>W.testBit r=true) p H.n w q H1.n w1/\Rl P S (cK P S) q H1.get Fp w1:=by
 obtain⟨a',w1,q,c1,c2,c3,c4⟩:=km (P:=P) (F:=P.funcs) s (h hr.ok) e hr hg hn (λr x=>.inr (hF r x));exact⟨a',w1,q,c1,c2,c3,c4.mono λr x=>.inl x⟩
theorem gZ {tm:Array Value} (h1:tm.size=T.length) (h2:∀x,VR S p (bG T x) (tm.getD x undef)):AR S p T.toArray tm:=by
 refine⟨by simp[h1],λi v v' hv nQ=>?_⟩
 have e1:bG T i=v:=by
  have:∀(L:List Value) i,L[i]?=some v->bG L i=v:=by
   intro L;induction L with
   |nil=>intro i h;simp at h
   |cons y L ih=>intro i h;cases i with
    |zero=>simpa [bG]using h
    |succ i=>exact ih i (by simpa using h)
  exact this T i (by simpa using hv)
 have:=h2 i;rw[e1,zBD,nQ]at this;exact this
theorem SR.eV {K:Kz} (hb:px P P.funcs S) {r r':Operand->Value} (hE:qZ P S p r r') (hf:gU P S f=true) (hl:p l l'):
 SR P P.funcs S K 0 (QX S K) (aC.eV r f l) (aC.eV r' f l') p:=by
 have e:∀(r:Operand->Value),(∀v,r (.const v)=v)->∀l,aC.eV r f l=(Deferred.ofValue (r f) #[.func (.yield l) #[] #[]]>>=λd=>invoke d.target d.args):=λr hr l=>by
  unfold aC.eV resolve;simp[hr]
 rw[e r (λv=>(hE.const v).1),e r' (λv=>(hE.const v).2)];exact SR.ly hb (hE.at hf) (AR.one (VR.yield hl))
theorem Gd (hk:Ok P P.funcs S) (gt:jA P S (cK P S) (λ_ _=>False) ce) {ds:List Deferred}
 (e:oE P ce ro b.fn f params assign body T ds H=some (j,T1,gY,H1,R,W)) (hf:gU P S f=true) (ha:cE P S assign=true) (hb:cE P S body=true) (hS:S b.fn=true)
 {tm:Array Value} {ka:List Deferred} {w:World} {k:List Item} (qw:RR p ro b.roundOf) (bK:LX P S Fp p H T ds tm ka w) (hn:∀r,H.n<=r->r<H1.n->∀r',¬p r r') (hF:∀r,(R.testBit r=true\/W.testBit r=true)->Fp r):
 Jj P S Fp b cs k p H.n w (lone (bh b tm ka (.code (.rangeFunc f params assign body)::k)) cs w) j T1 gY H1 W:=by
 unfold oE at e;split at e<;>try(cases e;done)
 rename_i l mark Ha Ra Wa e1;split at e<;>try(cases e;done)
 rename_i nx Hb Rb Wb e2;split at e<;>try(cases e;done)
 rename_i v Hc Rc Wc e3;split at e<;>try(cases e;done)
 rename_i j' Hd Rd Wd e4;cases hj:isJ j'<;>rw[hj]at e<;>simp only[zAT,zAQ]at e
 .cases e
 simp only[zAA,zAF]at e;obtain⟨rfl,rfl,rfl,rfl,rfl,rfl⟩:=e;have f1:=bm P _ e1;have f2:=bm P _ e2;have f3:=gt.ft _ _ _ _ _ _ e3;have f4:=bm P _ e4;have n1:=f1.nn;have n2:=f2.nn;have n3:=f3.nn;have n4:=f4.nn
 obtain⟨⟨l',sg⟩,w1,q1,a1,⟨a2,a3⟩,a4,a5⟩:=gN (SR.enterLoop (K:=cK P S) (f:=b.fn) (f':=b.fn) rfl hS (show cE P S _=true from rfl) (gZ bK.sz bK.tr) params ha hb qw) e1 bK.rl bK.hg (λr x y=>hn r x (by omega)) (fG hF);have yS:=bg hn a4;have hE:=RC (b:=b) (ds:=sg++ka) (k:=.inRangeFunc l'::k) (bK.gl.mono a4.le) (τ:=bG T) (tm:=tm) λx=>(bK.tr x).mono a4.le;obtain⟨uc,w2,q2,b1,b2,b3,b4⟩:=gN (s':=eV (bh b tm (sg++ka) (.inRangeFunc l'::k)).eval f l') (SR.eV hk.ni hE hf a2) e2 a5 (by have:=bK.hg;omega) (λr x y=>yS r x (by omega)) (fG (bV hF));have zu:=bg yS b3;rcases gt.run _ _ _ _ _ _ e3 q2 Fp w2 uc (bh b tm (sg++ka) (.inRangeFunc l'::k)) cs b2 b4 ((bK.gl.mono a4.le).mono b3.le) (by have:=bK.hg;omega) (λr x y=>zu r x (by omega)) (fG (bV (bV hF)))with⟨g,v',w3,c1,c2,q3,c3,c4,c5⟩|⟨_,_,_,_,_,h⟩
 rotate_left
 .exact h.elim
 have Uv:=bg zu c4;obtain⟨j2,w4,q4,d1,⟨d2,d3⟩,d4,d5⟩:=gN (SR.endLoop (c4.le _ _ (b3.le _ _ a2))) e4 (c5.mono λr x=>.inl x) (by have:=bK.hg;omega) (λr x y=>Uv r x (by omega)) (bV (bV (bV hF)));subst d2;have sw:(bh b tm (sg++ka) (.inRangeFunc l'::k)).finish v'=bh b tm (sg++ka) (.endRangeFunc l'::k):=rfl;rw[sw]at c2;refine⟨tm,sg++ka,w4,q4,(j'.map Item.code).toList++k,.head (Ji a1 b1 c1) (c2.trans (.one (zX d1))),a4.or (b3.or (c4.or d4)),⟨bK.sz,d5,λx=>((((bK.tr x).mono a4.le).mono b3.le).mono c4.le).mono d4.le,DL.append (((a3.mono b3.le).mono c4.le).mono d4.le) ((((bK.dl.mono a4.le).mono b3.le).mono c4.le).mono d4.le),(((bK.gl.mono a4.le).mono b3.le).mono c4.le).mono d4.le,by have:=bK.hg;omega⟩,?_⟩;cases j' with
 |none=>rfl
 |some c=>cases c<;>first|(cases hj;done)|exact⟨k,rfl⟩|exact⟨k,rfl,rfl⟩
theorem Jj.of_steps {k:List Item} {w:World} {m':Machine} (h:Steps P m m') (g:Jj P S Fp b cs k p n w m' j T1 gY H1 W):Jj P S Fp b cs k p n w m j T1 gY H1 W:=by
 obtain⟨bF,mU,w',q,todo,a,c⟩:=g;exact⟨bF,mU,w',q,todo,h.trans a,c⟩
theorem CM {m1 f:Machine} (h:Steps P m f) (hs:step P m=.next m1) (bE:m≠f):Steps P m1 f:=by
 obtain⟨n,hn⟩:=h;cases n with
 |zero=>
  simp only[runN]at hn;cases hn;exact absurd rfl bE
 |succ n=>
  simp only[runN,hs]at hn;exact⟨n,hn⟩
theorem lI (hk:Ok P P.funcs S) (gt:jA P S (cK P S) (λ_ _=>False) ce) (ro:Option Nat) (hS:S b.fn=true):∀(n:Nat) (sc:Option Code) (c:Code) (T:List Value) (ds:List Deferred) (H:Hp) (j:Option Code) (T1:List Value) (gY:List Deferred) (H1:Hp) (R W:Nat),
 jB P (eZ P) ce ro b.fn n sc c T ds H=some (j,T1,gY,H1,R,W)->cE P S c=true->(∀x,sc=some x->cE P S x=true)->∀(p:Pi) (tm:Array Value) (ka:List Deferred) (w:World) (k:List Item),RR p ro b.roundOf->LX P S Fp p H T ds tm ka w->
 (∀r,H.n<=r->r<H1.n->∀r',¬p r r')->(∀r,(R.testBit r=true\/W.testBit r=true)->Fp r)->
 Jj P S Fp b cs k p H.n w (lone (bh b tm ka (.code c::(match sc with|none=>k|some x=>.inScope x::k))) cs w) j T1 gY H1 W:=by
 intro n;induction n with
 |zero=>intro sc c T ds H j T1 gY H1 R W e;simp[jB]at e
 |succ n ih=>
  intro sc c T ds H j T1 gY H1 R W e hc MX p tm ka w k qw bK hn hF
  have two:∀{sc2 c2 T2 yT H2 R2 W2 m k2},Ft H R2 W2 H2->Jj P S Fp b cs k2 p H.n w m none T2 yT H2 W2->k2=(.code c2::(match sc2 with|none=>k|some x=>.inScope x::k))->qv R2 W2 (jB P (eZ P) ce ro b.fn n sc2 c2 T2 yT H2)=some (j,T1,gY,H1,R,W)->cE P S c2=true->(∀x,sc2=some x->cE P S x=true)->
   Jj P S Fp b cs k p H.n w m j T1 gY H1 W:=by
   intro sc2 c2 T2 yT H2 R2 W2 m k2 BB RH j0 CN H6 zbr;obtain⟨R3,W3,e3,rfl,rfl⟩:=kq CN;obtain⟨bF,mU,w',q,todo,g1,g2,g3,g4⟩:=RH;have g4:todo=k2:=g4;subst g4;subst j0;obtain⟨iP,M8,w2,q2,vD,k1,k2,k3,k4⟩:=ih sc2 c2 T2 yT H2 j T1 gY H1 R3 W3 e3 H6 zbr q bF mU w' k (qw.mono g2.le) g3 (bg hn g2) (bV hF);exact⟨iP,M8,w2,q2,vD,g1.trans k1,g2.or k2,k3,k4⟩
  have RI:∀{sc2 c2 R3 W3 T3 V3 H3},qv R3 W3 (jB P (eZ P) ce ro b.fn n sc2 c2 T3 V3 H3)=some (j,T1,gY,H1,R,W)->H3.n<=H1.n/\∀r,(R3.testBit r=true\/W3.testBit r=true)->Fp r:=by
   intro sc2 c2 R3 W3 T3 V3 H3 CN;obtain⟨R4,W4,e4,rfl,rfl⟩:=kq CN;exact⟨(fF gt _ _ _ _ _ _ _ _ _ _ _ _ _ _ e4).1.nn,fG hF⟩
  have here:∀{todo m},Steps P m (lone (bh b tm ka todo) cs w)->some (j,T,ds,H,0,0)=some (j,T1,gY,H1,R,W)->sL j k todo->Jj P S Fp b cs k p H.n w m j T1 gY H1 W:=by
   intro todo m hs e he;simp only[zAA,zAF]at e;obtain⟨_,rfl,rfl,rfl,rfl,rfl⟩:=e;exact⟨tm,ka,w,p,todo,hs,Mv.refl _ _ _ _,bK,he⟩
  cases sc with
  |some sc=>
   simp only[jB]at e;have zbs:=MX sc rfl
   have pop:∀{j2 T2 yT H2 W2},Jj P S Fp b cs (.inScope sc::k) p H.n w (lone (bh b tm ka (.code c:: .inScope sc::k)) cs w) j2 T2 yT H2 W2->(∀l,j2=some (.goto l)->findLabel sc l=none)->Jj P S Fp b cs k p H.n w (lone (bh b tm ka (.code c:: .inScope sc::k)) cs w) j2 T2 yT H2 W2:=by
    intro j2 T2 yT H2 W2 ⟨bF,mU,w',q,todo,g1,g2,g3,g4⟩ Ge;cases j2 with
    |none=>
     have g4:todo=_:=g4;subst g4;exact⟨bF,mU,w',q,k,g1.trans (.one CG),g2,g3,rfl⟩
    |some c2=>
     refine⟨bF,mU,w',q,todo,g1,g2,g3,?_⟩;cases c2<;>try exact g4
     .rename_i l;obtain⟨k2,h1,h2⟩:=g4;refine⟨k2,h1,h2.trans ?_⟩;show(match findLabel sc l with|some rest=>(some (Item.code rest::Item.inScope sc::k):Option (List Item))|none=>gotoIn l k)=_;rw[Ge l rfl]
   split at e
   .rename_i l T2 yT H2 R2 W2 e1;split at e
    .rename_i rest Ge;have⟨x1,x2⟩:=RI e;have RH:=ih none c T ds H _ T2 yT H2 R2 W2 e1 hc (λ_ h=>by cases h) p tm ka w (.inScope sc::k) qw bK (λr a c=>hn r a (by omega)) x2;obtain⟨bF,mU,w',q,todo,g1,g2,g3,k2,rfl,g5⟩:=RH
     have g6:gotoIn l k2=some (.code rest:: .inScope sc::k):=by
      rw[g5];show(match findLabel sc l with|some rest=>(some (Item.code rest::Item.inScope sc::k):Option (List Item))|none=>gotoIn l k)=_;rw[Ge]
     exact two (sc2:=some sc) (fF gt _ _ _ _ _ _ _ _ _ _ _ _ _ _ e1).1 ⟨bF,mU,w',q,_,g1.trans (.one (M3 g6)),g2,g3,rfl⟩ rfl e (xz zbs Ge) MX
    .rename_i Ge;simp only[zAA,zAF]at e;obtain⟨rfl,rfl,rfl,rfl,rfl,rfl⟩:=e;exact pop (ih none c T ds H _ _ _ _ _ _ e1 hc (λ_ h=>by cases h) p tm ka w (.inScope sc::k) qw bK hn hF) λl' h=>by cases h;exact Ge
   .rename_i i6;refine pop (ih none c T ds H _ _ _ _ _ _ e hc (λ_ h=>by cases h) p tm ka w (.inScope sc::k) qw bK hn hF) λl h=>?_;subst h;exact absurd e (i6 _ _ _ _ _ _)
  |none=>
   cases c with
   |skip=>
    simp only[jB,zAA,zAF]at e;obtain⟨rfl,e⟩:=e;exact here (.one rE) (by obtain⟨rfl,rfl,rfl,rfl,rfl⟩:=e;rfl) rfl
   |label l=>
    simp only[jB,zAA,zAF]at e;obtain⟨rfl,e⟩:=e;exact here (.one I7) (by obtain⟨rfl,rfl,rfl,rfl,rfl⟩:=e;rfl) rfl
   |exit id=>
    simp only[jB,zAA,zAF]at e;obtain⟨rfl,e⟩:=e;exact here (.refl _ _) (by obtain⟨rfl,rfl,rfl,rfl,rfl⟩:=e;rfl) ⟨k,rfl,rfl⟩
   |goto l=>
    simp only[jB,zAA,zAF]at e;obtain⟨rfl,e⟩:=e;exact here (.refl _ _) (by obtain⟨rfl,rfl,rfl,rfl,rfl⟩:=e;rfl) ⟨k,rfl,rfl⟩
   |ret=>
    simp only[jB,zAA,zAF]at e;obtain⟨rfl,e⟩:=e;exact here (.refl _ _) (by obtain⟨rfl,rfl,rfl,rfl,rfl⟩:=e;rfl) ⟨k,rfl⟩
   |refuse w=>simp[jB]at e
   |region id ops draw=>
    simp only[jB]at e;split at e<;>try(cases e;done)
    rename_i T2 H2 R2 W2 e1;simp only[zAA,zAF]at e;obtain⟨rfl,rfl,rfl,rfl,rfl,rfl⟩:=e;rcases oD hk (V2 P S) gt hc e1 bK.hg hF bK.sz bK.rl bK.tr bK.gl hn id b ka k cs with⟨bF,w',q,a1,a2,a3,a4,a5⟩|⟨_,_,_,_,_,h⟩
    .exact⟨bF,ka,w',q,k,a1,a3,⟨a2.trans (eN gt e1).2.symm,a4,a5,bK.dl.mono a3.le,bK.gl.mono a3.le,zAP bK.hg a3.nn⟩,rfl⟩
    .exact h.elim
   |seq a c=>
    simp only[cE,zAE]at hc;simp only[jB]at e;split at e
    .rename_i T2 yT H2 R2 W2 e1;have⟨x1,x2⟩:=RI e;exact(two (sc2:=none) (fF gt _ _ _ _ _ _ _ _ _ _ _ _ _ _ e1).1 (ih none a T ds H _ _ _ _ _ _ e1 hc.1 (λ_ h=>by cases h) p tm ka w (.code c::k) qw bK (λr a c=>hn r a (by omega)) x2) rfl e hc.2 λ_ h=>by cases h).of_steps (.one dU)
    .rename_i i6;obtain⟨bF,mU,w',q,todo,g1,g2,g3,g4⟩:=ih none a T ds H _ _ _ _ _ _ e hc.1 (λ_ h=>by cases h) p tm ka w (.code c::k) qw bK hn hF;cases j with
     |none=>exact absurd e (i6 _ _ _ _ _)
     |some c2=>exact⟨bF,mU,w',q,todo,.head dU g1,g2,g3,g4.pass (c:=c2) (x:=.code c) rfl rfl⟩
   |cond x a c=>
    simp only[cE,zAE]at hc;simp only[jB]at e;split at e<;>try(cases e;done)
    rename_i t ht;have hE:=(RC (b:=b) (ds:=ka) (k:=.code (.cond x a c)::k) bK.gl bK.tr).at hc.1.1
    have hx:(bh b tm ka (.code (.cond x a c)::k)).eval x=.bool t:=by
     rw[ht]at hE;generalize(bh b tm ka (.code (.cond x a c)::k)).eval x=y at hE;cases hE;rfl
    refine Jj.of_steps (.one (mq hx)) ?_;rw[show(if t=true then a else c)=(bif t then a else c) by cases t<;>rfl];exact ih none _ T ds H _ _ _ _ _ _ e (by cases t;exact hc.2;exact hc.1.2) (λ_ h=>by cases h) p tm ka w k qw bK hn hF
   |block id a=>
    simp only[jB]at e;split at e
    .rename_i i T2 yT H2 R2 W2 e1;cases hb:Nat.beq i id<;>rw[hb]at e<;>simp only[zAT,zAQ,zAA,zAF]at e<;>obtain⟨rfl,rfl,rfl,rfl,rfl,rfl⟩:=e
     .obtain⟨bF,mU,w',q,todo,g1,g2,g3,k2,g4,g5⟩:=ih none a T ds H _ _ _ _ _ _ e1 hc (λ_ h=>by cases h) p tm ka w (.inBlock id::k) qw bK hn hF;refine⟨bF,mU,w',q,todo,.head oy g1,g2,g3,k2,g4,g5.trans ?_⟩;show(if id==i then some k else exitTo i k)=_;rw[zAH];intro h;have:id=i:=by simpa using h
      subst this;rw[Nat.beq_refl]at hb;cases hb
     .have:i=id:=zAL hb;subst this;obtain⟨bF,mU,w',q,todo,g1,g2,g3,k2,rfl,g5⟩:=ih none a T ds H _ _ _ _ _ _ e1 hc (λ_ h=>by cases h) p tm ka w (.inBlock i::k) qw bK hn hF;refine⟨bF,mU,w',q,k,.head oy (g1.trans (.one (M1 ?_))),g2,g3,rfl⟩;rw[g5];show(if i==i then some k else exitTo i k)=_;simp
    .rename_i i6;obtain⟨bF,mU,w',q,todo,g1,g2,g3,g4⟩:=ih none a T ds H _ _ _ _ _ _ e hc (λ_ h=>by cases h) p tm ka w (.inBlock id::k) qw bK hn hF;cases j with
     |none=>
      have g4:todo=_:=g4;subst g4;exact⟨bF,mU,w',q,k,.head oy (g1.trans (.one CF)),g2,g3,rfl⟩
     |some c2=>
      refine⟨bF,mU,w',q,todo,.head oy g1,g2,g3,?_⟩;cases c2<;>try exact g4
      exact absurd e (i6 _ _ _ _ _ _)
   |loop a=>
    simp only[jB]at e;split at e
    .rename_i T2 yT H2 R2 W2 e1;have⟨x1,x2⟩:=RI e;obtain⟨R3,W3,e3,rfl,rfl⟩:=kq e;obtain⟨bF,mU,w',q,todo,g1,g2,g3,g4⟩:=ih none a T ds H _ _ _ _ _ _ e1 hc (λ_ h=>by cases h) p tm ka w (.inLoop a::k) qw bK (λr a c=>hn r a (by omega)) x2;have g4:todo=_:=g4;subst g4;obtain⟨iP,M8,w2,q2,vD,k1,k2,k3,k4⟩:=ih none (.loop a) T2 yT H2 j T1 gY H1 R3 W3 e3 hc (λ_ h=>by cases h) q bF mU w' k (qw.mono g2.le) g3 (bg hn g2) (bV hF);refine⟨iP,M8,w2,q2,vD,.head xl (g1.trans (.head F6 (CM k1 xl λhm=>?_))),g2.or k2,k3,k4⟩
     have h1:(bh b bF mU (.code (.loop a)::k)).todo=(bh b iP M8 vD).todo:=by
      have:=zBK (λm:Machine=>(m.gs[0]?).map λg=>g.frame.todo) hm;simpa [lone]using this
     have h1:.code (.loop a)::k=vD:=h1;cases j with
     |none=>
      have k4:vD=k:=k4;have:=zBK List.length (h1.trans k4);simp at this
     |some c=>
      cases c<;>try exact k4.elim
      all_goals(obtain⟨k9,k5⟩:=k4;first|(rw[<-h1]at k5;simp at k5;done)|(rw[<-h1]at k5;have k6:=k5.1;simp at k6;done))
    .rename_i i6;obtain⟨bF,mU,w',q,todo,g1,g2,g3,g4⟩:=ih none a T ds H _ _ _ _ _ _ e hc (λ_ h=>by cases h) p tm ka w (.inLoop a::k) qw bK hn hF;cases j with
     |none=>exact absurd e (i6 _ _ _ _ _)
     |some c2=>exact⟨bF,mU,w',q,todo,.head xl g1,g2,g3,g4.pass (c:=c2) (x:=.inLoop a) rfl rfl⟩
   |scope a=>
    simp only[jB]at e;exact(ih (some a) a T ds H _ _ _ _ _ _ e hc (λx h=>by cases h;exact hc) p tm ka w k qw bK hn hF).of_steps (.one I8)
   |rangeFunc f params assign body=>
    simp only[cE,zAE]at hc;simp only[jB]at e;exact Gd hk gt e hc.1.1 hc.1.2 hc.2 hS qw bK hn hF
end
def uC (b:Frame) (tm:Array Value) (ds:List Deferred) (todo:List Item):Frame:={bh b tm ds todo with mode:=.returning}
section
variable {P:Program} {b:Frame} {tm:Array Value} {ds:List Deferred} {todo:List Item} {cs:List Frame} {w:World}
theorem vE {fr VO:Frame} {j9:List Frame} {w':World} (hm:fr.mode=.returning) (h:(unwind P true fr cs none w).bare=.go {frame:=VO,callers:=j9,status:=.running,dying:=none} w'):
 step P (lone fr cs w)=.next (lone VO j9 w'):=by
 refine step_lone_go ?_;rw[<-h];obtain⟨fn,tmps,todo,ds,mode,kind,ro⟩:=fr;simp only at hm;subst hm;rfl
theorem M9 {r:Nat} (h:(Instr.takeDeferred r).run P w=.ok [] w1):step P (lone (uC b tm ({target:=.collected r,args}::ds) todo) cs w)=.next (lone (uC b tm ds todo) cs w1):=by
 refine vE rfl ?_;unfold unwind;simp only[uC,bh,Sem.runT_eq,h,GStep.bare_after];rfl
theorem pG {fn:Func} (hf:P.funcs[b.fn]?=some fn) (V4:b.kind=.normal) (h:(results fn tm).run P w=.ok v w1) (c:Frame):step P (lone (uC b tm [] todo) (c::cs) w)=.next (lone (c.finish v) cs w1):=by
 refine vE rfl ?_;unfold unwind;simp only[uC,bh,hf,Sem.runT_eq,h,GStep.bare_after];unfold doReturn;simp only[V4];rfl
theorem lJ (hj:zW j=true) (h:sL j [] todo) (qw:b.roundOf=none):step P (lone (bh b tm ds todo) cs w)=.next (lone (uC b tm ds todo) cs w):=by
 refine bp rfl ?_;cases j with
 |none=>
  have h:todo=[]:=h;subst h;rw[Go.aC.eJ true rfl,Go.aC.jd true (f:=bh b tm ds _) qw];rfl
 |some c=>
  cases c<;>try(cases hj;done)
  obtain⟨k2,rfl⟩:=h;rw[Go.aC.eK true rfl,Go.aC.jd true (f:=bh b tm ds _) qw];rfl
theorem uD (h:sL j [] todo) (qw:b.roundOf=some l) (V4:b.kind=.normal) (hr:(Instr.endRound l j).run P w=.ok v w1) (c:Frame):
 step P (lone (bh b tm ds todo) (c::cs) w)=.next (lone (c.finish v) cs w1):=by
 have fin:(Go.aC.ib P true (bh b tm ds todo) (c::cs) j w).bare=.go {frame:=c.finish v,callers:=cs,status:=.running,dying:=none} w1:=by
  rw[Go.aC.je true (f:=bh b tm ds todo) qw,GStep.bare_after];simp only[Sem.runT_eq,hr];unfold doReturn;simp only[bh,V4];rfl
 refine bp rfl ?_;cases j with
 |none=>
  have h:todo=[]:=h;subst h;rw[Go.aC.eJ true rfl];exact fin
 |some c=>
  cases c<;>try exact h.elim
  .obtain⟨k2,rfl,h2⟩:=h;rw[Go.aC.d9 true rfl,h2];exact fin
  .obtain⟨k2,rfl,h2⟩:=h;rw[Go.aC.ee true rfl,h2];exact fin
  .obtain⟨k2,rfl⟩:=h;rw[Go.aC.eK true rfl];exact fin
end
def CO (P:Program) (S ex:Nat->Bool):Prop:=∀(f:Nat) (fn:Func) (body:Code),S f=true->ex f=false->P.funcs[f]?=some fn->fn.body=some body->cE P S body=true
section
variable {P:Program} {S:Nat->Bool} {Fp:Nat->Prop} {b:Frame} {cs:List Frame} {ce:Next->Hp->Rs Value}
theorem sM {todo:List Item} {tm:Array Value}:∀(ds:List Deferred) {H H1:Hp} {R W:Nat} {p:Pi} {ka:List Deferred} {w:World},jp P ds H=some ((),H1,R,W)->DL p ds ka->Rl P S (cK P S) p H.get Fp w->P.globals.size<=H.n->
 (∀r,H.n<=r->r<H1.n->∀r',¬p r r')->(∀r,(R.testBit r=true\/W.testBit r=true)->Fp r)->
 ∃w1 q,Steps P (lone (uC b tm ka todo) cs w) (lone (uC b tm [] todo) cs w1)/\Mv (λr=>W.testBit r=true) p H.n w q H1.n w1/\Rl P S (cK P S) q H1.get Fp w1
 | [],H,H1,R,W,p,ka,w,e,hd,hr,hg,hn,hF=>by
   cases hd;simp only[jp,zAA,zAF,zCB]at e;obtain⟨rfl,rfl,rfl⟩:=e;exact⟨w,p,.refl _ _,Mv.refl _ _ _ _,hr⟩
 |d::ds,H,H1,R,W,p,ka,w,e,hd,hr,hg,hn,hF=>by
  cases hd with
  | @cons _ l' r r' h t=>
    simp only[jp]at e;split at e<;>try(cases e;done)
    rename_i x Ha Ra Wa e1;split at e<;>try(cases e;done)
    rename_i y Hb Rb Wb e2;simp only[zAA,zAF,zCB]at e;obtain⟨rfl,rfl,rfl⟩:=e;have n1:=(bm P _ e1).nn;have n2:=(iO _ _ _ _ _ e2).nn;obtain⟨a',w1,q1,a1,⟨_,rfl⟩,a3,a4⟩:=gN (SR.takeDeferred h) e1 hr hg (λr x y=>hn r x (by omega)) (fG hF);obtain⟨w2,q2,b1,b2,b3⟩:=sM ds e2 (t.mono a3.le) a4 (by omega) (bg hn a3) (bV hF);exact⟨w2,q2,.head (M9 a1) b1,a3.or b2,b3⟩
theorem qx (l:List Value) (n:Nat) (x:Nat):bG (l++List.replicate n undef) x=bG l x:=by
 induction l generalizing x with
 |nil=>
  have:∀(n x:Nat),bG (List.replicate n undef) x=undef:=by
   intro n;induction n with
   |zero=>intro x;rfl
   |succ n ih=>intro x;cases x with
    |zero=>rfl
    |succ x=>exact ih x
  rw[zDS,this];rfl
 |cons y l ih=>cases x with
  |zero=>rfl
  |succ x=>exact ih x
theorem qy (a:Array Value) (x:Nat):bG a.toList x=a.getD x undef:=by
 rw[zBD,<-zDL];generalize a.toList=l;induction l generalizing x with
 |nil=>rfl
 |cons y l ih=>cases x with
  |zero=>rfl
  |succ x=>simpa [bG]using ih x
theorem lK (h:AR S p args bz) (n:Nat):
 (bz++Array.replicate (n-bz.size) undef).size=(args.toList++List.replicate (n-args.size) undef).length/\
 ∀x,VR S p (bG (args.toList++List.replicate (n-args.size) undef) x) ((bz++Array.replicate (n-bz.size) undef).getD x undef):=by
 refine⟨by simp[h.1],λx=>?_⟩;rw[qx,qy]
 have:(bz++Array.replicate (n-bz.size) undef).getD x undef=bz.getD x undef:=by
  rw[zBD,zBD];rcases zCS x bz.size with hx|hx
  .rw[zEC hx]
  .rw[zDF hx,zAZ hx,zDU];split<;>rfl
 rw[this];exact h.getD x VR.undef
theorem RJ (hk:Ok P P.funcs S) (hB:CO P S ex) (gt:jA P S (cK P S) (λ_ _=>False) ce) {f:Nat} (e:CJ P (eZ P) ce n f args H=some (v,H1,R,W)) (hS:S f=true) (hx:ex f=false)
 {w:World} (ha:AR S p args bz) (hr:Rl P S (cK P S) p H.get Fp w) (hG:zP P S p) (hg:P.globals.size<=H.n) (hn:∀r,H.n<=r->r<H1.n->∀r',¬p r r') (hF:∀r,(R.testBit r=true\/W.testBit r=true)->Fp r) (fr:Frame):
 ∃v' w1 q,Steps P (lone (Frame.enter P f bz .normal) (fr::cs) w) (lone (fr.finish v') cs w1)/\VR S q v v'/\Mv (λr=>W.testBit r=true) p H.n w q H1.n w1/\Rl P S (cK P S) q H1.get Fp w1:=by
 unfold CJ at e;split at e<;>try(cases e;done)
 rename_i fn uE;split at e<;>try(cases e;done)
 rename_i body jV;split at e<;>try(cases e;done)
 rename_i j T1 gY Ha Ra Wa e1;cases hj:zW j<;>rw[hj]at e<;>simp only[zAT,zAQ]at e
 .cases e
 split at e<;>try(cases e;done)
 rename_i u Hb Rb Wb e2;split at e<;>try(cases e;done)
 rename_i x Hc Rc Wc e3;simp only[zAA,zAF]at e;obtain⟨rfl,rfl,rfl,rfl⟩:=e;have f1:=fF gt _ _ _ _ _ _ _ _ _ _ _ _ _ _ e1;have n1:=f1.1.nn;have n2:=(iO _ _ _ _ _ e2).nn;have n3:=(bm P _ e3).nn;let b0:Frame:=Frame.enter P f bz .normal
 have V5:lone (Frame.enter P f bz .normal) (fr::cs) w=lone (bh b0 (bz++Array.replicate (fn.ntmps-bz.size) undef) [] [.code body]) (fr::cs) w:=by
  simp[b0,bh,Frame.enter,uE,jV]
 rw[V5];obtain⟨s1,s2⟩:=lK ha fn.ntmps;obtain⟨bF,mU,w1,q1,todo,a1,a2,a3,a4⟩:=lI (b:=b0) (cs:=fr::cs) hk gt none hS n none body _ [] H j T1 gY Ha Ra Wa e1 (hB f fn body hS hx uE jV) (λ_ h=>by cases h) p _ [] w [] .none ⟨s1,hr,s2,.nil,hG,hg⟩ (λr x y=>hn r x (by omega)) (fG hF);have yS:=bg hn a2;obtain⟨w2,q2,b1,b2,b3⟩:=sM (b:=b0) (cs:=fr::cs) (todo:=todo) (tm:=bF) gY e2 a3.dl a3.rl (by omega) (λr x y=>yS r x (by omega)) (fG (bV hF));have zu:=bg yS b2;obtain⟨v',w3,q3,c1,c2,c3,c4⟩:=gN (SR.results (fn:=fn) (lh:=fn) rfl (gZ a3.sz λx=>(a3.tr x).mono b2.le)) e3 b3 (by omega) zu (bV (bV hF));exact⟨v',w3,q3,a1.trans (.head (lJ hj a4 rfl) (b1.trans (.one (pG (b:=b0) uE rfl c1 fr)))),c2,a2.or (b2.or c3),c4⟩
theorem Gf (hk:Ok P P.funcs S) (gt:jA P S (cK P S) (λ_ _=>False) ce) {f:Nat} {sb:Array Value} (e:oF P (eZ P) ce n l f tmps assign body H=some (v,H1,R,W)) (hS:S f=true) (hca:cE P S assign=true) (hcb:cE P S body=true)
 {w:World} (hl:p l l') (ha:AR S p tmps sb) (hr:Rl P S (cK P S) p H.get Fp w) (hG:zP P S p) (hg:P.globals.size<=H.n) (hn:∀r,H.n<=r->r<H1.n->∀r',¬p r r') (hF:∀r,(R.testBit r=true\/W.testBit r=true)->Fp r) (fr:Frame):
 ∃v' w1 q,Steps P (lone (Frame.round l' f sb assign body .normal) (fr::cs) w) (lone (fr.finish v') cs w1)/\VR S q v v'/\Mv (λr=>W.testBit r=true) p H.n w q H1.n w1/\Rl P S (cK P S) q H1.get Fp w1:=by
 unfold oF at e;split at e<;>try(cases e;done)
 rename_i T1 gY Ha Ra Wa e1;split at e<;>try(cases e;done)
 rename_i u Hb Rb Wb e2;split at e<;>try(cases e;done)
 rename_i j T3 V3 Hc Rc Wc e3;split at e<;>try(cases e;done)
 rename_i x Hd Rd Wd e4;simp only[zAA,zAF]at e;obtain⟨rfl,rfl,rfl,rfl⟩:=e;have n1:=(fF gt _ _ _ _ _ _ _ _ _ _ _ _ _ _ e1).1.nn;have n2:=(bm P _ e2).nn;have n3:=(fF gt _ _ _ _ _ _ _ _ _ _ _ _ _ _ e3).1.nn;have n4:=(bm P _ e4).nn;let b0:Frame:=Frame.round l' f sb assign body .normal
 have s2:∀x,VR S p (bG tmps.toList x) (sb.getD x undef):=λx=>by rw[qy];exact ha.getD x VR.undef
 obtain⟨hQ,zbv,w1,q1,V6,a1,a2,a3,a4⟩:=lI (b:=b0) (cs:=fr::cs) hk gt (some l) hS n none assign _ [] H none T1 gY Ha Ra Wa e1 hca (λ_ h=>by cases h) p sb [] w [.beginRound,.code body] (.some hl) ⟨by simp[ha.1],hr,s2,.nil,hG,hg⟩ (λr x y=>hn r x (by omega)) (fG hF);have a4:V6=_:=a4;subst a4;have yS:=bg hn a2;obtain⟨u',w2,q2,b1,b2,b3,b4⟩:=gN (SR.beginRound (a2.le _ _ hl)) e2 a3.rl (by omega) (λr x y=>yS r x (by omega)) (fG (bV hF));have zu:=bg yS b3;obtain⟨pH,zib,w3,q3,zfj,c1,c2,c3,c4⟩:=lI (b:=b0) (cs:=fr::cs) hk gt (some l) hS n none body _ gY Hb j T3 V3 Hc Rc Wc e3 hcb (λ_ h=>by cases h) q2 hQ zbv w2 [] (.some (b3.le _ _ (a2.le _ _ hl))) ⟨a3.sz,b4,λx=>(a3.tr x).mono b3.le,a3.dl.mono b3.le,a3.gl.mono b3.le,by omega⟩ (λr x y=>zu r x (by omega)) (fG (bV (bV hF)));have Uv:=bg zu c2
 have hj:∀c,j=some c->cE P S c=true:=λc hc=>by
  subst hc;cases c<;>first|rfl|exact c4.elim
 obtain⟨v',w4,q4,d1,d2,d3,d4⟩:=gN (SR.endRound (K:=cK P S) (c2.le _ _ (b3.le _ _ (a2.le _ _ hl))) j hj) e4 c3.rl (by omega) Uv (bV (bV (bV hF)));exact⟨v',w4,q4,a1.trans (.head (uB (b:=b0) rfl b1) (c1.trans (.one (uD (b:=b0) c4 rfl rfl d1 fr)))),d2,a2.or (b3.or (c2.or d3)),d4⟩
theorem CP (hk:Ok P P.funcs S) (hB:CO P S ex):∀n,jA P S (cK P S) (λ_ _=>False) (VY P ex n):=by
 intro n;induction n with
 |zero=>exact⟨λnx H v H1 R W e=>by simp[VY,rk]at e,λnx H v H1 R W e=>by simp[VY,rk]at e⟩
 |succ n ih=>
  refine⟨λnx H v H1 R W e=>?_,λnx H v H1 R W e p Fp w uc fr cs Ib hr hG hg hn hF=>?_⟩
  .cases nx<;>simp only[VY,rk]at e<;>try(cases e;done)
   .rename_i f args;cases hx:ex f<;>rw[hx]at e<;>simp only[zAT,zAQ]at e
    .exact ED ih e
    .cases e
   .exact sK ih e
  .cases Ib<;>simp only[VY,rk]at e<;>try(cases e;done)
   .rename_i f xs cX hS ha;cases hx:ex f<;>rw[hx]at e<;>simp only[zAT,zAQ]at e;rotate_left
    .cases e
    obtain⟨v',w1,q,a1,a2,a3,a4⟩:=RJ (cs:=cs) hk hB ih e hS hx ha hr hG hg hn hF fr;refine .inl ⟨_,v',w1,rfl,a1,q,a2,a3,a4.mono λr x=>?_⟩;rcases x with x|⟨x,y⟩
    .exact x
    .exact hF r (.inr ((ED ih e).nw r x y))
   .rename_i l l' f xs cX a c hl hf ha hca hcb _;obtain⟨v',w1,q,a1,a2,a3,a4⟩:=Gf (cs:=cs) hk ih e hf hca hcb hl ha hr hG hg hn hF fr;refine .inl ⟨_,v',w1,rfl,a1,q,a2,a3,a4.mono λr x=>?_⟩;rcases x with x|⟨x,y⟩
    .exact x
    .exact hF r (.inr ((sK ih e).nw r x y))
end
end Go.aC
