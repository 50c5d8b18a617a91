/- A part. Conditions: none. -/
import Derived.Test.YtehbindidbgacaaGreatDoorT10
import Derived.Orders
set_option linter.all false
namespace Go.Ev
open Go.aB (aa bi bn eS bu fC bR bN bQ aC aD bB d8 cz cy bH aA aU aT bY bG bl)
variable {D:Nat->Bool} {Fp:Nat->Prop} {Hs:Nat->Hp} {T T1:List Value} {Ts:Nat->List Value} {b:Frame} {ds:List Deferred} {i j:Nat} {ops:Array Oper} {p:Pi} {r':Operand->Value} {tm:Array Value} {τ:Nat->Value}
def bt:List Value->Nat->Value
 | [],_=>undef
 |x::_,0=>x
 |_::l,n+1=>bt l n
def jv:List Value->Nat->Value->List Value
 | [],_,_=>[]
 |_::l,0,v=>v::l
 |x::l,n+1,v=>x::jv l n v
theorem gK:∀(l:List Value) (n:Nat) (v:Value),(jv l n v).length=l.length
 | [],_,_=>rfl
 |_::_,0,_=>rfl
 |_::l,n+1,v=>by simp[jv,gK l n v]
theorem qq:∀(l:List Value) (n:Nat) (v:Value) (m:Nat),bt (jv l n v) m=if m=n/\n<l.length then v else bt l m
 | [],n,v,m=>by simp[jv,bt]
 |x::l,0,v,0=>by simp[jv,bt]
 |x::l,0,v,m+1=>by simp[jv,bt]
 |x::l,n+1,v,0=>by simp[jv,bt]
 |x::l,n+1,v,m+1=>by simp[jv,bt,qq l n v m]
def ui (τ:Nat->Value):Operand->Value
 |.tmp t=>τ t
 |.const v=>v
 |.global g=>.pointer (some ⟨g,0,none⟩)
 |.func f=>.func (.func f) #[] #[]
def nu (T:List Value) (dst:Option Tmp) (v:Value):List Value:=match dst with
 |some d=>jv T d v
 |none=>T
def cI (P:Program) (ce:Next->Hp->Rs Value) (r:Operand->Value) (o:Oper) (H:Hp):Rs Value:=
 match ju P r o H with
 |some (.value v,H1,R,W)=>some (v,H1,R,W)
 |some (.skip,H1,R,W)=>some (undef,H1,R,W)
 |some (nx,H1,R,W)=>match ce nx H1 with
  |some (v,H2,R2,W2)=>some (v,H2,R|||R2,W|||W2)
  |none=>none
 |none=>none
def uj (P:Program) (S:Nat->Bool) (p:Pi):Prop:=∀g,g<P.globals.size->S (P.funcs.size+g)=true->p g g
theorem uj.mono {P:Program} {S:Nat->Bool} {q:Pi} (h:uj P S p) (hq:Le p q):uj P S q:=fun g a b=>hq _ _ (h g a b)
def fp (P:Program) (lj:List PanicEntry->World->Prop) (b:Frame) (ds:List Deferred) (cs:List Frame) (m:Machine):Prop:=
 ∃tm todo chain w1,Steps P m (lone ((a8 b tm ds todo).raise chain) cs w1)/\lj chain w1
theorem fp.of_steps {P:Program} {lj:List PanicEntry->World->Prop} {cs:List Frame} {m m':Machine} (h:Steps P m m') (t:fp P lj b ds cs m'):fp P lj b ds cs m:=
 let⟨tm,todo,chain,w1,a,e⟩:=t;⟨tm,todo,chain,w1,h.trans a,e⟩
structure gX (P:Program) (S:Nat->Bool) (K:Kz) (lj:List PanicEntry->World->Prop) (ce:Next->Hp->Rs Value):Prop where
 ft:∀nx H v H1 R W,ce nx H=some (v,H1,R,W)->Ft H R W H1
 run:∀nx H v H1 R W,ce nx H=some (v,H1,R,W)->∀(p:Pi) (Fp:Nat->Prop) (w:World) (px:Next) (fr:Frame) (cs:List Frame),NX S K p nx px->Rl P S K p H.get Fp w->uj P S p->P.globals.size<=H.n->
  (∀r,H.n<=r->r<H1.n->∀r',¬p r r')->(∀r,(R.testBit r=true\/W.testBit r=true)->Fp r)->
  (Mf P px fr cs w fun v' w1=>∃q,VR S q v v'/\Mv (fun r=>W.testBit r=true) p H.n w q H1.n w1/\Rl P S K q H1.get (fun r=>Fp r\/(H.n<=r/\r<H1.n)) w1)\/
  ∃g chain w1,me P px=some g/\Steps P (lone g (fr::cs) w) (lone (fr.raise chain) cs w1)/\lj chain w1
section
variable {P:Program} {S:Nat->Bool} {K:Kz} {lj:List PanicEntry->World->Prop} {ce:Next->Hp->Rs Value} {r:Operand->Value} {o:Oper} {H:Hp} {v:Value} {H1:Hp} {R W:Nat}
theorem VR.undef:VR S p undef undef:=.tuple rfl fun i v v' h=>by simp at h
theorem qr (e:cI P ce r o H=some (v,H1,R,W)):
 ju P r o H=some (.value v,H1,R,W)\/(ju P r o H=some (.skip,H1,R,W)/\v=undef)\/
 ∃nx Ha Ra Wa Rb Wb,ju P r o H=some (nx,Ha,Ra,Wa)/\ce nx Ha=some (v,H1,Rb,Wb)/\R=Ra|||Rb/\W=Wa|||Wb:=by
 unfold cI at e;split at e
 .rename_i h;simp only[Option.some.injEq,Prod.mk.injEq]at e;obtain⟨rfl,rfl,rfl,rfl⟩:=e;exact .inl h
 .rename_i h;simp only[Option.some.injEq,Prod.mk.injEq]at e;obtain⟨rfl,rfl,rfl,rfl⟩:=e;exact .inr (.inl ⟨h,rfl⟩)
 .rename_i h;split at e<;>try(cases e;done)
  rename_i h2;simp only[Option.some.injEq,Prod.mk.injEq]at e;obtain⟨rfl,rfl,rfl,rfl⟩:=e;exact .inr (.inr ⟨_,_,_,_,_,_,h,h2,rfl,rfl⟩)
 .cases e
theorem BD (eB:gX P S K lj ce) (e:cI P ce r o H=some (v,H1,R,W)):Ft H R W H1:=by
 rcases qr e with h|⟨h,_⟩|⟨nx,Ha,Ra,Wa,Rb,Wb,h,h2,rfl,rfl⟩
 .exact nC h
 .exact nC h
 .exact(nC h).trans (eB.ft _ _ _ _ _ _ h2)
theorem wK {r:Operand->Value} (ho:gJ P S o.op=true) (h:∀x∈o.op.operands,r x=r' x):ju P r o H=ju P r' o H:=by
 have hs:∀cs b,o.op≠ .select cs b:=fun cs b e=>by
  rw[e]at ho;simp[gJ,jl]at ho
 have e1:execOp r o=execOp r' o:=execOp_congr o hs h
 have e2:i6 r o.op=i6 r' o.op:=by
  unfold i6;split
  .rename_i b as ts bq;split
   .rename_i x hx;rw[h x (by rw[bq];simp only[Op.operands,Call.operands];exact Array.mem_append_right _ (Array.mem_of_getElem? hx))]
   .rfl
  .rename_i t x lo hi mx bq;rw[h x (by rw[bq];simp[Op.operands])]
  .rfl
 unfold ju;rw[e1,e2];cases i6 r' o.op<;>simp only[cond_true,cond_false];split
 .rename_i t x lo hi mx bq;rw[h x (by rw[bq];simp[Op.operands])]
 .rename_i as ts bq;have:as.map r=as.map r':=Array.map_congr_left fun x hx=>h x (by rw[bq];simp[Op.operands,Call.operands,hx]);rw[this]
 .rename_i s d x bq;rw[h x (by rw[bq];simp[Op.operands])]
 .rfl
theorem uk {r:Operand->Value} (ho:gJ P S o.op=true) (h:∀x∈o.op.operands,r x=r' x):cI P ce r o H=cI P ce r' o H:=by
 unfold cI;rw[wK ho h]
theorem I5 (hG:uj P S p) {k:List Item} (hT:∀t,VR S p (τ t) (tm.getD t undef)):ie P S p (ui τ) (a8 b tm ds k).eval:=
 ⟨fun t=>hT t,fun v=>⟨rfl,rfl⟩,fun g a c=>.ptr 0 none (hG g a c),fun f=>⟨rfl,rfl⟩⟩
theorem ul (ho:gJ P S o.op=true):li o.op=true:=by
 cases h:o.op<;>first|rfl|(rw[h]at ho;simp[gJ,jl]at ho)
theorem EI (hk:Ok P P.funcs S) (hZ:KW P K) (eB:gX P S K lj ce) {w:World} (ho:ops[i]?=some o) (pp:gJ P S o.op=true) (hw:Region.wanted o (yielded ops tm)=true)
 (hT:∀t,VR S p (τ t) (tm.getD t undef)) (e:cI P ce (ui τ) o H=some (v,H1,R,W)) (hr:Rl P S K p H.get Fp w) (hG:uj P S p) (hg:P.globals.size<=H.n)
 (hn:∀r,H.n<=r->r<H1.n->∀r',¬p r r') (hF:∀r,(R.testBit r=true\/W.testBit r=true)->Fp r) (b:Frame) (ds:List Deferred) (rest:List Nat) (k:List Item) (cs:List Frame):
 (∃v' w1 q,Steps P (lone (a8 b tm ds (.inRegion ops (i::rest)::k)) cs w) (lone (a8 b (fS tm o.dst v') ds (.inRegion ops rest::k)) cs w1)/\VR S q v v'/\Mv (fun r=>W.testBit r=true) p H.n w q H1.n w1/\Rl P S K q H1.get (fun r=>Fp r\/(H.n<=r/\r<H1.n)) w1)\/
 fp P lj b ds cs (lone (a8 b tm ds (.inRegion ops (i::rest)::k)) cs w):=by
 have Qe:aa P P.funcs=P:=rfl;have hex:=sg (P:=P) (b:=b) (ds:=ds) (k:=k) (cs:=cs) (w:=w) (rest:=rest) ho hw (ul pp);have hE:=I5 (b:=b) (ds:=ds) (k:=.inRegion ops (i::rest)::k) hG hT;rcases qr e with h|⟨h,rfl⟩|⟨nx,Ha,Ra,Wa,Rb,Wb,h,h2,rfl,rfl⟩
 .obtain⟨px,w1,q,c1,c2,c3,c4⟩:=kA hk hZ hE o pp h hr hg hn fun r x=>.inr (hF r x);cases c2 with
  | @value _ v' hv=>
    refine .inl ⟨v',w1,q,.one ?_,hv,c3,c4⟩;rw[<-ir v' ho];refine bg rfl ?_;rw[hex];exact(fT rfl c1).1 v' rfl
 .obtain⟨px,w1,q,c1,c2,c3,c4⟩:=kA hk hZ hE o pp h hr hg hn fun r x=>.inr (hF r x);cases c2 with
  |skip=>
   refine .inl ⟨undef,w1,q,.one ?_,VR.undef,c3,c4⟩;rw[<-ir undef ho];refine bg rfl ?_;rw[hex];exact(fT rfl c1).2.1 rfl
 .have fa:=nC h;have fb:=eB.ft _ _ _ _ _ _ h2;have n1:=fa.nn;have n2:=fb.nn;obtain⟨px,w1,q,c1,c2,c3,c4⟩:=kA hk hZ hE o pp h hr hg (fun r a1 a2=>hn r a1 (by omega)) (fun r mC=>.inr (hF r (mC.imp (fun x=>by rw[Nat.testBit_or,x];rfl) fun x=>by rw[Nat.testBit_or,x];rfl)))
  have Mg:=eB.run _ _ _ _ _ _ h2 q (fun r=>Fp r\/(H.n<=r/\r<Ha.n)) w1 px (a8 b tm ds (.inRegion ops (i::rest)::k)) cs c2 c4 (hG.mono c3.le) (by omega) (fun r a1 a2 r' hq=>by
   rcases c3.new r r' hq with x|⟨_,x,_⟩
   .exact hn r (by omega) a2 r' x
   .omega) (fun r mC=>.inl (hF r (mC.imp (fun x=>by rw[Nat.testBit_or,x,Bool.or_true]) fun x=>by rw[Nat.testBit_or,x,Bool.or_true])))
  rcases Mg with⟨g,v',w2,d1,d2,q2,d3,d4,d5⟩|⟨g,chain,w2,d1,d2,d3⟩
  rotate_left
  .refine .inr ⟨_,_,chain,w2,.head (bg rfl ?_) d2,d3⟩;rw[hex];exact(fT rfl c1).2.2 g d1
  refine .inl ⟨v',w2,q2,?_,d3,c3.trans d4 (fun r x=>by rw[Nat.testBit_or,x];rfl) (fun r x=>by rw[Nat.testBit_or,x,Bool.or_true]),d5.mono fun r x=>?_⟩
  .rw[<-ir v' ho];refine .head (bg rfl ?_) d2;rw[hex];exact(fT rfl c1).2.2 g d1
  .rcases x with x|⟨a,b⟩
   .exact .inl (.inl x)
   .by_cases ao:r<Ha.n
    .exact .inl (.inr ⟨a,ao⟩)
    .exact .inr ⟨by omega,b⟩
end
section
variable {κ β:Type} (A:Nat->κ->β) (wr:Nat->κ->Bool)
def last (D:Nat->Bool):Nat->κ->β
 |0,k=>A 0 k
 |i+1,k=>if D i&&wr i k then A (i+1) k else last D i k
variable {A wr}
theorem nE {n:Nat} {k:κ} (hA:∀i,i<n->wr i k=false->A (i+1) k=A i k) (hi:i<=n) (h1:∀j,j<i->wr j k=true->D j=true) (h2:∀j,i<=j->j<n->wr j k=true->D j=false):
 last A wr D n k=A i k:=by
 have lo:∀m,m<=i->last A wr D m k=A m k:=by
  intro m;induction m with
  |zero=>intro _;rfl
  |succ m ih=>
   intro hm;simp only[last];cases hw:wr m k with
   |false=>simp only[Bool.and_false,Bool.false_eq_true,if_false];rw[ih (by omega),hA m (by omega) hw]
   |true=>rw[h1 m (by omega) hw];rfl
 have lT:∀m,i<=m->m<=n->last A wr D m k=A i k:=by
  intro m;induction m with
  |zero=>intro a _;have:i=0:=by omega
         rw[this];rfl
  |succ m ih=>
   intro a b;by_cases e:i=m+1
   .rw[<-e];exact lo i (Nat.le_refl i)
   .simp only[last];cases hw:wr m k with
    |false=>simp only[Bool.and_false,Bool.false_eq_true,if_false];exact ih (by omega) (by omega)
    |true=>rw[h2 m (by omega) (by omega) hw];simp only[Bool.false_and,Bool.false_eq_true,if_false];exact ih (by omega) (by omega)
 exact lT n hi (Nat.le_refl n)
def add (D:Nat->Bool) (i:Nat):Nat->Bool:=fun j=>j==i||D j
theorem si {k:κ} (h:wr i k=false):∀n,last A wr (add D i) n k=last A wr D n k:=by
 intro n;induction n with
 |zero=>rfl
 |succ n ih=>
  simp only[last,ih];by_cases e:n=i
  .subst e;rw[h];simp
  .have:add D i n=D n:=by simp[add,e]
   rw[this]
theorem yi {k:κ} (h:wr i k=true):∀n,i<n->(∀j,i<j->j<n->wr j k=true->D j=false)->last A wr (add D i) n k=A (i+1) k:=by
 intro n;induction n with
 |zero=>intro a _;omega
 |succ n ih=>
  intro a b;simp only[last];by_cases e:n=i
  .subst e;rw[h];simp[add]
  .have e2:add D i n=D n:=by simp[add,e]
   rw[e2];cases hw:wr n k with
   |false=>simp only[Bool.and_false,Bool.false_eq_true,if_false];exact ih (by omega) fun j x y=>b j x (by omega)
   |true=>rw[b n (by omega) (by omega) hw];simp only[Bool.false_and,Bool.false_eq_true,if_false];exact ih (by omega) fun j x y=>b j x (by omega)
end
def fU (ops:Array Oper) (τ:Nat->Value) (j:Nat):Option Bool:=
 match(ops[j]?).bind (·.dst)with
 |some d=>match τ d with
  |.bool b=>some b
  |_=>none
 |none=>none
def lp (P:Program) (ce:Next->Hp->Rs Value) (ops:Array Oper) (i:Nat) (T:List Value) (H:Hp):Rs (List Value):=
 match ops[i]? with
 |none=>none
 |some o=>bif Region.wanted o (fU ops (bt T))then match cI P ce (ui (bt T)) o H with
   |some (v,H1,R,W)=>some (nu T o.dst v,H1,R,W)
   |none=>none
  else some (nu T o.dst undef,H,0,0)
theorem mN (T:List Value) (d:Option Tmp) (v:Value):(nu T d v).length=T.length:=by
 cases d<;>simp[nu,gK]
theorem qs (T:Array Value) (d:Option Tmp) (v:Value):(fS T d v).size=T.size:=by
 cases d<;>simp[fS]
theorem mg (T:List Value) (d:Option Tmp) (v:Value) (t:Nat):bt (nu T d v) t=if d=some t/\t<T.length then v else bt T t:=by
 cases d with
 |none=>simp[nu]
 |some d=>
  simp only[nu,qq,Option.some.injEq];by_cases e:d=t
  .subst e;simp
  .have:¬t=d:=fun h=>e h.symm;simp[e,this]
theorem qu (T:Array Value) (d:Option Tmp) (v:Value) (t:Nat):(fS T d v).getD t undef=if d=some t/\t<T.size then v else T.getD t undef:=by
 cases d with
 |none=>simp[fS]
 |some d=>
  simp only[fS,Option.some.injEq,Array.getD_eq_getD_getElem?,Array.getElem?_setIfInBounds];by_cases e:d=t
  .subst e;by_cases h:d<T.size<;>simp[h]
  .simp[e]
section
variable {P:Program} {S:Nat->Bool} {K:Kz} {lj:List PanicEntry->World->Prop} {ce:Next->Hp->Rs Value}
theorem zD {o:Oper} (h:∀g b d,o.guard=some (g,b)->(ops[g]?).bind (·.dst)=some d->VR S p (τ d) (tm.getD d undef)):
 Region.wanted o (yielded ops tm)=Region.wanted o (fU ops τ):=by
 unfold Region.wanted;cases hg:o.guard with
 |none=>rfl
 |some gb=>
  obtain⟨g,b⟩:=gb;simp only
  have:yielded ops tm g=fU ops τ g:=by
   unfold yielded fU;cases hd:(ops[g]?).bind (·.dst)with
   |none=>rfl
   |some d=>
    have hv:=h g b d hg hd;simp only[Option.bind_some];rw[Array.getD_eq_getD_getElem?]at hv;cases hx:tm[d]? with
    |none=>
     rw[hx]at hv;simp only[Option.getD_none]at hv;generalize τ d=x at hv;cases hv;rfl
    |some y=>
     rw[hx]at hv;simp only[Option.getD_some]at hv;generalize τ d=x at hv;cases hv<;>rfl
  rw[this]
theorem it {H:Hp} {H1:Hp} {R W:Nat} (e:lp P ce ops i T H=some (T1,H1,R,W)):
 ∃o,ops[i]?=some o/\((Region.wanted o (fU ops (bt T))=true/\∃v,cI P ce (ui (bt T)) o H=some (v,H1,R,W)/\T1=nu T o.dst v)\/
  (Region.wanted o (fU ops (bt T))=false/\T1=nu T o.dst undef/\H1=H/\R=0/\W=0)):=by
 unfold lp at e;split at e
 .cases e
 .rename_i o ho;refine⟨o,ho,?_⟩;cases hw:Region.wanted o (fU ops (bt T))<;>rw[hw]at e<;>simp only[cond_true,cond_false]at e
  .simp only[Option.some.injEq,Prod.mk.injEq]at e;obtain⟨rfl,rfl,rfl,rfl⟩:=e;exact .inr ⟨rfl,rfl,rfl,rfl,rfl⟩
  .split at e<;>try(cases e;done)
   rename_i v H2 R2 W2 ha;simp only[Option.some.injEq,Prod.mk.injEq]at e;obtain⟨rfl,rfl,rfl,rfl⟩:=e;exact .inl ⟨rfl,v,ha,rfl⟩
theorem lq (eB:gX P S K lj ce) {H:Hp} {H1:Hp} {R W:Nat} (e:lp P ce ops i T H=some (T1,H1,R,W)):Ft H R W H1:=by
 obtain⟨o,_,h⟩:=it e;rcases h with⟨_,v,h,_⟩|⟨_,_,rfl,rfl,rfl⟩
 .exact BD eB h
 .exact Ft.refl _
structure KX (P:Program) (ce:Next->Hp->Rs Value) (ops:Array Oper) (Ts:Nat->List Value) (Hs:Nat->Hp) (R W:Nat->Nat):Prop where
 one:∀i,i<ops.size->lp P ce ops i (Ts i) (Hs i)=some (Ts (i+1),Hs (i+1),R i,W i)
def Good (Fo:Nat->Nat->Prop) (n:Nat):(Nat->Bool)->List Nat->Prop
 |D,[]=>∀i,i<n->D i=true
 |D,i::l=>i<n/\D i=false/\(∀a,Fo a i->D a=true)/\Good Fo n (add D i) l
def vE (W:Nat->Nat) (i r:Nat):Bool:=(W i).testBit r
def vF (ops:Array Oper) (i t:Nat):Bool:=(ops[i]?).bind (·.dst)==some t
def Mh (R W:Nat->Nat) (i j:Nat):Prop:=∀r,((W i).testBit r=true->(R j).testBit r=false/\(W j).testBit r=false)/\((W j).testBit r=true->(R i).testBit r=false)
theorem KX.BE {R W:Nat->Nat} (t:KX P ce ops Ts Hs R W) (eB:gX P S K lj ce) (hj:j<=ops.size) (h:i<=j):(Hs i).n<=(Hs j).n:=by
 induction j with
 |zero=>have:i=0:=by omega
        subst this;exact Nat.le_refl _
 |succ j ih=>
  by_cases e:i=j+1
  .subst e;exact Nat.le_refl _
  .exact Nat.le_trans (ih (by omega) (by omega)) (lq eB (t.one j (by omega))).nn
theorem KX.length {R W:Nat->Nat} (t:KX P ce ops Ts Hs R W) (hj:j<=ops.size):(Ts j).length=(Ts 0).length:=by
 induction j with
 |zero=>rfl
 |succ j ih=>
  rw[<-ih (by omega)];obtain⟨o,_,h⟩:=it (t.one j (by omega));rcases h with⟨_,v,_,h⟩|⟨_,h,_⟩<;>rw[h,mN]
theorem EJ (hk:Ok P P.funcs S) (hZ:KW P K) (eB:gX P S K lj ce) (lW:∀(i:Nat) (o:Oper),ops[i]?=some o->gJ P S o.op=true)
 {R W:Nat->Nat} (t:KX P ce ops Ts Hs R W) {Fo:Nat->Nat->Prop}
 (hm:∀i j,i<j->j<ops.size->Fo i j\/Mh R W i j) (ht:∀(i j:Nat) (oi oj:Oper),i<j->ops[i]?=some oi->ops[j]?=some oj->Fo i j\/oi.apart ops oj=true)
 (hg:P.globals.size<=(Hs 0).n) (OH:∀i,i<ops.size->∀r,((R i).testBit r=true\/(W i).testBit r=true)->Fp r) (b:Frame) (ds:List Deferred) (k:List Item) (cs:List Frame):
 ∀(l:List Nat) (D:Nat->Bool) (p:Pi) (tm:Array Value) (w:World),Good Fo ops.size D l->(∀a c,Fo a c->D c=true->D a=true)->tm.size=(Ts 0).length->
  Rl P S K p (last (fun i=>(Hs i).get) (vE W) D ops.size) Fp w->(∀x,VR S p (last (fun i=>bt (Ts i)) (vF ops) D ops.size x) (tm.getD x undef))->uj P S p->
  (∀j,j<ops.size->D j=false->∀r,(Hs j).n<=r->r<(Hs (j+1)).n->∀r',¬p r r')->
  (∃br w' q,Steps P (lone (a8 b tm ds (.inRegion ops l::k)) cs w) (lone (a8 b br ds (.inRegion ops []::k)) cs w')/\br.size=(Ts 0).length/\
    Mv (fun r=>∃i,i<ops.size/\(W i).testBit r=true) p (Hs 0).n w q (Hs ops.size).n w'/\Rl P S K q (Hs ops.size).get Fp w'/\∀x,VR S q (bt (Ts ops.size) x) (br.getD x undef))\/
  fp P lj b ds cs (lone (a8 b tm ds (.inRegion ops l::k)) cs w):=by
 have mono:=fun i j=>t.BE (i:=i) (j:=j) eB;have GW:∀i,i<ops.size->∀r,vE W i r=false->(Hs (i+1)).get r=(Hs i).get r:=fun i hi r hr=>(lq eB (t.one i hi)).same r hr
 have GX:∀i,i<ops.size->∀x,vF ops i x=false->bt (Ts (i+1)) x=bt (Ts i) x:=fun i hi x hx=>by
  obtain⟨o,ho,h⟩:=it (t.one i hi);have hd:¬(o.dst=some x):=fun e=>by simp[vF,ho,e]at hx
  rcases h with⟨_,v,_,h⟩|⟨_,h,_⟩<;>rw[h,mg,if_neg (fun a=>hd a.1)]
 intro l;induction l with
 |nil=>
  intro D p tm w hl hD cb hr hT hG hn;have hl:∀i,i<ops.size->D i=true:=hl;refine .inl ⟨tm,w,p,.refl _ _,cb,(Mv.refl _ p _ w).wide (Nat.le_refl _) (mono 0 ops.size (Nat.le_refl _) (Nat.zero_le _)),hr.congr fun r _=>?_,fun x=>?_⟩
  .exact(nE (A:=fun i=>(Hs i).get) (wr:=vE W) (k:=r) (fun i hi h=>GW i hi r h) (Nat.le_refl _) (fun j hj _=>hl j hj) (fun j a b _=>by omega)).symm
  .rw[<-nE (A:=fun i=>bt (Ts i)) (wr:=vF ops) (k:=x) (fun i hi h=>GX i hi x h) (Nat.le_refl _) (fun j hj _=>hl j hj) (fun j a b _=>by omega)];exact hT x
 |cons i l ih=>
  intro D p tm w hl hD cb hr hT hG hn;obtain⟨hi,KY,og,hl⟩:=hl;have e1:=t.one i hi;have vD:=lq eB e1;obtain⟨o,ho,ik⟩:=it e1
  have later:∀j,i<j->Fo i j->D j=false:=fun j hj hf=>by
   cases hx:D j with
   |false=>rfl
   |true=>rw[hD i j hf hx]at KY;cases KY
  have GY:∀r,((R i).testBit r=true\/(W i).testBit r=true)->(Hs i).get r=last (fun i=>(Hs i).get) (vE W) D ops.size r:=fun r hr=>by
   refine(nE (A:=fun i=>(Hs i).get) (wr:=vE W) (k:=r) (fun i hi h=>GW i hi r h) (Nat.le_of_lt hi) (fun j hj hw=>?_) (fun j a c hw=>?_)).symm
   .rcases hm j i hj hi with h|h
    .exact og j h
    .have:=(h r).1 hw;rcases hr with x|x<;>simp_all
   .by_cases e:j=i
    .subst e;exact KY
    .have lQ:i<j:=by omega
     rcases hm i j lQ c with h|h
     .exact later j lQ h
     .have h2:=h r;have hw:(W j).testBit r=true:=hw;rcases hr with x|x
      .have:=h2.2 hw;rw[x]at this;cases this
      .have:=(h2.1 x).2;rw[hw]at this;cases this
  have BF:∀x,x∈o.looksAt ops->last (fun i=>bt (Ts i)) (vF ops) D ops.size x=bt (Ts i) x:=fun x hx=>by
   refine nE (A:=fun i=>bt (Ts i)) (wr:=vF ops) (k:=x) (fun i hi h=>GX i hi x h) (Nat.le_of_lt hi) (fun j hj hw=>?_) (fun j a c hw=>?_)
   .have Wo:j<ops.size:=by omega
    have BG:ops[j]?=some ops[j]:=Array.getElem?_eq_getElem Wo;have hd:ops[j].dst=some x:=by simpa [vF,BG]using hw
    rcases ht j i _ _ hj BG ho with h|h
    .exact og j h
    .exact absurd hx ((Oper.apart_spec h).1 x hd)
   .by_cases e:j=i
    .subst e;exact KY
    .have lQ:i<j:=by omega
     have BG:ops[j]?=some ops[j]:=Array.getElem?_eq_getElem c;have hd:ops[j].dst=some x:=by simpa [vF,BG]using hw
     rcases ht i j _ _ lQ ho BG with h|h
     .exact later j lQ h
     .exact absurd hx ((Oper.apart_spec h).2.2 x hd)
  have jo:Region.wanted o (yielded ops tm)=Region.wanted o (fU ops (bt (Ts i))):=by
   refine zD (S:=S) (p:=p) fun g c d PS hd=>?_;rw[<-BF d (by simp[Oper.looksAt,PS,hd])];exact hT d
  have yj:∀a c,Fo a c->add D i c=true->add D i a=true:=fun a c Ua hc=>by
   simp only[add,Bool.or_eq_true,beq_iff_eq]at hc⊢;rcases hc with rfl|hc
   .exact .inr (og a Ua)
   .exact .inr (hD a c Ua hc)
  have yl:∀{v v':Value} {q:Pi},Le p q->VR S q v v'->Ts (i+1)=nu (Ts i) o.dst v->∀x,VR S q (last (fun i=>bt (Ts i)) (vF ops) (add D i) ops.size x) ((fS tm o.dst v').getD x undef):=fun{v v' q} hq hv Mi x=>by
   rw[qu];cases hw:vF ops i x with
   |false=>
    have hd:¬(o.dst=some x):=fun e=>by simp[vF,ho,e]at hw
    rw[si hw,if_neg fun a=>hd a.1];exact(hT x).mono hq
   |true=>
    have hd:o.dst=some x:=by simpa [vF,ho]using hw
    rw[yi hw ops.size hi fun j lQ c Mj=>?_]
    .rw[Mi,mg,t.length (Nat.le_of_lt hi),<-cb];by_cases ao:x<tm.size
     .rw[if_pos ⟨hd,ao⟩,if_pos ⟨hd,ao⟩];exact hv
     .rw[if_neg fun a=>ao a.2,if_neg fun a=>ao a.2];have e2:tm.getD x undef=undef:=by rw[Array.getD_eq_getD_getElem?,Array.getElem?_eq_none (by omega)];rfl
      have e3:bt (Ts i) x=undef:=by
       have:∀(L:List Value) n,L.length<=n->bt L n=undef:=by
        intro L;induction L with
        |nil=>intro n _;rfl
        |cons y L ih=>intro n hn;cases n with
         |zero=>simp at hn
         |succ n=>exact ih n (by simpa using hn)
       exact this _ _ (by rw[t.length (Nat.le_of_lt hi),<-cb];omega)
      rw[e2,e3];exact VR.undef
    .have BG:ops[j]?=some ops[j]:=Array.getElem?_eq_getElem c;have OC:ops[j].dst=some x:=by simpa [vF,BG]using Mj
     rcases ht i j _ _ lQ ho BG with h|h
     .exact later j lQ h
     .exact absurd OC ((Oper.apart_spec h).2.1 x hd)
  have um:∀{q:Pi} {w1:World},Mv (fun r=>(W i).testBit r=true) p (Hs i).n w q (Hs (i+1)).n w1->∀j,j<ops.size->add D i j=false->∀r,(Hs j).n<=r->r<(Hs (j+1)).n->∀r',¬q r r':=fun{q w1} nk j hj Qf r h1 h2 r' hq=>by
   simp only[add,Bool.or_eq_false_iff,beq_eq_false_iff_ne,ne_eq]at Qf;rcases nk.new r r' hq with x|⟨a,c,_⟩
   .exact hn j hj Qf.2 r h1 h2 r' x
   .rcases Nat.lt_or_gt_of_ne Qf.1 with h|h
    .have:=mono (j+1) i (by omega) (by omega);omega
    .have:=mono (i+1) j (by omega) (by omega);omega
  have m0:=mono 0 i (Nat.le_of_lt hi) (Nat.zero_le _);have m1:=mono (i+1) ops.size (Nat.le_refl _) hi;have BH:∀{q:Pi} {w1:World},Mv (fun r=>(W i).testBit r=true) p (Hs i).n w q (Hs (i+1)).n w1->Mv (fun r=>∃i,i<ops.size/\(W i).testBit r=true) p (Hs 0).n w q (Hs ops.size).n w1:=fun h=>(h.wide m0 m1).mono fun r x=>⟨i,hi,x⟩
  rcases ik with⟨hw,v,aX,Mi⟩|⟨hw,Mi,L9,hR,hW⟩
  .have Qg:cI P ce (ui (last (fun i=>bt (Ts i)) (vF ops) D ops.size)) o (Hs i)=some (v,Hs (i+1),R i,W i):=by
    rw[<-aX];refine uk (lW i o ho) fun x hx=>?_;cases x with
    |tmp x=>exact BF x (List.mem_append_left _ (List.mem_filterMap.2 ⟨.tmp x,by simpa using hx,rfl⟩))
    |_=>rfl
   have Qh:=EI hk hZ eB (Fp:=fun r=>(R i).testBit r=true\/(W i).testBit r=true) ho (lW i o ho) (jo.trans hw) hT Qg ((hr.mono (OH i hi)).congr fun r x=>GY r x) hG (by omega) (hn i hi KY) (fun r x=>x) b ds l k cs;rcases Qh with⟨v',w1,q,c1,c2,c3,c4⟩|BI;rotate_left
   .exact .inr BI
   have gW:∀r,(W i).testBit r=true->((Hs i).n<=r/\r<(Hs (i+1)).n)\/(last (fun i=>(Hs i).get) (vE W) D ops.size r).isSome:=fun r hr=>(vD.wr r hr).imp id fun x=>by rw[<-GY r (.inr hr)];exact x
   have Ml:=hr.join c3 c4 (h2:=last (fun i=>(Hs i).get) (vE W) (add D i) ops.size) (fun r x=>.inl (.inr x)) (fun r x=>OH i hi r (.inr x)) vD.nw (hn i hi KY) gW (fun r x=>yi (wr:=vE W) x ops.size hi fun j lQ c Mj=>by
    rcases hm i j lQ c with h|h
    .exact later j lQ h
    .have h2:=((h r).1 x).2;have Mj:(W j).testBit r=true:=Mj;rw[Mj]at h2;cases h2) (fun r x=>si (wr:=vE W) (by simpa [vE]using x) ops.size)
   rcases ih (add D i) q (fS tm o.dst v') w1 hl yj (by rw[qs];exact cb) Ml (yl c3.le c2 Mi) (hG.mono c3.le) (um c3)with⟨br,w',q',d1,d2,d3,d4,d5⟩|BI;rotate_left
   .exact .inr (.of_steps c1 BI)
   exact .inl ⟨br,w',q',c1.trans d1,d2,(BH c3).BA d3 (fun _ x=>x) (fun _ x=>x),d4,d5⟩
  .have j8:∀r,last (fun i=>(Hs i).get) (vE W) (add D i) ops.size r=last (fun i=>(Hs i).get) (vE W) D ops.size r:=fun r=>si (wr:=vE W) (by simp[vE,hW]) ops.size;have nk:Mv (fun r=>(W i).testBit r=true) p (Hs i).n w p (Hs (i+1)).n w:=(Mv.refl _ p _ w).wide (Nat.le_refl _) vD.nn;rcases ih (add D i) p (fS tm o.dst undef) w hl yj (by rw[qs];exact cb) (hr.congr fun r _=>j8 r) (yl (Le.refl p) VR.undef Mi) hG (um nk)with⟨br,w',q',d1,d2,d3,d4,d5⟩|BI;rotate_left
   .exact .inr (.of_steps (.one (ka ho (jo.trans hw))) BI)
   exact .inl ⟨br,w',q',.head (ka ho (jo.trans hw)) d1,d2,(BH nk).BA d3 (fun _ x=>x) (fun _ x=>x),d4,d5⟩
end
end Go.Ev
namespace Go.Ev
open Go.aB (aa bi bn eS bu fC bR bN bQ aC aD bB d8 cz cy bH aA aU aT bY bG bl)
open Go.aB (GO AT)
variable {H H1:Hp} {R R1 W W1 j n:Nat} {T T1:List Value} {draw:Bool} {l:List Nat} {listed:Array Bool} {m:Region.Mode}
inductive dR (ops:Array Oper):Nat->Nat->Prop
 |I6 {i j:Nat} {o:Oper} {e:Edge} (h:ops[j]?=some o) (he:e∈o.after) (hb:Region.binds .any e=true) (hi:e.on=i):dR ops i j
 |step {i k j:Nat} {o:Oper} {e:Edge} (t:dR ops i k) (h:ops[j]?=some o) (he:e∈o.after) (hb:Region.binds .any e=true) (hi:e.on=k):dR ops i j
def zE (m i:Nat):Bool:=Nat.beq (Nat.land 1 (Nat.shiftRight m i)) 1
theorem uo {m i:Nat} (h:zE m i=true):m.testBit i=true:=by
 have h:=Nat.eq_of_beq_eq_true h;have h:1&&&(m>>>i)=1:=h;simp[Nat.testBit,h]
def oA:List Nat->Nat->Nat
 | [],_=>0
 |x::_,0=>x
 |_::l,n+1=>oA l n
theorem sj:∀(l:List Nat) (n:Nat),oA l n=(l[n]?).getD 0
 | [],n=>rfl
 |x::l,0=>rfl
 |x::l,n+1=>by simp[oA,sj l n]
def I7 (l:List Nat):List Edge->Nat->Nat
 | [],m=>m
 |e::es,m=>I7 l es (bif Region.binds .any e then Nat.lor m (Nat.lor (2^e.on) (oA l e.on))else m)
def nv (ops:Array Oper):Nat->List Nat
 |0=>[]
 |n+1=>nv ops n++[match ops[n]? with|none=>0|some o=>I7 (nv ops n) o.after.toList 0]
theorem gL (ops:Array Oper):∀n,(nv ops n).length=n
 |0=>rfl
 |n+1=>by simp[nv,gL ops n]
theorem zF {ops:Array Oper} {o:Oper} (ho:ops[j]?=some o) (hl:∀k i,(oA l k).testBit i=true->dR ops i k):∀(es:List Edge) (m:Nat),(∀e∈es,e∈o.after)->(∀i,m.testBit i=true->dR ops i j)->∀i,(I7 l es m).testBit i=true->dR ops i j:=by
 intro es;induction es with
 |nil=>intro m _ hm i h;exact hm i h
 |cons e es ih=>
  intro m he hm i h;refine ih _ (fun x hx=>he x (List.mem_cons_of_mem _ hx)) (fun i h=>?_) i h;cases hb:Region.binds .any e<;>rw[hb]at h<;>simp only[cond_true,cond_false]at h
  .exact hm i h
  .have h:(m|||(2^e.on|||oA l e.on)).testBit i=true:=h;rw[Nat.testBit_or,Nat.testBit_or,Bool.or_eq_true,Bool.or_eq_true]at h;rcases h with h|h|h
   .exact hm i h
   .rw[tb]at h;exact .I6 ho (he e (by simp)) hb h.symm
   .exact .step (hl _ _ h) ho (he e (by simp)) hb rfl
theorem qv (ops:Array Oper):∀n k i,(oA (nv ops n) k).testBit i=true->dR ops i k:=by
 intro n;induction n with
 |zero=>intro k i h;simp[nv,oA]at h
 |succ n ih=>
  intro k i h;rw[sj]at h;simp only[nv]at h;rcases Nat.lt_or_ge k n with hk|hk
  .rw[List.getElem?_append_left (by rw[gL];exact hk),<-sj]at h;exact ih k i h
  .rw[List.getElem?_append_right (by rw[gL];exact hk),gL]at h;by_cases e:k=n
   .subst e;simp only[Nat.sub_self,List.getElem?_cons_zero,Option.getD_some]at h;cases ho:ops[k]? with
    |none=>rw[ho]at h;simp at h
    |some o=>
     rw[ho]at h;exact zF ho ih o.after.toList 0 (fun e he=>by simpa using he) (fun i h=>by simp at h) i h
   .rw[List.getElem?_eq_none (by simp;omega)]at h;simp at h
def DU (listed:Array Bool):Nat->Nat
 |0=>0
 |m+1=>DU listed m+(bif listed.getD m true then 0 else 1)
theorem uq {listed:Array Bool}:∀{m:Nat},DU listed m=0->∀i,i<m->listed.getD i true=true
 |0,_,i,hi=>absurd hi (Nat.not_lt_zero _)
 |m+1,h,i,hi=>by
  simp only[DU]at h;by_cases e:i=m
  .subst e;cases hx:listed.getD i true with
   |true=>rfl
   |false=>rw[hx]at h;simp at h
  .exact uq (m:=m) (by omega) i (by omega)
theorem ym {listed:Array Bool} {i:Nat} (hi:listed.getD i true=false):∀{m:Nat},DU (listed.setIfInBounds i true) m+(if i<m then 1 else 0)=DU listed m
 |0=>by simp[DU]
 |m+1=>by
  have ih:=ym hi (m:=m);simp only[DU];by_cases e:i=m
  .subst e
   have ao:i<listed.size:=by
    rcases Nat.lt_or_ge i listed.size with h|h
    .exact h
    .simp[h]at hi
   have:(listed.setIfInBounds i true).getD i true=true:=by simp[ao]
   rw[this,hi];simp only[Nat.lt_irrefl,if_false,Nat.lt_succ_self,if_true,cond_true,cond_false]at ih⊢;omega
  .rw[Go.getD_set_ne true e];by_cases h:i<m
   .rw[if_pos h]at ih;rw[if_pos (by omega)];omega
   .rw[if_neg h]at ih;rw[if_neg (by omega)];omega
theorem yn {ops:Array Oper}:j∈AT m ops listed↔listed.getD j true=false/\∃o,ops[j]?=some o/\∀e∈o.after,Region.binds m e=true->listed.getD e.on false=true:=
 Go.mem_ready
theorem qw {e:Edge} (h:Region.binds .any e=true):Region.binds m e=true:=by
 unfold Region.binds at*;split at h<;>first|(cases h;done)|rfl
theorem fV {Fo:Nat->Nat->Prop}:∀{l:List Nat} {D E:Nat->Bool},(∀i,i<n->D i=E i)->(∀a b,Fo a b->b<n->a<n)->Good Fo n D l->Good Fo n E l
 | [],D,E,h,_,g=>fun i hi=>by rw[<-h i hi];exact g i hi
 |i::l,D,E,h,hFo,⟨g1,g2,g3,g4⟩=>⟨g1,by rw[<-h i g1];exact g2,fun a ha=>by rw[<-h a (hFo a i ha g1)];exact g3 a ha,fV (fun j hj=>by simp only[add,h j hj]) hFo g4⟩
section
variable {ops:Array Oper} (hE:∀ (i:Nat) (o:Oper) (e:Edge),ops[i]?=some o->e ∈ o.after->Region.binds .any e=true->e.on < i)
include hE
theorem qx {a b:Nat} (h:dR ops a b):a<b:=by
 induction h with
 |I6 h he hb hi=>have:=hE _ _ _ h he hb;omega
 |step t h he hb hi ih=>have:=hE _ _ _ h he hb;omega
theorem BJ {ur:Nat->Nat} (hR:∀(i:Nat) (o:Oper) (e:Edge),ops[i]?=some o->e∈o.after->Region.binds m e=true->e.on<ops.size/\ur e.on<ur i)
 (h:GO m ops n listed l):listed.size=ops.size->DU listed ops.size<=n->
 (∀a b,dR ops a b->listed.getD b false=true->listed.getD a false=true)->Good (dR ops) ops.size (fun j=>listed.getD j false) l:=by
 induction h with
 | @stop n listed h=>
   intro hs hu hc i hi
   have all:∀i,i<ops.size->listed.getD i true=true:=by
    rcases h with h|h
    .subst h;exact uq (by omega)
    .have:∀k i,ur i=k->i<ops.size->listed.getD i true=true:=by
      intro k;induction k using Nat.strongRecOn with
      |ind k ih=>
       intro i hk hi;cases hx:listed.getD i true with
       |true=>rfl
       |false=>
        have ho:ops[i]?=some ops[i]:=Array.getElem?_eq_getElem hi
        have:i∈AT m ops listed:=yn.2 ⟨hx,_,ho,fun e he hb=>by
         obtain⟨h1,h2⟩:=hR _ _ _ ho he hb;have:=ih (ur e.on) (by omega) e.on rfl h1;have h2:e.on<listed.size:=by omega
         simpa [h2]using this⟩
        rw[h]at this;cases this
     exact fun i hi=>this _ i rfl hi
   have:=all i hi;have h2:i<listed.size:=by omega
   simpa [h2]using this
 | @next n i listed l h t ih=>
   intro hs hu hc;obtain⟨h1,o,ho,h2⟩:=yn.1 h;have hi:i<ops.size:=(Array.getElem?_eq_some_iff.1 ho).1;have Ub:i<listed.size:=by omega
   have og:∀a,dR ops a i->listed.getD a false=true:=fun a ha=>by
    cases ha with
    |I6 h he hb hi=>rw[ho]at h;cases h;rw[<-hi];exact h2 _ he (qw hb)
    |step t h he hb hi=>rw[ho]at h;cases h;exact hc _ _ t (by rw[<-hi];exact h2 _ he (qw hb))
   have e1:∀j,j<ops.size->(listed.setIfInBounds i true).getD j false=add (fun j=>listed.getD j false) i j:=fun j hj=>by
    by_cases e:j=i
    .subst e;simp[add,Ub]
    .rw[Go.getD_set_ne false (Ne.symm e)];simp only[add,beq_false_of_ne e,Bool.false_or]
   refine⟨hi,by simpa [Ub]using h1,og,?_⟩;have ao:∀a b,dR ops a b->b<ops.size->a<ops.size:=fun a b iE hb=>Nat.lt_trans (qx hE iE) hb;refine fV (fun j hj=>e1 j hj) ao (ih (by simpa using hs) ?_ fun a b iE hb=>?_)
   .have:=ym h1 (m:=ops.size);rw[if_pos hi]at this;omega
   .by_cases e:i=b
    .subst e;exact Go.getD_set_true (og a iE)
    .rw[Go.getD_set_ne false e]at hb;exact Go.getD_set_true (hc a b iE hb)
end
theorem qy:∀(n m:Nat),DU (Array.replicate n false) m<=m
 |n,0=>Nat.le_refl _
 |n,m+1=>by
  have:=qy n m;simp only[DU];cases(Array.replicate n false).getD m true<;>simp<;>omega
def pos:List Nat->Nat->Nat
 | [],_=>0
 |x::l,i=>bif Nat.beq x i then 0 else pos l i+1
def jN (ops:Array Oper):Bool:=
 ((List.range ops.size).all fun i=>match ops[i]? with|some o=>o.after.all fun e=>Nat.blt e.on ops.size&&(!(Region.binds .any e||Region.binds .text e)||Nat.blt e.on i)|none=>true)&&
 (!Region.departs ops||(let l:=Region.linearise .gc ops 0;(List.range ops.size).all fun i=>match ops[i]? with|some o=>o.after.all fun e=>!Region.binds .gc e||Nat.blt (pos l e.on) (pos l i)|none=>true))
theorem oB {ops:Array Oper} (h:jN ops=true):
 (∀(i:Nat) (o:Oper) (e:Edge),ops[i]?=some o->e∈o.after->Region.binds .any e=true->e.on<i)/\
 ∀m,(m=.gc->Region.departs ops=true)->∃ur:Nat->Nat,∀(i:Nat) (o:Oper) (e:Edge),ops[i]?=some o->e∈o.after->Region.binds m e=true->e.on<ops.size/\ur e.on<ur i:=by
 simp only[jN,Bool.and_eq_true]at h
 have arr:∀{f:Edge->Bool} {a:Array Edge},a.all f=true->∀e∈a,f e=true:=fun{f a} h e he=>by
  obtain⟨j,hj,Wp⟩:=Array.mem_iff_getElem.1 he;have h3:=Array.all_eq_true.1 h j hj;rw[Wp]at h3;exact h3
 have h1:∀(i:Nat) (o:Oper) (e:Edge),ops[i]?=some o->e∈o.after->e.on<ops.size/\((Region.binds .any e=true\/Region.binds .text e=true)->e.on<i):=fun i o e ho he=>by
  have hi:i<ops.size:=(Array.getElem?_eq_some_iff.1 ho).1;have:=List.all_eq_true.1 h.1 i (List.mem_range.2 hi);rw[ho]at this;have:=arr this e he;simp only[Bool.and_eq_true]at this;refine⟨Nat.lt_of_lt_of_le (Nat.lt_succ_self _) (Nat.le_of_ble_eq_true this.1),fun hb=>?_⟩;have h2:=this.2;rw[show(Region.binds .any e||Region.binds .text e)=true by rcases hb with x|x<;>simp[x]]at h2;exact Nat.lt_of_lt_of_le (Nat.lt_succ_self _) (Nat.le_of_ble_eq_true h2)
 refine⟨fun i o e ho he hb=>(h1 i o e ho he).2 (.inl hb),fun m hm=>?_⟩;cases m with
 |text=>exact⟨id,fun i o e ho he hb=>⟨(h1 i o e ho he).1,(h1 i o e ho he).2 (.inr hb)⟩⟩
 |any=>exact⟨id,fun i o e ho he hb=>⟨(h1 i o e ho he).1,(h1 i o e ho he).2 (.inl hb)⟩⟩
 |gc=>
  have h2:=h.2;rw[hm rfl]at h2;simp only[Bool.not_true,Bool.false_or]at h2;refine⟨pos (Region.linearise .gc ops 0),fun i o e ho he hb=>⟨(h1 i o e ho he).1,?_⟩⟩;have hi:i<ops.size:=(Array.getElem?_eq_some_iff.1 ho).1;have:=List.all_eq_true.1 h2 i (List.mem_range.2 hi);rw[ho]at this;have:=arr this e he;rw[hb]at this;exact Nat.lt_of_lt_of_le (Nat.lt_succ_self _) (Nat.le_of_ble_eq_true this)
theorem pK {ops:Array Oper} (hE:jN ops=true) (mixed:Bool) (t:Nat):Good (dR ops) ops.size (fun _=>false) (Region.schedule mixed ops t):=by
 obtain⟨hA,hR⟩:=oB hE
 have key:∀m t,(m=.gc->Region.departs ops=true)->Good (dR ops) ops.size (fun _=>false) (Region.linearise m ops t):=fun m t hm=>by
  obtain⟨ur,EK⟩:=hR m hm
  have hr:∀j,(Array.replicate ops.size false).getD j false=false:=fun j=>by
   rw[Array.getD_eq_getD_getElem?,Array.getElem?_replicate];split<;>rfl
  refine fV (fun j _=>hr j) (fun a b iE hb=>Nat.lt_trans (qx hA iE) hb) (BJ hA EK (Go.aB.wy m ops t) (by simp) (qy _ _) fun a b iE hb=>?_);rw[hr]at hb;cases hb
 unfold Region.schedule;split
 .exact key _ _ fun h=>by cases h
 .rename_i hc
  have hd:Region.departs ops=true:=by
   cases hx:Region.departs ops with
   |true=>rfl
   |false=>rw[hx]at hc;simp at hc
  exact key _ _ fun _=>hd
theorem oC (n:Nat):∀(m i:Nat),i+m=n->Good (·<·) n (fun j=>decide (j<i)) (List.range' i m)
 |0,i,h=>fun j hj=>by simp;omega
 |m+1,i,h=>by
  refine⟨by omega,by simp,fun a ha=>by simpa using ha,?_⟩;refine fV (D:=fun j=>decide (j<i+1)) (fun j hj=>?_) (fun a b iE hb=>by omega) (oC n m (i+1) (by omega));simp only[add];by_cases e:j=i
  .subst e;simp
  .by_cases h:j<i
   .have:j<i+1:=by omega
    simp[h,this]
   .have:¬j<i+1:=by omega
    simp[h,this,e]
def eI (P:Program) (ce:Next->Hp->Rs Value) (ops:Array Oper):Nat->Nat->List Value->Hp->Option (List Value×Hp×List (Nat×Nat))
 |0,_,T,H=>some (T,H,[])
 |n+1,i,T,H=>match lp P ce ops i T H with
  |none=>none
  |some (T1,H1,R,W)=>match eI P ce ops n (i+1) T1 H1 with
   |none=>none
   |some (T2,H2,l)=>some (T2,H2,(R,W)::l)
def nc (R1 W1 R2 W2:Nat):Bool:=Nat.beq (Nat.land W1 (Nat.lor R2 W2)) 0&&Nat.beq (Nat.land W2 R1) 0
def yp (m R W:Nat):List (Nat×Nat×Nat)->Bool
 | []=>true
 |(i,R1,W1)::l=>(zE m i||nc R1 W1 R W)&&yp m R W l
def fW:List Nat->List (Nat×Nat)->Nat->List (Nat×Nat×Nat)->Nat->Nat->Bool
 |_,[],_,_,_,_=>true
 | [],_::_,_,_,_,_=>false
 |m::ms,(R,W)::l,j,prev,RU,WU=>(nc RU WU R W||yp m R W prev)&&fW ms l (j+1) ((j,R,W)::prev) (Nat.lor RU R) (Nat.lor WU W)
def AU:List (Nat×Nat)->Nat
 | []=>0
 |(R,_)::l=>Nat.lor R (AU l)
def zG:List (Nat×Nat)->Nat
 | []=>0
 |(_,W)::l=>Nat.lor W (zG l)
def dB (P:Program) (ce:Next->Hp->Rs Value) (ops:Array Oper) (draw:Bool) (T:List Value) (H:Hp):Rs (List Value):=
 match eI P ce ops ops.size 0 T H with
 |none=>none
 |some (T1,H1,l)=>bif !draw||fW (nv ops ops.size) l 0 [] 0 0 then some (T1,H1,AU l,zG l)else none
def zH (ops:Array Oper) (l:List Nat):Bool:=
 (List.range ops.size).all fun j=>(List.range j).all fun i=>zE (oA l j) i||(match ops[i]?,ops[j]? with|some oi,some oj=>oi.apart ops oj|_,_=>true)
def dv (P:Program) (S:Nat->Bool) (ops:Array Oper) (draw:Bool):Bool:=
 (ops.all fun o=>gJ P S o.op)&&(!draw||(jN ops&&zH ops (nv ops ops.size)))
theorem yq {R2 W2:Nat} (h:nc R1 W1 R2 W2=true) (r:Nat):(W1.testBit r=true->R2.testBit r=false/\W2.testBit r=false)/\(W2.testBit r=true->R1.testBit r=false):=by
 simp only[nc,Bool.and_eq_true]at h;have h1:W1&&&(R2|||W2)=0:=Nat.eq_of_beq_eq_true h.1;have h2:W2&&&R1=0:=Nat.eq_of_beq_eq_true h.2;have e1:=congrArg (fun x=>Nat.testBit x r) h1;have e2:=congrArg (fun x=>Nat.testBit x r) h2;simp only[Nat.testBit_and,Nat.testBit_or,Nat.zero_testBit,Bool.and_eq_false_iff,Bool.or_eq_false_iff]at e1 e2;refine⟨fun x=>?_,fun x=>?_⟩
 .rcases e1 with e|e
  .rw[x]at e;cases e
  .exact e
 .rcases e2 with e|e
  .rw[x]at e;cases e
  .exact e
theorem qz {m:Nat}:∀{l:List (Nat×Nat×Nat)},yp m R W l=true->∀i R1 W1,(i,R1,W1)∈l->zE m i=true\/nc R1 W1 R W=true
 | [],_,_,_,_,h=>by cases h
 |(i,R1,W1)::l,h,j,R2,W2,hm=>by
  simp only[yp,Bool.and_eq_true,Bool.or_eq_true]at h;rcases List.mem_cons.1 hm with e|hm
  .cases e;exact h.1
  .exact qz h.2 _ _ _ hm
theorem I8 {RU WU:Nat} (h:nc RU WU R W=true) (hr:∀r,R1.testBit r=true->RU.testBit r=true) (hw:∀r,W1.testBit r=true->WU.testBit r=true) (r:Nat):
 (W1.testBit r=true->R.testBit r=false/\W.testBit r=false)/\(W.testBit r=true->R1.testBit r=false):=by
 obtain⟨a,b⟩:=yq h r;refine⟨fun x=>a (hw r x),fun x=>?_⟩;cases hx:R1.testBit r with
 |false=>rfl
 |true=>have:=b x;rw[hr r hx]at this;cases this
theorem wL:∀(ms:List Nat) (l:List (Nat×Nat)) (j:Nat) (prev:List (Nat×Nat×Nat)) (RU WU:Nat),fW ms l j prev RU WU=true->
 (∀i R1 W1,(i,R1,W1)∈prev->∀r,(R1.testBit r=true->RU.testBit r=true)/\(W1.testBit r=true->WU.testBit r=true))->
 (∀(b:Nat) (R W:Nat),l[b]?=some (R,W)->(∀i R1 W1,(i,R1,W1)∈prev->zE (oA ms b) i=true\/∀r,(W1.testBit r=true->R.testBit r=false/\W.testBit r=false)/\(W.testBit r=true->R1.testBit r=false))/\
   ∀(a R1 W1:Nat),a<b->l[a]?=some (R1,W1)->zE (oA ms b) (j+a)=true\/∀r,(W1.testBit r=true->R.testBit r=false/\W.testBit r=false)/\(W.testBit r=true->R1.testBit r=false)):=by
 intro ms l;induction l generalizing ms with
 |nil=>intro j prev RU WU _ _ b R W h;simp at h
 |cons x l ih=>
  obtain⟨Rx,Wx⟩:=x;intro j prev RU WU h BK;cases ms with
  |nil=>simp[fW]at h
  |cons m ms=>
   simp only[fW,Bool.and_eq_true,Bool.or_eq_true]at h;obtain⟨h1,h2⟩:=h
   have ih:=ih ms (j+1) ((j,Rx,Wx)::prev) _ _ h2 (fun i R1 W1 hm r=>by
    have e1:(Nat.lor RU Rx).testBit r=(RU.testBit r||Rx.testBit r):=Nat.testBit_or _ _ _;have e2:(Nat.lor WU Wx).testBit r=(WU.testBit r||Wx.testBit r):=Nat.testBit_or _ _ _;rw[e1,e2];rcases List.mem_cons.1 hm with e|hm
    .cases e;exact⟨fun x=>by rw[x,Bool.or_true],fun x=>by rw[x,Bool.or_true]⟩
    .have:=BK i R1 W1 hm r;exact⟨fun x=>by rw[this.1 x];rfl,fun x=>by rw[this.2 x];rfl⟩)
   intro b R W hb;cases b with
   |zero=>
    simp only[List.getElem?_cons_zero,Option.some.injEq,Prod.mk.injEq]at hb;obtain⟨rfl,rfl⟩:=hb;refine⟨fun i R1 W1 hm=>?_,fun a _ _ ha _=>by omega⟩;rcases h1 with h1|h1
    .exact .inr (I8 h1 (fun r=>(BK i R1 W1 hm r).1) fun r=>(BK i R1 W1 hm r).2)
    .exact(qz h1 i R1 W1 hm).imp id fun x=>yq x
   |succ b=>
    simp only[List.getElem?_cons_succ]at hb;obtain⟨k1,k2⟩:=ih b R W hb;refine⟨fun i R1 W1 hm=>k1 i R1 W1 (List.mem_cons_of_mem _ hm),fun a R1 W1 iE ha=>?_⟩;cases a with
    |zero=>
     simp only[List.getElem?_cons_zero,Option.some.injEq,Prod.mk.injEq]at ha;obtain⟨rfl,rfl⟩:=ha;exact k1 j Rx Wx (by simp)
    |succ a=>
     simp only[List.getElem?_cons_succ]at ha;have:=k2 a R1 W1 (by omega) ha;rw[show j+(a+1)=j+1+a by omega];exact this
theorem yr:∀{l:List (Nat×Nat)} {i R W r:Nat},l[i]?=some (R,W)->R.testBit r=true->(AU l).testBit r=true
 | [],i,R,W,r,h,_=>by simp at h
 |(Rx,Wx)::l,i,R,W,r,h,hr=>by
  have e:(AU ((Rx,Wx)::l)).testBit r=(Rx.testBit r||(AU l).testBit r):=Nat.testBit_or _ _ _;rw[e];cases i with
  |zero=>simp only[List.getElem?_cons_zero,Option.some.injEq,Prod.mk.injEq]at h;obtain⟨rfl,rfl⟩:=h;rw[hr];rfl
  |succ i=>simp only[List.getElem?_cons_succ]at h;rw[yr h hr,Bool.or_true]
theorem sk:∀{l:List (Nat×Nat)} {i R W r:Nat},l[i]?=some (R,W)->W.testBit r=true->(zG l).testBit r=true
 | [],i,R,W,r,h,_=>by simp at h
 |(Rx,Wx)::l,i,R,W,r,h,hr=>by
  have e:(zG ((Rx,Wx)::l)).testBit r=(Wx.testBit r||(zG l).testBit r):=Nat.testBit_or _ _ _;rw[e];cases i with
  |zero=>simp only[List.getElem?_cons_zero,Option.some.injEq,Prod.mk.injEq]at h;obtain⟨rfl,rfl⟩:=h;rw[hr];rfl
  |succ i=>simp only[List.getElem?_cons_succ]at h;rw[sk h hr,Bool.or_true]
section
variable {P:Program} {S:Nat->Bool} {K:Kz} {lj:List PanicEntry->World->Prop} {ce:Next->Hp->Rs Value}
theorem sm {ops:Array Oper}:∀(n i:Nat) (T:List Value) (H:Hp) (T2:List Value) (H2:Hp) (l:List (Nat×Nat)),eI P ce ops n i T H=some (T2,H2,l)->
 ∃(Ts:Nat->List Value) (Hs:Nat->Hp) (R W:Nat->Nat),Ts i=T/\Hs i=H/\Ts (i+n)=T2/\Hs (i+n)=H2/\(∀a,a<n->l[a]?=some (R (i+a),W (i+a)))/\∀a,i<=a->a<i+n->lp P ce ops a (Ts a) (Hs a)=some (Ts (a+1),Hs (a+1),R a,W a):=by
 intro n;induction n with
 |zero=>
  intro i T H T2 H2 l e;simp only[eI,Option.some.injEq,Prod.mk.injEq]at e;obtain⟨rfl,rfl,rfl⟩:=e;exact⟨fun _=>T,fun _=>H,fun _=>0,fun _=>0,rfl,rfl,rfl,rfl,fun a h=>by omega,fun a h1 h2=>by omega⟩
 |succ n ih=>
  intro i T H T2 H2 l e;simp only[eI]at e;split at e<;>try(cases e;done)
  rename_i T1 H1 R1 W1 e1;split at e<;>try(cases e;done)
  rename_i Qi Qj l' e2;simp only[Option.some.injEq,Prod.mk.injEq]at e;obtain⟨rfl,rfl,rfl⟩:=e;obtain⟨Ts,Hs,R,W,a1,a2,a3,a4,a5,a6⟩:=ih (i+1) T1 H1 Qi Qj l' e2;refine⟨fun j=>if j=i then T else Ts j,fun j=>if j=i then H else Hs j,fun j=>if j=i then R1 else R j,fun j=>if j=i then W1 else W j,if_pos rfl,if_pos rfl,?_,?_,?_,?_⟩
  .show(if i+(n+1)=i then T else Ts (i+(n+1)))=Qi;rw[if_neg (by omega),show i+(n+1)=i+1+n by omega];exact a3
  .show(if i+(n+1)=i then H else Hs (i+(n+1)))=Qj;rw[if_neg (by omega),show i+(n+1)=i+1+n by omega];exact a4
  .intro a ha;show _=some ((if i+a=i then R1 else R (i+a)),(if i+a=i then W1 else W (i+a)));cases a with
   |zero=>simp
   |succ a=>
    simp only[List.getElem?_cons_succ];rw[a5 a (by omega),if_neg (by omega),if_neg (by omega),show i+1+a=i+(a+1) by omega]
  .intro a h1 h2;show lp P ce ops a (if a=i then T else Ts a) (if a=i then H else Hs a)=some ((if a+1=i then T else Ts (a+1)),(if a+1=i then H else Hs (a+1)),(if a=i then R1 else R a),(if a=i then W1 else W a));by_cases e:a=i
   .subst e;simp only[if_true];rw[if_neg (by omega),if_neg (by omega),e1,a1,a2]
   .rw[if_neg e,if_neg e,if_neg (by omega),if_neg (by omega),if_neg e,if_neg e];exact a6 a (by omega) (by omega)
theorem zI (eB:gX P S K lj ce) {ops:Array Oper}:∀(n i:Nat) (T:List Value) (H:Hp) (T2:List Value) (H2:Hp) (l:List (Nat×Nat)),eI P ce ops n i T H=some (T2,H2,l)->Ft H (AU l) (zG l) H2/\T2.length=T.length:=by
 intro n;induction n with
 |zero=>
  intro i T H T2 H2 l e;simp only[eI,Option.some.injEq,Prod.mk.injEq]at e;obtain⟨rfl,rfl,rfl⟩:=e;exact⟨Ft.refl _,rfl⟩
 |succ n ih=>
  intro i T H T2 H2 l e;simp only[eI]at e;split at e<;>try(cases e;done)
  rename_i T1 H1 R1 W1 e1;split at e<;>try(cases e;done)
  rename_i Qi Qj l' e2;simp only[Option.some.injEq,Prod.mk.injEq]at e;obtain⟨rfl,rfl,rfl⟩:=e;obtain⟨a,b⟩:=ih _ _ _ _ _ _ e2;refine⟨(lq eB e1).trans a,b.trans ?_⟩;obtain⟨o,_,h⟩:=it e1;rcases h with⟨_,v,_,h⟩|⟨_,h,_⟩<;>rw[h,mN]
theorem qA {ops:Array Oper} (e:dB P ce ops draw T H=some (T1,H1,R,W)):
 ∃l,eI P ce ops ops.size 0 T H=some (T1,H1,l)/\(draw=true->fW (nv ops ops.size) l 0 [] 0 0=true)/\R=AU l/\W=zG l:=by
 unfold dB at e;split at e
 .cases e
 .rename_i T1 H1 l e1;cases hc:(!draw||fW (nv ops ops.size) l 0 [] 0 0)<;>rw[hc]at e<;>simp only[cond_true,cond_false]at e
  .cases e
  simp only[Option.some.injEq,Prod.mk.injEq]at e;obtain⟨rfl,rfl,rfl,rfl⟩:=e;exact⟨l,e1,fun hd=>by rw[hd]at hc;simpa using hc,rfl,rfl⟩
theorem dq (eB:gX P S K lj ce) {ops:Array Oper} (e:dB P ce ops draw T H=some (T1,H1,R,W)):Ft H R W H1/\T1.length=T.length:=by
 obtain⟨l,e1,_,rfl,rfl⟩:=qA e;exact zI eB _ _ _ _ _ _ _ e1
theorem ls (hk:Ok P P.funcs S) (hZ:KW P K) (eB:gX P S K lj ce) {ops:Array Oper} (bE:dv P S ops draw=true) (e:dB P ce ops draw T H=some (T1,H1,R,W))
 {Fp:Nat->Prop} {p:Pi} {tm:Array Value} {w:World} (hg:P.globals.size<=H.n) (hF:∀r,(R.testBit r=true\/W.testBit r=true)->Fp r) (cb:tm.size=T.length) (hr:Rl P S K p H.get Fp w) (hT:∀x,VR S p (bt T x) (tm.getD x undef)) (hG:uj P S p)
 (hn:∀r,H.n<=r->r<H1.n->∀r',¬p r r') (id:Nat) (b:Frame) (ds:List Deferred) (k:List Item) (cs:List Frame):
 (∃br w' q,Steps P (lone (a8 b tm ds (.code (.region id ops draw)::k)) cs w) (lone (a8 b br ds k) cs w')/\br.size=T.length/\
   Mv (fun r=>W.testBit r=true) p H.n w q H1.n w'/\Rl P S K q H1.get Fp w'/\∀x,VR S q (bt T1 x) (br.getD x undef))\/fp P lj b ds cs (lone (a8 b tm ds (.code (.region id ops draw)::k)) cs w):=by
 obtain⟨l,e1,hp,rfl,rfl⟩:=qA e;obtain⟨Ts,Hs,R,W,a1,a2,a3,a4,a5,a6⟩:=sm _ _ _ _ _ _ _ e1;rw[Nat.zero_add]at a3 a4 a6;have t:KX P ce ops Ts Hs R W:=⟨fun i hi=>a6 i (Nat.zero_le _) hi⟩
 have lR:∀i,i<ops.size->l[i]?=some (R i,W i):=fun i hi=>by have:=a5 i hi;rwa [Nat.zero_add]at this
 simp only[dv,Bool.and_eq_true]at bE
 have lW:∀(i:Nat) (o:Oper),ops[i]?=some o->gJ P S o.op=true:=fun i o ho=>by
  obtain⟨ao,he⟩:=Array.getElem?_eq_some_iff.1 ho;have:=Array.all_eq_true.1 bE.1 i ao;rw[he]at this;exact this
 have mono:=fun i j=>t.BE (i:=i) (j:=j) eB;have OH:∀i,i<ops.size->∀r,((R i).testBit r=true\/(W i).testBit r=true)->Fp r:=fun i hi r hr=>hF r (hr.imp (fun x=>yr (lR i hi) x) fun x=>sk (lR i hi) x)
 have l0:∀r,last (fun i=>(Hs i).get) (vE W) (fun _=>false) ops.size r=H.get r:=fun r=>by
  have:∀n,last (fun i=>(Hs i).get) (vE W) (fun _=>false) n r=H.get r:=by
   intro n;induction n with
   |zero=>show(Hs 0).get r=_;rw[a2]
   |succ n ih=>simp only[last,Bool.false_and,Bool.false_eq_true,if_false];exact ih
  exact this _
 have l1:∀x,last (fun i=>bt (Ts i)) (vF ops) (fun _=>false) ops.size x=bt T x:=fun r=>by
  have:∀n,last (fun i=>bt (Ts i)) (vF ops) (fun _=>false) n r=bt T r:=by
   intro n;induction n with
   |zero=>show bt (Ts 0) r=_;rw[a1]
   |succ n ih=>simp only[last,Bool.false_and,Bool.false_eq_true,if_false];exact ih
  exact this _
 have fin:∀{order:List Nat} {Fo:Nat->Nat->Prop} {w0:World},w0.heap=w.heap->Good Fo ops.size (fun _=>false) order->(∀i j,i<j->j<ops.size->Fo i j\/Mh R W i j)->(∀(i j:Nat) (oi oj:Oper),i<j->ops[i]?=some oi->ops[j]?=some oj->Fo i j\/oi.apart ops oj=true)->
  (∃br w' q,Steps P (lone (a8 b tm ds (.inRegion ops order::k)) cs w0) (lone (a8 b br ds k) cs w')/\br.size=T.length/\Mv (fun r=>(zG l).testBit r=true) p H.n w q H1.n w'/\Rl P S K q H1.get Fp w'/\∀x,VR S q (bt T1 x) (br.getD x undef))\/fp P lj b ds cs (lone (a8 b tm ds (.inRegion ops order::k)) cs w0):=by
  intro order Fo w0 OI Mm hm ht;rcases EJ hk hZ eB lW t hm ht (by rw[a2];exact hg) OH b ds k cs order (fun _=>false) p tm w0 Mm (fun a c _ h=>by cases h) (by rw[a1];exact cb) ((hr.heap OI).congr fun r _=>l0 r) (fun x=>by rw[l1];exact hT x) hG (fun j hj _ r h1 h2=>hn r (by have:=mono 0 j (Nat.le_of_lt hj) (Nat.zero_le _);rw[a2]at this;omega) (by have:=mono (j+1) ops.size (Nat.le_refl _) hj;rw[a4]at this;omega))with⟨br,w',q,c1,c2,c3,c4,c5⟩|BI;rotate_left
  .exact .inr BI
  rw[a1]at c2;rw[a2,a4]at c3;rw[a4]at c4;rw[a3]at c5;exact .inl ⟨br,w',q,c1.trans (.one cW),c2,(c3.By OI.symm).mono fun r ⟨i,hi,x⟩=>sk (lR i hi) x,c4,c5⟩
 cases draw with
 |false=>
  rcases fin (order:=List.range ops.size) (Fo:=(·<·)) (w0:=w) rfl (by
   have:=oC ops.size ops.size 0 (Nat.zero_add _);rw[<-List.range_eq_range']at this;exact fV (fun j _=>by simp) (fun a b iE hb=>by omega) this) (fun i j h _=>.inl h) (fun i j _ _ h _ _=>.inl h)with⟨br,w',q,c⟩|BI
  .exact .inl ⟨br,w',q,.head fG c.1,c.2⟩
  .exact .inr (.of_steps (.one fG) BI)
 |true=>
  have I9:=bE.2;simp only[Bool.not_true,Bool.false_or,Bool.and_eq_true]at I9;have Wq:=wL _ _ _ _ _ _ (hp rfl) (fun _ _ _ h=>by cases h);obtain⟨tt,w0,OI,Mo⟩:=yh (P:=P) (b:=b) (tm:=tm) (ds:=ds) (k:=k) (cs:=cs) (w:=w) (id:=id) (ops:=ops)
  rcases fin (order:=Region.schedule (P.follows .mixedOrders) ops tt) (Fo:=dR ops) (w0:=w0) OI (pK I9.1 _ _) (fun i j h hj=>by
   rcases(Wq j _ _ (lR j hj)).2 i _ _ h (lR i (by omega))with x|x
   .rw[Nat.zero_add]at x;exact .inl (qv _ _ _ _ (uo x))
   .exact .inr x) (fun i j oi oj h Wr BG=>by
   have hj:j<ops.size:=(Array.getElem?_eq_some_iff.1 BG).1;have h2:=List.all_eq_true.1 (List.all_eq_true.1 I9.2 j (List.mem_range.2 hj)) i (List.mem_range.2 h);rw[Wr,BG,Bool.or_eq_true]at h2;rcases h2 with x|x
   .exact .inl (qv _ _ _ _ (uo x))
   .exact .inr x)with⟨br,w',q,c⟩|BI
  .exact .inl ⟨br,w',q,.head Mo c.1,c.2⟩
  .exact .inr (.of_steps (.one Mo) BI)
end
end Go.Ev
namespace Go.Ev
open Go.aB (aa bi bn eS bu fC bR bN bQ aC aD bB d8 cz cy bH aA aU aT bY bG bl)
variable {H H1:Hp} {R R1 W W1 f l n n1 r r':Nat} {T T1:List Value} {aQ args bm tmps xs:Array Value} {assign body c:Code} {ex:Nat->Bool} {fg l':List Deferred} {fn:Func} {j:Option Code} {m:Machine} {params:Array Tmp} {q:Pi} {ro:Option Nat} {v:Value} {w1 w2:World} {α:Type}
inductive DL (p:Pi):List Deferred->List Deferred->Prop
 |nil:DL p [] []
 |cons {l l':List Deferred} {r r':Nat} (h:p r r') (t:DL p l l'):DL p ({target:=.collected r,args:=#[]}::l) ({target:=.collected r',args:=#[]}::l')
inductive RR (p:Pi):Option Nat->Option Nat->Prop
 |none:RR p none none
 |some {l l':Nat} (h:p l l'):RR p (some l) (some l')
theorem DL.mono {p:Pi} (h:Le p q) {l:List Deferred} (x:DL p l l'):DL q l l':=by
 induction x with
 |nil=>exact .nil
 |cons a _ ih=>exact .cons (h _ _ a) ih
theorem RR.mono {p:Pi} (h:Le p q) {l l':Option Nat} (x:RR p l l'):RR q l l':=by
 cases x with
 |none=>exact .none
 |some a=>exact .some (h _ _ a)
theorem DL.append {p:Pi} {l m m':List Deferred} (h:DL p l l') (k:DL p m m'):DL p (l++m) (l'++m'):=by
 induction h with
 |nil=>exact k
 |cons a _ ih=>exact .cons a ih
section
variable {P:Program} {F:Array Func} {S:Nat->Bool} {K:Kz} {N:Nat} {p:Pi}
structure tJ (S:Nat->Bool) (K:Kz) (p:Pi) (l l':Loop):Prop where
 h1:l.state=l'.state
 h2:l.pending=l'.pending
 h3:l.fn=l'.fn
 h4:AR S p l.tmps l'.tmps
 h5:l.params=l'.params
 h6:l.assign=l'.assign
 h7:l.body=l'.body
 h8:p l.defers l'.defers
 k1:S l.fn=true
 k2:K l.assign
 k3:K l.body
 k4:∀c,l.pending=some c->K c
 k5:K (.label (100000+l.fn))
theorem tJ.or {l l':Loop} (x:tJ S K p l l'):OR S K p (.loop l) (.loop l'):=.loop x.h1 x.h2 x.h3 x.h4 x.h5 x.h6 x.h7 x.h8 x.k1 x.k2 x.k3 x.k4 x.k5
theorem SR.getLoop (h:p r r'):SR P F S K N (fun q l l'=>tJ S K q l l') (Instr.getLoop r) (Instr.getLoop r') p:=by
 unfold Instr.getLoop;refine(SR.getObj h).bind fun q o o' hq ho=>?_;cases ho<;>first|exact SR.stuck|skip
 rename_i h1 h2 h3 h4 h5 h6 h7 h8 k1 k2 k3 k4 k5;exact SR.pure ⟨h1,h2,h3,h4,h5,h6,h7,h8,k1,k2,k3,k4,k5⟩
theorem SR.enterLoop {f':Nat} (PF:f=f') (hf:S f=true) (hz:K (.label (100000+f))) (hx:AR S p xs aQ) (ps:Array Tmp) {a:Code} (ha:K a) (hc:K c) {o o':Option Nat} (ho:RR p o o'):
 SR P F S K N (fun q x y=>q x.1 y.1/\DL q x.2 y.2) (Instr.enterLoop f xs ps a c o) (Instr.enterLoop f' aQ ps a c o') p:=by
 subst PF;unfold Instr.enterLoop;cases ho with
 |none=>
  simp only[bind_assoc,pure_bind];refine(SR.newObj .bW fun _ _ _ _ _ _ a=>by cases a).bind fun q r r' hq hr=>?_;refine(SR.newObj (tJ.or (l:={state:=.ready,pending:=none,fn:=f,tmps:=xs,params:=ps,assign:=a,body:=c,defers:=r}) (l':={state:=.ready,pending:=none,fn:=f,tmps:=aQ,params:=ps,assign:=a,body:=c,defers:=r'}) ⟨rfl,rfl,rfl,hx.mono hq,rfl,rfl,rfl,hr.1,hf,ha,hc,fun c h=>(by cases h),hz⟩) fun _ _ _ _ _ _ a=>by cases a).bind fun q2 s s' bd hs=>?_;exact SR.pure ⟨hs.1,.cons (bd _ _ hr.1) .nil⟩
 |some h=>
  simp only[bind_assoc,pure_bind];refine(SR.getLoop h).bind fun q r r' hq hr=>?_;refine(SR.newObj (tJ.or (l:={state:=.ready,pending:=none,fn:=f,tmps:=xs,params:=ps,assign:=a,body:=c,defers:=r.defers}) (l':={state:=.ready,pending:=none,fn:=f,tmps:=aQ,params:=ps,assign:=a,body:=c,defers:=r'.defers}) ⟨rfl,rfl,rfl,hx.mono hq,rfl,rfl,rfl,hr.h8,hf,ha,hc,fun c h=>(by cases h),hz⟩) fun _ _ _ _ _ _ a=>by cases a).bind fun q2 s s' bd hs=>?_;exact SR.pure ⟨hs.1,.nil⟩
theorem SR.beginRound (h:p r r'):SR P F S K N (QE Unit) (Instr.beginRound r) (Instr.beginRound r') p:=by
 unfold Instr.beginRound;refine(SR.getLoop h).bind fun q l l' hq hl=>?_;refine(SR.setObj (hq _ _ h) (tJ.or (l:={l with state:=.busy}) (l':={l' with state:=.busy}) ⟨rfl,hl.h2,hl.h3,hl.h4,hl.h5,hl.h6,hl.h7,hl.h8,hl.k1,hl.k2,hl.k3,hl.k4,hl.k5⟩) fun _ _ _ _ _ _ a=>by cases a).ab fun q2 _ bd=>?_;rw[<-hl.h1];cases l.state with
 |ready=>exact SR.pure rfl
 |done=>exact SR.err _
 |busy=>exact SR.err _
 |exhausted=>exact SR.err _
theorem SR.endRound (h:p r r') (j:Option Code) (hj:∀c,j=some c->K c):SR P F S K N (QV S) (Instr.endRound r j) (Instr.endRound r' j) p:=by
 unfold Instr.endRound;refine(SR.getLoop h).bind fun q l l' hq hl=>?_;refine(SR.setObj (hq _ _ h) (tJ.or (l:={l with state:=if j.isNone then .ready else .done,pending:=j}) (l':={l' with state:=if j.isNone then .ready else .done,pending:=j}) ⟨rfl,rfl,hl.h3,hl.h4,hl.h5,hl.h6,hl.h7,hl.h8,hl.k1,hl.k2,hl.k3,hj,hl.k5⟩) fun _ _ _ _ _ _ a=>by cases a).ab fun q2 _ bd=>?_;exact SR.pure (VR.plain 2 _ rfl)
theorem SR.endLoop (h:p r r'):SR P F S K N (fun _ a b=>a=b/\∀c,a=some c->K c) (Instr.endLoop r) (Instr.endLoop r') p:=by
 unfold Instr.endLoop;refine(SR.getLoop h).bind fun q l l' hq hl=>?_;rw[<-hl.h1]
 have tail:∀q2,Le q q2->SR P F S K N (fun _ a b=>a=b/\∀c,a=some c->K c) (Go.setObj r (.loop {l with state:=.exhausted})>>=fun _=>(Pure.pure l.pending:Sem (Option Code))) (Go.setObj r' (.loop {l' with state:=.exhausted})>>=fun _=>(Pure.pure l'.pending:Sem (Option Code))) q2:=fun q2 bd=>by
  refine(SR.setObj (bd _ _ (hq _ _ h)) (tJ.or (l:={l with state:=.exhausted}) (l':={l' with state:=.exhausted}) ⟨rfl,hl.h2,hl.h3,hl.h4.mono bd,hl.h5,hl.h6,hl.h7,bd _ _ hl.h8,hl.k1,hl.k2,hl.k3,hl.k4,hl.k5⟩) fun _ _ _ _ _ _ a=>by cases a).ab fun q3 _ dK=>?_;exact SR.pure ⟨hl.h2,hl.k4⟩
 split
 .exact(SR.err (α:=PUnit) (β:=PUnit) (Q:=QE PUnit) _).ab fun q2 _ bd=>tail q2 bd
 .exact tail q (Le.refl q)
theorem SR.takeDeferred (h:p r r'):SR P F S K N (fun _ a b=>a=[]/\b=[]) (Instr.takeDeferred r) (Instr.takeDeferred r') p:=by
 unfold Instr.takeDeferred;refine(SR.getObj h).bind fun q o o' hq ho=>?_;cases ho<;>first|exact SR.stuck|skip
 refine(SR.setObj (hq _ _ h) .bV fun _ _ _ _ _ _ a=>by cases a).ab fun q2 _ bd=>?_;exact SR.pure ⟨rfl,rfl⟩
theorem SR.A9 (f f':α->Sem Value):∀(l:List α) {p:Pi} {acc kl:Array Value},(∀x q,Le p q->SR P F S K N (QV S) (f x) (f' x) q)->AR S p acc kl->
 SR P F S K N (QA S) (l.foldlM (fun bs a=>Functor.map bs.push (f a)) acc) (l.foldlM (fun bs a=>Functor.map bs.push (f' a)) kl) p:=by
 intro l;induction l with
 |nil=>intro p acc kl _ ha;exact SR.pure ha
 |cons x l ih=>
  intro p acc kl h ha;simp only[List.foldlM_cons];refine SR.bind (Q:=QA S) ?_ fun q a b hq iE=>ih (fun y q2 bd=>h y q2 (hq.trans bd)) iE;exact(h x p (Le.refl p)).bind fun q b b' hq hb=>SR.pure ((ha.mono hq).push hb)
theorem SR.results {gq:Func} (hr:fn.results=gq.results) (h:AR S p xs aQ):SR P F S K N (QV S) (Go.results fn xs) (Go.results gq aQ) p:=by
 unfold Go.results;rw[<-hr];refine SR.bind (Q:=QA S) ?_ fun q vs tB hq hv=>?_
 .rw[Array.mapM_eq_foldlM,<-Array.foldlM_toList,Array.mapM_eq_foldlM,<-Array.foldlM_toList];refine SR.A9 _ _ _ (fun x q hq=>?_) AR.empty;cases x with
  |tmp t=>exact SR.pure ((h.mono hq).getD t VR.undef)
  |cell a t=>exact(SR.asAddr ((h.mono hq).getD a VR.undef)).bind fun q2 a a' bd ha=>SR.loadVar t ha
 .refine SR.pure ?_;have:=hv.1;by_cases h1:vs.size=1
  .have lV:tB.size=1:=by omega
   simp only[h1,lV,dif_pos];exact hv.2 0 _ _ (by simp[h1]) (by simp[lV])
  .have lV:tB.size≠1:=by omega
   simp only[h1,lV,dif_neg,not_false_eq_true];exact hv.tuple
end
abbrev Rc:=Option (Option Code×List Value×List Deferred×Hp×Nat×Nat)
def mO (R W:Nat):Rc->Rc
 |some (j,T,ds,H,R1,W1)=>some (j,T,ds,H,R|||R1,W|||W1)
 |none=>none
theorem iL {x:Rc} {ds:List Deferred} (h:mO R W x=some (j,T,ds,H,R1,W1)):∃R2 W2,x=some (j,T,ds,H,R2,W2)/\R1=R|||R2/\W1=W|||W2:=by
 cases x with
 |none=>cases h
 |some y=>
  obtain⟨a,b,c,d,e,f⟩:=y;simp only[mO,Option.some.injEq,Prod.mk.injEq]at h;obtain⟨rfl,rfl,rfl,rfl,rfl,rfl⟩:=h;exact⟨_,_,rfl,rfl,rfl⟩
def Qk:Option Code->Bool
 |none=>true
 |some .ret=>true
 |some (.exit _)=>true
 |some (.goto _)=>true
 |_=>false
def dw (r:Operand->Value) (f:Operand) (l:Nat):Sem Next:=do
 let d<-resolve r {callee:=.value f,args:=#[.const (.func (.yield l) #[] #[])],argTypes:=#[]} 0
 invoke d.target d.args
def lu (P:Program) (ce:Next->Hp->Rs Value) (ro:Option Nat) (fn:Nat) (f:Operand) (params:Array Tmp) (assign body:Code) (T:List Value) (ds:List Deferred) (H:Hp):Rc:=
 match an P (Instr.enterLoop fn T.toArray params assign body ro) H with
 |none=>none
 |some ((l,mark),H1,R1,W1)=>match an P (dw (ui (bt T)) f l) H1 with
  |none=>none
  |some (nx,H2,R2,W2)=>match ce nx H2 with
   |none=>none
   |some (_,H3,R3,W3)=>match an P (Instr.endLoop l) H3 with
    |none=>none
    |some (j,H4,R4,W4)=>bif Qk j then some (j,T,mark++ds,H4,R1|||(R2|||(R3|||R4)),W1|||(W2|||(W3|||W4)))else none
abbrev Rg:=(Next->Hp->Rs Value)->Array Oper->Bool->List Value->Hp->Rs (List Value)
def gY (P:Program) (rg:Rg) (ce:Next->Hp->Rs Value) (ro:Option Nat) (fn:Nat):Nat->Option Code->Code->List Value->List Deferred->Hp->Rc
 |0,_,_,_,_,_=>none
 |n+1,some sc,c,T,ds,H=>match gY P rg ce ro fn n none c T ds H with
  |some (some (.goto l),T1,fg,H1,R,W)=>match findLabel sc l with
   |some rest=>mO R W (gY P rg ce ro fn n (some sc) rest T1 fg H1)
   |none=>some (some (.goto l),T1,fg,H1,R,W)
  |x=>x
 |n+1,none,c,T,ds,H=>match c with
  |.skip=>some (none,T,ds,H,0,0)
  |.label _=>some (none,T,ds,H,0,0)
  |.region _ ops draw=>match rg ce ops draw T H with
   |some (T1,H1,R,W)=>some (none,T1,ds,H1,R,W)
   |none=>none
  |.seq a b=>match gY P rg ce ro fn n none a T ds H with
   |some (none,T1,fg,H1,R,W)=>mO R W (gY P rg ce ro fn n none b T1 fg H1)
   |x=>x
  |.cond x a b=>match ui (bt T) x with
   |.bool t=>gY P rg ce ro fn n none (bif t then a else b) T ds H
   |_=>none
  |.block id a=>match gY P rg ce ro fn n none a T ds H with
   |some (some (.exit i),T1,fg,H1,R,W)=>bif Nat.beq i id then some (none,T1,fg,H1,R,W)else some (some (.exit i),T1,fg,H1,R,W)
   |x=>x
  |.loop a=>match gY P rg ce ro fn n none a T ds H with
   |some (none,T1,fg,H1,R,W)=>mO R W (gY P rg ce ro fn n none (.loop a) T1 fg H1)
   |x=>x
  |.scope a=>gY P rg ce ro fn n (some a) a T ds H
  |.exit id=>some (some (.exit id),T,ds,H,0,0)
  |.goto l=>some (some (.goto l),T,ds,H,0,0)
  |.ret=>some (some .ret,T,ds,H,0,0)
  |.rangeFunc f params assign body=>lu P ce ro fn f params assign body T ds H
  |.refuse _=>none
def us:Option Code->Bool
 |none=>true
 |some .ret=>true
 |_=>false
def gM (P:Program):List Deferred->Hp->Rs Unit
 | [],H=>some ((),H,0,0)
 |{target:=.collected r,.. }::ds,H=>match an P (Instr.takeDeferred r) H with
  |some (_,H1,R,W)=>match gM P ds H1 with
   |some (_,H2,R2,W2)=>some ((),H2,R|||R2,W|||W2)
   |none=>none
  |none=>none
 |_::_,_=>none
def wM (P:Program) (rg:Rg) (ce:Next->Hp->Rs Value) (n:Nat) (f:Nat) (args:Array Value) (H:Hp):Rs Value:=
 match P.funcs[f]? with
 |none=>none
 |some fn=>match fn.body with
  |none=>none
  |some body=>match gY P rg ce none f n none body (args.toList++List.replicate (fn.ntmps-args.size) undef) [] H with
   |none=>none
   |some (j,T1,fg,H1,R1,W1)=>bif us j then match gM P fg H1 with
    |none=>none
    |some (_,H2,R2,W2)=>match an P (results fn T1.toArray) H2 with
     |none=>none
     |some (v,H3,R3,W3)=>some (v,H3,R1|||(R2|||R3),W1|||(W2|||W3))else none
def lx (P:Program) (rg:Rg) (ce:Next->Hp->Rs Value) (n:Nat) (l f:Nat) (tmps:Array Value) (assign body:Code) (H:Hp):Rs Value:=
 match gY P rg ce (some l) f n none assign tmps.toList [] H with
 |some (none,T1,fg,H1,R1,W1)=>match an P (Instr.beginRound l) H1 with
  |none=>none
  |some (_,H2,R2,W2)=>match gY P rg ce (some l) f n none body T1 fg H2 with
   |none=>none
   |some (j,_,_,H3,R3,W3)=>match an P (Instr.endRound l j) H3 with
    |none=>none
    |some (v,H4,R4,W4)=>some (v,H4,R1|||(R2|||(R3|||R4)),W1|||(W2|||(W3|||W4)))
 |_=>none
def ny (P:Program) (rg:Rg) (ex:Nat->Bool):Nat->Next->Hp->Rs Value
 |0,_,_=>none
 |n+1,nx,H=>match nx with
  |.enter f args=>bif ex f then none else wM P rg (ny P rg ex n) n f args H
  |.round l f tmps assign body=>lx P rg (ny P rg ex n) n l f tmps assign body H
  |_=>none
abbrev Mp (P:Program) (ex:Nat->Bool):=ny P (dB P) ex
def cE (P:Program) (S:Nat->Bool):Code->Bool
 |.skip|.label _|.exit _|.goto _|.ret=>true
 |.region _ ops draw=>dv P S ops draw
 |.seq a b=>cE P S a&&cE P S b
 |.cond c a b=>cY P S c&&cE P S a&&cE P S b
 |.block _ a=>cE P S a
 |.loop a=>cE P S a
 |.scope a=>cE P S a
 |.rangeFunc f _ a b=>cY P S f&&cE P S a&&cE P S b
 |.refuse _=>false
def Mq (P:Program) (e:TypeId) (v:Value):Prop:=∃i z,P.info? e=some i/\i.zero=some z/\v∈z.cells
def cK (P:Program) (S:Nat->Bool):Kz:=⟨fun c=>cE P S c=true,Mq P⟩
theorem Mr (P:Program) (S:Nat->Bool):KW P (cK P S):=fun e i z h1 h2 u hu=>⟨i,z,h1,h2,hu⟩
theorem sn {P:Program} {S:Nat->Bool}:∀{c:Code} {l:Nat} {r:Code},cE P S c=true->findLabel c l=some r->cE P S r=true:=by
 intro c;induction c with
 |seq a b LE LF=>
  intro l r h e;simp only[cE,Bool.and_eq_true]at h;simp only[findLabel]at e;split at e
  .rename_i rest h1;simp only[Option.some.injEq]at e;subst e;simp only[cE,Bool.and_eq_true];exact⟨LE h.1 h1,h.2⟩
  .exact LF h.2 e
 |label l'=>
  intro l r h e;simp only[findLabel]at e;split at e
  .cases e;rfl
  .cases e
 |_=>intro l r h e;simp[findLabel]at e
section
variable {P:Program} {S:Nat->Bool} {K:Kz} {lj:List PanicEntry->World->Prop} {ce:Next->Hp->Rs Value}
theorem wN (eB:gX P S K lj ce) {fn:Nat} {f:Operand} {ds:List Deferred}
 (e:lu P ce ro fn f params assign body T ds H=some (j,T1,fg,H1,R,W)):Ft H R W H1/\T1.length=T.length:=by
 unfold lu at e;split at e<;>try(cases e;done)
 rename_i e1;split at e<;>try(cases e;done)
 rename_i e2;split at e<;>try(cases e;done)
 rename_i e3;split at e<;>try(cases e;done)
 rename_i j _ _ _ e4;cases hj:Qk j<;>rw[hj]at e<;>simp only[cond_true,cond_false]at e
 .cases e
 simp only[Option.some.injEq,Prod.mk.injEq]at e;obtain⟨rfl,rfl,rfl,rfl,rfl,rfl⟩:=e;exact⟨(be P _ e1).trans ((be P _ e2).trans ((eB.ft _ _ _ _ _ _ e3).trans (be P _ e4))),rfl⟩
theorem dS (eB:gX P S K lj ce) (ro:Option Nat) (fn:Nat):∀(n:Nat) (sc:Option Code) (c:Code) (T:List Value) (ds:List Deferred) (H:Hp) (j:Option Code) (T1:List Value) (fg:List Deferred) (H1:Hp) (R W:Nat),
 gY P (dB P) ce ro fn n sc c T ds H=some (j,T1,fg,H1,R,W)->Ft H R W H1/\T1.length=T.length:=by
 intro n;induction n with
 |zero=>intro sc c T ds H j T1 fg H1 R W e;simp[gY]at e
 |succ n ih=>
  intro sc c T ds H j T1 fg H1 R W e
  have add:∀{sc c T2 ut H2 R2 W2 j T1 fg H1 R W},Ft H R2 W2 H2/\T2.length=T.length->mO R2 W2 (gY P (dB P) ce ro fn n sc c T2 ut H2)=some (j,T1,fg,H1,R,W)->Ft H R W H1/\T1.length=T.length:=by
   intro sc c T2 ut H2 R2 W2 j T1 fg H1 R W h e;obtain⟨R3,W3,e2,rfl,rfl⟩:=iL e;obtain⟨a,b⟩:=ih _ _ _ _ _ _ _ _ _ _ _ e2;exact⟨h.1.trans a,b.trans h.2⟩
  cases sc with
  |some sc=>
   simp only[gY]at e;split at e
   .rename_i e1;split at e
    .exact add (ih _ _ _ _ _ _ _ _ _ _ _ e1) e
    .simp only[Option.some.injEq,Prod.mk.injEq]at e;obtain⟨rfl,rfl,rfl,rfl,rfl,rfl⟩:=e;exact ih _ _ _ _ _ _ _ _ _ _ _ e1
   .exact ih _ _ _ _ _ _ _ _ _ _ _ e
  |none=>
   have BL:∀{j':Option Code},some (j',T,ds,H,0,0)=some (j,T1,fg,H1,R,W)->Ft H R W H1/\T1.length=T.length:=fun e=>by
    simp only[Option.some.injEq,Prod.mk.injEq]at e;obtain⟨rfl,rfl,rfl,rfl,rfl,rfl⟩:=e;exact⟨Ft.refl _,rfl⟩
   cases c with
   |skip=>exact BL e
   |label l=>exact BL e
   |exit id=>exact BL e
   |goto l=>exact BL e
   |ret=>exact BL e
   |refuse w=>simp[gY]at e
   |region id ops draw=>
    simp only[gY]at e;split at e<;>try(cases e;done)
    rename_i e1;simp only[Option.some.injEq,Prod.mk.injEq]at e;obtain⟨rfl,rfl,rfl,rfl,rfl,rfl⟩:=e;exact dq eB e1
   |seq a b=>
    simp only[gY]at e;split at e
    .rename_i e1;exact add (ih _ _ _ _ _ _ _ _ _ _ _ e1) e
    .exact ih _ _ _ _ _ _ _ _ _ _ _ e
   |cond x a b=>
    simp only[gY]at e;split at e<;>try(cases e;done)
    exact ih _ _ _ _ _ _ _ _ _ _ _ e
   |block id a=>
    simp only[gY]at e;split at e
    .rename_i i _ _ _ _ _ e1;have:=ih _ _ _ _ _ _ _ _ _ _ _ e1;cases hb:Nat.beq i id<;>rw[hb]at e<;>simp only[cond_true,cond_false,Option.some.injEq,Prod.mk.injEq]at e<;>obtain⟨rfl,rfl,rfl,rfl,rfl,rfl⟩:=e<;>exact this
    .exact ih _ _ _ _ _ _ _ _ _ _ _ e
   |loop a=>
    simp only[gY]at e;split at e
    .rename_i e1;exact add (ih _ _ _ _ _ _ _ _ _ _ _ e1) e
    .exact ih _ _ _ _ _ _ _ _ _ _ _ e
   |scope a=>exact ih _ _ _ _ _ _ _ _ _ _ _ e
   |rangeFunc f params assign body=>exact wN eB e
theorem fX:∀(ds:List Deferred) (H H1:Hp) (R W:Nat),gM P ds H=some ((),H1,R,W)->Ft H R W H1
 | [],H,H1,R,W,e=>by
   simp only[gM,Option.some.injEq,Prod.mk.injEq,true_and]at e;obtain⟨rfl,rfl,rfl⟩:=e;exact Ft.refl _
 |d::ds,H,H1,R,W,e=>by
  obtain⟨t,args⟩:=d;cases t<;>simp only[gM]at e<;>try(cases e;done)
  split at e<;>try(cases e;done)
  rename_i e1;split at e<;>try(cases e;done)
  rename_i e2;simp only[Option.some.injEq,Prod.mk.injEq,true_and]at e;obtain⟨rfl,rfl,rfl⟩:=e;exact(be P _ e1).trans (fX ds _ _ _ _ e2)
theorem yt (eB:gX P S K lj ce) (e:wM P (dB P) ce n f args H=some (v,H1,R,W)):Ft H R W H1:=by
 unfold wM at e;split at e<;>try(cases e;done)
 split at e<;>try(cases e;done)
 split at e<;>try(cases e;done)
 rename_i j _ _ _ _ _ e1;cases hr:us j<;>rw[hr]at e<;>simp only[cond_true,cond_false]at e
 .cases e
 split at e<;>try(cases e;done)
 rename_i e2;split at e<;>try(cases e;done)
 rename_i e3;simp only[Option.some.injEq,Prod.mk.injEq]at e;obtain⟨rfl,rfl,rfl,rfl⟩:=e;exact(dS eB _ _ _ _ _ _ _ _ _ _ _ _ _ _ e1).1.trans ((fX _ _ _ _ _ e2).trans (be P _ e3))
theorem oD (eB:gX P S K lj ce) (e:lx P (dB P) ce n l f tmps assign body H=some (v,H1,R,W)):Ft H R W H1:=by
 unfold lx at e;split at e<;>try(cases e;done)
 rename_i e1;split at e<;>try(cases e;done)
 rename_i e2;split at e<;>try(cases e;done)
 rename_i e3;split at e<;>try(cases e;done)
 rename_i e4;simp only[Option.some.injEq,Prod.mk.injEq]at e;obtain⟨rfl,rfl,rfl,rfl⟩:=e;exact(dS eB _ _ _ _ _ _ _ _ _ _ _ _ _ _ e1).1.trans ((be P _ e2).trans ((dS eB _ _ _ _ _ _ _ _ _ _ _ _ _ _ e3).1.trans (be P _ e4)))
end
section
variable {P:Program} {b:Frame} {tm:Array Value} {ds:List Deferred} {k:List Item} {cs:List Frame} {w:World}
theorem BM {f:Operand} {mark:List Deferred} {nx:Next} {g:Frame}
 (h1:(Instr.enterLoop b.fn tm params assign body b.roundOf).run P w=.ok (l,mark) w1) (h2:(dw (a8 b tm (mark++ds) (.inRangeFunc l::k)).eval f l).run P w1=.ok nx w2) (hg:me P nx=some g):
 step P (lone (a8 b tm ds (.code (.rangeFunc f params assign body)::k)) cs w)=.next (lone g (a8 b tm (mark++ds) (.inRangeFunc l::k)::cs) w2):=by
 refine bg rfl ?_;have:=(fT (P:=P) (cs:=cs) (fr:=a8 b tm (mark++ds) (.inRangeFunc l::k)) rfl h2).2.2 g hg;rw[<-this];unfold stepG.exec;simp only[a8]at h1⊢;simp only[Sem.runT_eq,h1,GStep.bare_after];rfl
theorem uu (h:(Instr.endLoop l).run P w=.ok j w1):
 step P (lone (a8 b tm ds (.endRangeFunc l::k)) cs w)=.next (lone (a8 b tm ds ((j.map Item.code).toList++k)) cs w1):=by
 refine bg rfl ?_;unfold stepG.exec;simp only[a8];simp only[Sem.runT_eq,h,GStep.bare_after];rfl
theorem pM (hl:b.roundOf=some l) (h:(Instr.beginRound l).run P w=.ok () w1):
 step P (lone (a8 b tm ds (.beginRound::k)) cs w)=.next (lone (a8 b tm ds k) cs w1):=by
 refine bg rfl ?_
 have hs:(do (a8 b tm ds (.beginRound::k)).roundOf.elim (Go.stuck "beginRound: no round") Instr.beginRound;Pure.pure Next.skip:Sem Next).run P w=.ok .skip w1:=by
  show(do b.roundOf.elim (Go.stuck "beginRound: no round") Instr.beginRound;Pure.pure Next.skip:Sem Next).run P w=.ok .skip w1;rw[hl];exact cD P _ _ w h
 have:=(fT (P:=P) (cs:=cs) (fr:=a8 b tm ds (.beginRound::k)) rfl hs).2.1 rfl;rw[show(a8 b tm ds (.beginRound::k)).finish undef=a8 b tm ds k from rfl]at this;rw[<-this];rfl
end
def Ends (j:Option Code) (k todo:List Item):Prop:=match j with
 |none=>todo=k
 |some .ret=>∃k2,todo=.code .ret::k2
 |some (.exit id)=>∃k2,todo=.code (.exit id)::k2/\exitTo id k2=exitTo id k
 |some (.goto l)=>∃k2,todo=.code (.goto l)::k2/\gotoIn l k2=gotoIn l k
 |some _=>False
structure St (P:Program) (S:Nat->Bool) (Fp:Nat->Prop) (p:Pi) (H:Hp) (T:List Value) (ds:List Deferred) (tm:Array Value) (iC:List Deferred) (w:World):Prop where
 sz:tm.size=T.length
 rl:Rl P S (cK P S) p H.get Fp w
 tr:∀x,VR S p (bt T x) (tm.getD x undef)
 dl:DL p ds iC
 gl:uj P S p
 hg:P.globals.size<=H.n
def BN (P:Program) (S:Nat->Bool) (Fp:Nat->Prop) (b:Frame) (cs:List Frame) (k:List Item) (p:Pi) (n:Nat) (w:World) (m:Machine) (j:Option Code) (T1:List Value) (fg:List Deferred) (H1:Hp) (W:Nat):Prop:=
 ∃br j6 w' q todo,Steps P m (lone (a8 b br j6 todo) cs w')/\Mv (fun r=>W.testBit r=true) p n w q H1.n w'/\St P S Fp q H1 T1 fg br j6 w'/\Ends j k todo
section
variable {P:Program} {S:Nat->Bool} {Fp:Nat->Prop} {b:Frame} {cs:List Frame} {ce:Next->Hp->Rs Value}
theorem Ends.pass {x:Item} (hx:x.plain=true) (hj:j=some c) {k todo:List Item} (h:Ends j (x::k) todo):Ends j k todo:=by
 subst hj;cases c<;>try exact h
 .obtain⟨k2,h1,h2⟩:=h;refine⟨k2,h1,h2.trans ?_⟩;cases x<;>first|rfl|cases hx
 .obtain⟨k2,h1,h2⟩:=h;refine⟨k2,h1,h2.trans ?_⟩;cases x<;>first|rfl|cases hx
theorem aZ {W:Nat->Prop} {p:Pi} {N:Nat} {w:World} (h:∀r,n<=r->r<N->∀r',¬p r r') (m:Mv W p n w q n1 w1):∀r,n1<=r->r<N->∀r',¬q r r':=fun r a c r' hq=>by
 rcases m.new r r' hq with x|⟨_,x,_⟩
 .exact h r (Nat.le_trans m.nn a) c r' x
 .omega
theorem dU (h:∀r,((R|||R1).testBit r=true\/(W|||W1).testBit r=true)->Fp r):∀r,(R.testBit r=true\/W.testBit r=true)->Fp r:=fun r x=>h r (x.imp (fun x=>by rw[Nat.testBit_or,x];rfl) fun x=>by rw[Nat.testBit_or,x];rfl)
theorem bK (h:∀r,((R|||R1).testBit r=true\/(W|||W1).testBit r=true)->Fp r):∀r,(R1.testBit r=true\/W1.testBit r=true)->Fp r:=fun r x=>h r (x.imp (fun x=>by rw[Nat.testBit_or,x,Bool.or_true]) fun x=>by rw[Nat.testBit_or,x,Bool.or_true])
theorem Mv.or {p s:Pi} {n2 W2:Nat} {w:World} (h:Mv (fun r=>W1.testBit r=true) p n w q n1 w1) (k:Mv (fun r=>W2.testBit r=true) q n1 w1 s n2 w2):Mv (fun r=>(W1|||W2).testBit r=true) p n w s n2 w2:=
 h.trans k (fun r x=>by rw[Nat.testBit_or,x];rfl) (fun r x=>by rw[Nat.testBit_or,x,Bool.or_true])
theorem eP {β:Type} {Q:Pi->α->β->Prop} {s:Sem α} {s':Sem β} {p:Pi} {a:α} {w:World} (h:SR P P.funcs S (cK P S) 0 Q s s' p) (e:an P s H=some (a,H1,R,W))
 (hr:Rl P S (cK P S) p H.get Fp w) (hg:P.globals.size<=H.n) (hn:∀r,H.n<=r->r<H1.n->∀r',¬p r r') (hF:∀r,(R.testBit r=true\/W.testBit r=true)->Fp r):
 ∃a' w1 q,s'.run P w=.ok a' w1/\Q q a a'/\Mv (fun r=>W.testBit r=true) p H.n w q H1.n w1/\Rl P S (cK P S) q H1.get Fp w1:=by
 obtain⟨a',w1,q,c1,c2,c3,c4⟩:=iK (P:=P) (F:=P.funcs) s (h hr.ok) e hr hg hn (fun r x=>.inr (hF r x));exact⟨a',w1,q,c1,c2,c3,c4.mono fun r x=>.inl x⟩
theorem eY {p:Pi} {tm:Array Value} (h1:tm.size=T.length) (h2:∀x,VR S p (bt T x) (tm.getD x undef)):AR S p T.toArray tm:=by
 refine⟨by simp[h1],fun i v v' hv iD=>?_⟩
 have e1:bt T i=v:=by
  have:∀(L:List Value) i,L[i]?=some v->bt L i=v:=by
   intro L;induction L with
   |nil=>intro i h;simp at h
   |cons y L ih=>intro i h;cases i with
    |zero=>simpa [bt]using h
    |succ i=>exact ih i (by simpa using h)
  exact this T i (by simpa using hv)
 have:=h2 i;rw[e1,Array.getD_eq_getD_getElem?,iD]at this;exact this
theorem SR.dw {K:Kz} {p:Pi} (hb:gU P P.funcs S) {r r':Operand->Value} (hE:ie P S p r r') {f:Operand} (hf:cY P S f=true) {l':Nat} (hl:p l l'):
 SR P P.funcs S K 0 (QX S K) (Ev.dw r f l) (Ev.dw r' f l') p:=by
 have e:∀(r:Operand->Value),(∀v,r (.const v)=v)->∀l,Ev.dw r f l=(Deferred.ofValue (r f) #[.func (.yield l) #[] #[]]>>=fun d=>invoke d.target d.args):=fun r hr l=>by
  unfold Ev.dw resolve;simp[hr]
 rw[e r (fun v=>(hE.const v).1),e r' (fun v=>(hE.const v).2)];exact SR.eT hb (hE.at hf) (AR.one (VR.yield hl))
theorem zJ (hk:Ok P P.funcs S) (eB:gX P S (cK P S) (fun _ _=>False) ce) {f:Operand} {ds:List Deferred}
 (e:lu P ce ro b.fn f params assign body T ds H=some (j,T1,fg,H1,R,W)) (hf:cY P S f=true) (ha:cE P S assign=true) (hb:cE P S body=true) (hS:S b.fn=true)
 {p:Pi} {tm:Array Value} {iC:List Deferred} {w:World} {k:List Item} (mP:RR p ro b.roundOf) (bE:St P S Fp p H T ds tm iC w) (hn:∀r,H.n<=r->r<H1.n->∀r',¬p r r') (hF:∀r,(R.testBit r=true\/W.testBit r=true)->Fp r):
 BN P S Fp b cs k p H.n w (lone (a8 b tm iC (.code (.rangeFunc f params assign body)::k)) cs w) j T1 fg H1 W:=by
 unfold lu at e;split at e<;>try(cases e;done)
 rename_i l mark Ha Ra Wa e1;split at e<;>try(cases e;done)
 rename_i nx Hb Rb Wb e2;split at e<;>try(cases e;done)
 rename_i v Hc Rc Wc e3;split at e<;>try(cases e;done)
 rename_i j' Hd Rd Wd e4;cases hj:Qk j'<;>rw[hj]at e<;>simp only[cond_true,cond_false]at e
 .cases e
 simp only[Option.some.injEq,Prod.mk.injEq]at e;obtain⟨rfl,rfl,rfl,rfl,rfl,rfl⟩:=e;have f1:=be P _ e1;have f2:=be P _ e2;have f3:=eB.ft _ _ _ _ _ _ e3;have f4:=be P _ e4;have n1:=f1.nn;have n2:=f2.nn;have n3:=f3.nn;have n4:=f4.nn
 obtain⟨⟨l',nY⟩,w1,q1,a1,⟨a2,a3⟩,a4,a5⟩:=eP (SR.enterLoop (K:=cK P S) (f:=b.fn) (f':=b.fn) rfl hS (show cE P S _=true from rfl) (eY bE.sz bE.tr) params ha hb mP) e1 bE.rl bE.hg (fun r x y=>hn r x (by omega)) (dU hF);have tp:=aZ hn a4;have hE:=I5 (b:=b) (ds:=nY++iC) (k:=.inRangeFunc l'::k) (bE.gl.mono a4.le) (τ:=bt T) (tm:=tm) fun x=>(bE.tr x).mono a4.le;obtain⟨px,w2,q2,b1,b2,b3,b4⟩:=eP (s':=dw (a8 b tm (nY++iC) (.inRangeFunc l'::k)).eval f l') (SR.dw hk.kv hE hf a2) e2 a5 (by have:=bE.hg;omega) (fun r x y=>tp r x (by omega)) (dU (bK hF));have vC:=aZ tp b3;rcases eB.run _ _ _ _ _ _ e3 q2 Fp w2 px (a8 b tm (nY++iC) (.inRangeFunc l'::k)) cs b2 b4 ((bE.gl.mono a4.le).mono b3.le) (by have:=bE.hg;omega) (fun r x y=>vC r x (by omega)) (dU (bK (bK hF)))with⟨g,v',w3,c1,c2,q3,c3,c4,c5⟩|⟨_,_,_,_,_,h⟩
 rotate_left
 .exact h.elim
 have KZ:=aZ vC c4;obtain⟨j2,w4,q4,d1,⟨d2,d3⟩,d4,d5⟩:=eP (SR.endLoop (c4.le _ _ (b3.le _ _ a2))) e4 (c5.mono fun r x=>.inl x) (by have:=bE.hg;omega) (fun r x y=>KZ r x (by omega)) (bK (bK (bK hF)));subst d2;have ol:(a8 b tm (nY++iC) (.inRangeFunc l'::k)).finish v'=a8 b tm (nY++iC) (.endRangeFunc l'::k):=rfl;rw[ol]at c2;refine⟨tm,nY++iC,w4,q4,(j'.map Item.code).toList++k,.head (BM a1 b1 c1) (c2.trans (.one (uu d1))),a4.or (b3.or (c4.or d4)),⟨bE.sz,d5,fun x=>((((bE.tr x).mono a4.le).mono b3.le).mono c4.le).mono d4.le,DL.append (((a3.mono b3.le).mono c4.le).mono d4.le) ((((bE.dl.mono a4.le).mono b3.le).mono c4.le).mono d4.le),(((bE.gl.mono a4.le).mono b3.le).mono c4.le).mono d4.le,by have:=bE.hg;omega⟩,?_⟩;cases j' with
 |none=>rfl
 |some c=>cases c<;>first|(cases hj;done)|exact⟨k,rfl⟩|exact⟨k,rfl,rfl⟩
theorem BN.of_steps {k:List Item} {p:Pi} {w:World} {m':Machine} (h:Steps P m m') (g:BN P S Fp b cs k p n w m' j T1 fg H1 W):BN P S Fp b cs k p n w m j T1 fg H1 W:=by
 obtain⟨br,j6,w',q,todo,a,c⟩:=g;exact⟨br,j6,w',q,todo,h.trans a,c⟩
theorem wO {m1 f:Machine} (h:Steps P m f) (hs:step P m=.next m1) (bC:m≠f):Steps P m1 f:=by
 obtain⟨n,hn⟩:=h;cases n with
 |zero=>
  simp only[runN]at hn;cases hn;exact absurd rfl bC
 |succ n=>
  simp only[runN,hs]at hn;exact⟨n,hn⟩
theorem jw (hk:Ok P P.funcs S) (eB:gX P S (cK P S) (fun _ _=>False) ce) (ro:Option Nat) (hS:S b.fn=true):∀(n:Nat) (sc:Option Code) (c:Code) (T:List Value) (ds:List Deferred) (H:Hp) (j:Option Code) (T1:List Value) (fg:List Deferred) (H1:Hp) (R W:Nat),
 gY P (dB P) ce ro b.fn n sc c T ds H=some (j,T1,fg,H1,R,W)->cE P S c=true->(∀x,sc=some x->cE P S x=true)->∀(p:Pi) (tm:Array Value) (iC:List Deferred) (w:World) (k:List Item),RR p ro b.roundOf->St P S Fp p H T ds tm iC w->
 (∀r,H.n<=r->r<H1.n->∀r',¬p r r')->(∀r,(R.testBit r=true\/W.testBit r=true)->Fp r)->
 BN P S Fp b cs k p H.n w (lone (a8 b tm iC (.code c::(match sc with|none=>k|some x=>.inScope x::k))) cs w) j T1 fg H1 W:=by
 intro n;induction n with
 |zero=>intro sc c T ds H j T1 fg H1 R W e;simp[gY]at e
 |succ n ih=>
  intro sc c T ds H j T1 fg H1 R W e hc EC p tm iC w k mP bE hn hF
  have two:∀{sc2 c2 T2 ut H2 R2 W2 m k2},Ft H R2 W2 H2->BN P S Fp b cs k2 p H.n w m none T2 ut H2 W2->k2=(.code c2::(match sc2 with|none=>k|some x=>.inScope x::k))->mO R2 W2 (gY P (dB P) ce ro b.fn n sc2 c2 T2 ut H2)=some (j,T1,fg,H1,R,W)->cE P S c2=true->(∀x,sc2=some x->cE P S x=true)->
   BN P S Fp b cs k p H.n w m j T1 fg H1 W:=by
   intro sc2 c2 T2 ut H2 R2 W2 m k2 vD Ja mQ BO AO Ql;obtain⟨R3,W3,e3,rfl,rfl⟩:=iL BO;obtain⟨br,j6,w',q,todo,g1,g2,g3,g4⟩:=Ja;have g4:todo=k2:=g4;subst g4;subst mQ;obtain⟨fY,EM,w2,q2,qB,k1,k2,k3,k4⟩:=ih sc2 c2 T2 ut H2 j T1 fg H1 R3 W3 e3 AO Ql q br j6 w' k (mP.mono g2.le) g3 (aZ hn g2) (bK hF);exact⟨fY,EM,w2,q2,qB,g1.trans k1,g2.or k2,k3,k4⟩
  have Jb:∀{sc2 c2 R3 W3 T3 OJ H3},mO R3 W3 (gY P (dB P) ce ro b.fn n sc2 c2 T3 OJ H3)=some (j,T1,fg,H1,R,W)->H3.n<=H1.n/\∀r,(R3.testBit r=true\/W3.testBit r=true)->Fp r:=by
   intro sc2 c2 R3 W3 T3 OJ H3 BO;obtain⟨R4,W4,e4,rfl,rfl⟩:=iL BO;exact⟨(dS eB _ _ _ _ _ _ _ _ _ _ _ _ _ _ e4).1.nn,dU hF⟩
  have here:∀{todo m},Steps P m (lone (a8 b tm iC todo) cs w)->some (j,T,ds,H,0,0)=some (j,T1,fg,H1,R,W)->Ends j k todo->BN P S Fp b cs k p H.n w m j T1 fg H1 W:=by
   intro todo m hs e he;simp only[Option.some.injEq,Prod.mk.injEq]at e;obtain⟨_,rfl,rfl,rfl,rfl,rfl⟩:=e;exact⟨tm,iC,w,p,todo,hs,Mv.refl _ _ _ _,bE,he⟩
  cases sc with
  |some sc=>
   simp only[gY]at e;have Qm:=EC sc rfl
   have pop:∀{j2 T2 ut H2 W2},BN P S Fp b cs (.inScope sc::k) p H.n w (lone (a8 b tm iC (.code c:: .inScope sc::k)) cs w) j2 T2 ut H2 W2->(∀l,j2=some (.goto l)->findLabel sc l=none)->BN P S Fp b cs k p H.n w (lone (a8 b tm iC (.code c:: .inScope sc::k)) cs w) j2 T2 ut H2 W2:=by
    intro j2 T2 ut H2 W2 ⟨br,j6,w',q,todo,g1,g2,g3,g4⟩ zK;cases j2 with
    |none=>
     have g4:todo=_:=g4;subst g4;exact⟨br,j6,w',q,k,g1.trans (.one wJ),g2,g3,rfl⟩
    |some c2=>
     refine⟨br,j6,w',q,todo,g1,g2,g3,?_⟩;cases c2<;>try exact g4
     .rename_i l;obtain⟨k2,h1,h2⟩:=g4;refine⟨k2,h1,h2.trans ?_⟩;show(match findLabel sc l with|some rest=>(some (Item.code rest::Item.inScope sc::k):Option (List Item))|none=>gotoIn l k)=_;rw[zK l rfl]
   split at e
   .rename_i l T2 ut H2 R2 W2 e1;split at e
    .rename_i rest zK;have⟨x1,x2⟩:=Jb e;have Ja:=ih none c T ds H _ T2 ut H2 R2 W2 e1 hc (fun _ h=>by cases h) p tm iC w (.inScope sc::k) mP bE (fun r a c=>hn r a (by omega)) x2;obtain⟨br,j6,w',q,todo,g1,g2,g3,k2,rfl,g5⟩:=Ja
     have g6:gotoIn l k2=some (.code rest:: .inScope sc::k):=by
      rw[g5];show(match findLabel sc l with|some rest=>(some (Item.code rest::Item.inScope sc::k):Option (List Item))|none=>gotoIn l k)=_;rw[zK]
     exact two (sc2:=some sc) (dS eB _ _ _ _ _ _ _ _ _ _ _ _ _ _ e1).1 ⟨br,j6,w',q,_,g1.trans (.one (EG g6)),g2,g3,rfl⟩ rfl e (sn Qm zK) EC
    .rename_i zK;simp only[Option.some.injEq,Prod.mk.injEq]at e;obtain⟨rfl,rfl,rfl,rfl,rfl,rfl⟩:=e;exact pop (ih none c T ds H _ _ _ _ _ _ e1 hc (fun _ h=>by cases h) p tm iC w (.inScope sc::k) mP bE hn hF) fun l' h=>by cases h;exact zK
   .rename_i iX;refine pop (ih none c T ds H _ _ _ _ _ _ e hc (fun _ h=>by cases h) p tm iC w (.inScope sc::k) mP bE hn hF) fun l h=>?_;subst h;exact absurd e (iX _ _ _ _ _ _)
  |none=>
   cases c with
   |skip=>
    simp only[gY,Option.some.injEq,Prod.mk.injEq]at e;obtain⟨rfl,e⟩:=e;exact here (.one nD) (by obtain⟨rfl,rfl,rfl,rfl,rfl⟩:=e;rfl) rfl
   |label l=>
    simp only[gY,Option.some.injEq,Prod.mk.injEq]at e;obtain⟨rfl,e⟩:=e;exact here (.one BB) (by obtain⟨rfl,rfl,rfl,rfl,rfl⟩:=e;rfl) rfl
   |exit id=>
    simp only[gY,Option.some.injEq,Prod.mk.injEq]at e;obtain⟨rfl,e⟩:=e;exact here (.refl _ _) (by obtain⟨rfl,rfl,rfl,rfl,rfl⟩:=e;rfl) ⟨k,rfl,rfl⟩
   |goto l=>
    simp only[gY,Option.some.injEq,Prod.mk.injEq]at e;obtain⟨rfl,e⟩:=e;exact here (.refl _ _) (by obtain⟨rfl,rfl,rfl,rfl,rfl⟩:=e;rfl) ⟨k,rfl,rfl⟩
   |ret=>
    simp only[gY,Option.some.injEq,Prod.mk.injEq]at e;obtain⟨rfl,e⟩:=e;exact here (.refl _ _) (by obtain⟨rfl,rfl,rfl,rfl,rfl⟩:=e;rfl) ⟨k,rfl⟩
   |refuse w=>simp[gY]at e
   |region id ops draw=>
    simp only[gY]at e;split at e<;>try(cases e;done)
    rename_i T2 H2 R2 W2 e1;simp only[Option.some.injEq,Prod.mk.injEq]at e;obtain⟨rfl,rfl,rfl,rfl,rfl,rfl⟩:=e;rcases ls hk (Mr P S) eB hc e1 bE.hg hF bE.sz bE.rl bE.tr bE.gl hn id b iC k cs with⟨br,w',q,a1,a2,a3,a4,a5⟩|⟨_,_,_,_,_,h⟩
    .exact⟨br,iC,w',q,k,a1,a3,⟨a2.trans (dq eB e1).2.symm,a4,a5,bE.dl.mono a3.le,bE.gl.mono a3.le,Nat.le_trans bE.hg a3.nn⟩,rfl⟩
    .exact h.elim
   |seq a c=>
    simp only[cE,Bool.and_eq_true]at hc;simp only[gY]at e;split at e
    .rename_i T2 ut H2 R2 W2 e1;have⟨x1,x2⟩:=Jb e;exact(two (sc2:=none) (dS eB _ _ _ _ _ _ _ _ _ _ _ _ _ _ e1).1 (ih none a T ds H _ _ _ _ _ _ e1 hc.1 (fun _ h=>by cases h) p tm iC w (.code c::k) mP bE (fun r a c=>hn r a (by omega)) x2) rfl e hc.2 fun _ h=>by cases h).of_steps (.one cV)
    .rename_i iX;obtain⟨br,j6,w',q,todo,g1,g2,g3,g4⟩:=ih none a T ds H _ _ _ _ _ _ e hc.1 (fun _ h=>by cases h) p tm iC w (.code c::k) mP bE hn hF;cases j with
     |none=>exact absurd e (iX _ _ _ _ _)
     |some c2=>exact⟨br,j6,w',q,todo,.head cV g1,g2,g3,g4.pass (c:=c2) (x:=.code c) rfl rfl⟩
   |cond x a c=>
    simp only[cE,Bool.and_eq_true]at hc;simp only[gY]at e;split at e<;>try(cases e;done)
    rename_i t ht;have hE:=(I5 (b:=b) (ds:=iC) (k:=.code (.cond x a c)::k) bE.gl bE.tr).at hc.1.1
    have hx:(a8 b tm iC (.code (.cond x a c)::k)).eval x=.bool t:=by
     rw[ht]at hE;generalize(a8 b tm iC (.code (.cond x a c)::k)).eval x=y at hE;cases hE;rfl
    refine BN.of_steps (.one (jM hx)) ?_;rw[show(if t=true then a else c)=(bif t then a else c) by cases t<;>rfl];exact ih none _ T ds H _ _ _ _ _ _ e (by cases t;exact hc.2;exact hc.1.2) (fun _ h=>by cases h) p tm iC w k mP bE hn hF
   |block id a=>
    simp only[gY]at e;split at e
    .rename_i i T2 ut H2 R2 W2 e1;cases hb:Nat.beq i id<;>rw[hb]at e<;>simp only[cond_true,cond_false,Option.some.injEq,Prod.mk.injEq]at e<;>obtain⟨rfl,rfl,rfl,rfl,rfl,rfl⟩:=e
     .obtain⟨br,j6,w',q,todo,g1,g2,g3,k2,g4,g5⟩:=ih none a T ds H _ _ _ _ _ _ e1 hc (fun _ h=>by cases h) p tm iC w (.inBlock id::k) mP bE hn hF;refine⟨br,j6,w',q,todo,.head lh g1,g2,g3,k2,g4,g5.trans ?_⟩;show(if id==i then some k else exitTo i k)=_;rw[if_neg];intro h;have:id=i:=by simpa using h
      subst this;rw[Nat.beq_refl]at hb;cases hb
     .have:i=id:=Nat.eq_of_beq_eq_true hb;subst this;obtain⟨br,j6,w',q,todo,g1,g2,g3,k2,rfl,g5⟩:=ih none a T ds H _ _ _ _ _ _ e1 hc (fun _ h=>by cases h) p tm iC w (.inBlock i::k) mP bE hn hF;refine⟨br,j6,w',q,k,.head lh (g1.trans (.one (EF ?_))),g2,g3,rfl⟩;rw[g5];show(if i==i then some k else exitTo i k)=_;simp
    .rename_i iX;obtain⟨br,j6,w',q,todo,g1,g2,g3,g4⟩:=ih none a T ds H _ _ _ _ _ _ e hc (fun _ h=>by cases h) p tm iC w (.inBlock id::k) mP bE hn hF;cases j with
     |none=>
      have g4:todo=_:=g4;subst g4;exact⟨br,j6,w',q,k,.head lh (g1.trans (.one wI)),g2,g3,rfl⟩
     |some c2=>
      refine⟨br,j6,w',q,todo,.head lh g1,g2,g3,?_⟩;cases c2<;>try exact g4
      exact absurd e (iX _ _ _ _ _ _)
   |loop a=>
    simp only[gY]at e;split at e
    .rename_i T2 ut H2 R2 W2 e1;have⟨x1,x2⟩:=Jb e;obtain⟨R3,W3,e3,rfl,rfl⟩:=iL e;obtain⟨br,j6,w',q,todo,g1,g2,g3,g4⟩:=ih none a T ds H _ _ _ _ _ _ e1 hc (fun _ h=>by cases h) p tm iC w (.inLoop a::k) mP bE (fun r a c=>hn r a (by omega)) x2;have g4:todo=_:=g4;subst g4;obtain⟨fY,EM,w2,q2,qB,k1,k2,k3,k4⟩:=ih none (.loop a) T2 ut H2 j T1 fg H1 R3 W3 e3 hc (fun _ h=>by cases h) q br j6 w' k (mP.mono g2.le) g3 (aZ hn g2) (bK hF);refine⟨fY,EM,w2,q2,qB,.head se (g1.trans (.head zC (wO k1 se fun hm=>?_))),g2.or k2,k3,k4⟩
     have h1:(a8 b br j6 (.code (.loop a)::k)).todo=(a8 b fY EM qB).todo:=by
      have:=congrArg (fun m:Machine=>(m.gs[0]?).map fun g=>g.frame.todo) hm;simpa [lone]using this
     have h1:.code (.loop a)::k=qB:=h1;cases j with
     |none=>
      have k4:qB=k:=k4;have:=congrArg List.length (h1.trans k4);simp at this
     |some c=>
      cases c<;>try exact k4.elim
      all_goals(obtain⟨k9,k5⟩:=k4;first|(rw[<-h1]at k5;simp at k5;done)|(rw[<-h1]at k5;have k6:=k5.1;simp at k6;done))
    .rename_i iX;obtain⟨br,j6,w',q,todo,g1,g2,g3,g4⟩:=ih none a T ds H _ _ _ _ _ _ e hc (fun _ h=>by cases h) p tm iC w (.inLoop a::k) mP bE hn hF;cases j with
     |none=>exact absurd e (iX _ _ _ _ _)
     |some c2=>exact⟨br,j6,w',q,todo,.head se g1,g2,g3,g4.pass (c:=c2) (x:=.inLoop a) rfl rfl⟩
   |scope a=>
    simp only[gY]at e;exact(ih (some a) a T ds H _ _ _ _ _ _ e hc (fun x h=>by cases h;exact hc) p tm iC w k mP bE hn hF).of_steps (.one BC)
   |rangeFunc f params assign body=>
    simp only[cE,Bool.and_eq_true]at hc;simp only[gY]at e;exact zJ hk eB e hc.1.1 hc.1.2 hc.2 hS mP bE hn hF
end
def pN (b:Frame) (tm:Array Value) (ds:List Deferred) (todo:List Item):Frame:={a8 b tm ds todo with mode:=.returning}
section
variable {P:Program} {b:Frame} {tm:Array Value} {ds:List Deferred} {todo:List Item} {cs:List Frame} {w:World}
theorem qC {fr Me:Frame} {fA:List Frame} {w':World} (hm:fr.mode=.returning) (h:(unwind P true fr cs none w).bare=.go {frame:=Me,callers:=fA,status:=.running,dying:=none} w'):
 step P (lone fr cs w)=.next (lone Me fA w'):=by
 refine step_lone_go ?_;rw[<-h];obtain⟨fn,tmps,todo,ds,mode,kind,ro⟩:=fr;simp only at hm;subst hm;rfl
theorem EN (h:(Instr.takeDeferred r).run P w=.ok [] w1):step P (lone (pN b tm ({target:=.collected r,args}::ds) todo) cs w)=.next (lone (pN b tm ds todo) cs w1):=by
 refine qC rfl ?_;unfold unwind;simp only[pN,a8,Sem.runT_eq,h,GStep.bare_after];rfl
theorem mh (hf:P.funcs[b.fn]?=some fn) (Ms:b.kind=.normal) (h:(results fn tm).run P w=.ok v w1) (c:Frame):step P (lone (pN b tm [] todo) (c::cs) w)=.next (lone (c.finish v) cs w1):=by
 refine qC rfl ?_;unfold unwind;simp only[pN,a8,hf,Sem.runT_eq,h,GStep.bare_after];unfold doReturn;simp only[Ms];rfl
theorem jx (hj:us j=true) (h:Ends j [] todo) (mP:b.roundOf=none):step P (lone (a8 b tm ds todo) cs w)=.next (lone (pN b tm ds todo) cs w):=by
 refine bg rfl ?_;cases j with
 |none=>
  have h:todo=[]:=h;subst h;rw[Go.aB.dk true rfl,Go.aB.gz true (f:=a8 b tm ds _) mP];rfl
 |some c=>
  cases c<;>try(cases hj;done)
  obtain⟨k2,rfl⟩:=h;rw[Go.aB.dm true rfl,Go.aB.gz true (f:=a8 b tm ds _) mP];rfl
theorem pO (h:Ends j [] todo) (mP:b.roundOf=some l) (Ms:b.kind=.normal) (hr:(Instr.endRound l j).run P w=.ok v w1) (c:Frame):
 step P (lone (a8 b tm ds todo) (c::cs) w)=.next (lone (c.finish v) cs w1):=by
 have fin:(Go.aB.fh P true (a8 b tm ds todo) (c::cs) j w).bare=.go {frame:=c.finish v,callers:=cs,status:=.running,dying:=none} w1:=by
  rw[Go.aB.gA true (f:=a8 b tm ds todo) mP,GStep.bare_after];simp only[Sem.runT_eq,hr];unfold doReturn;simp only[a8,Ms];rfl
 refine bg rfl ?_;cases j with
 |none=>
  have h:todo=[]:=h;subst h;rw[Go.aB.dk true rfl];exact fin
 |some c=>
  cases c<;>try exact h.elim
  .obtain⟨k2,rfl,h2⟩:=h;rw[Go.aB.cZ true rfl,h2];exact fin
  .obtain⟨k2,rfl,h2⟩:=h;rw[Go.aB.da true rfl,h2];exact fin
  .obtain⟨k2,rfl⟩:=h;rw[Go.aB.dm true rfl];exact fin
end
def wP (P:Program) (S ex:Nat->Bool):Prop:=∀(f:Nat) (fn:Func) (body:Code),S f=true->ex f=false->P.funcs[f]?=some fn->fn.body=some body->cE P S body=true
section
variable {P:Program} {S:Nat->Bool} {Fp:Nat->Prop} {b:Frame} {cs:List Frame} {ce:Next->Hp->Rs Value}
theorem oE {todo:List Item} {tm:Array Value}:∀(ds:List Deferred) {H H1:Hp} {R W:Nat} {p:Pi} {iC:List Deferred} {w:World},gM P ds H=some ((),H1,R,W)->DL p ds iC->Rl P S (cK P S) p H.get Fp w->P.globals.size<=H.n->
 (∀r,H.n<=r->r<H1.n->∀r',¬p r r')->(∀r,(R.testBit r=true\/W.testBit r=true)->Fp r)->
 ∃w1 q,Steps P (lone (pN b tm iC todo) cs w) (lone (pN b tm [] todo) cs w1)/\Mv (fun r=>W.testBit r=true) p H.n w q H1.n w1/\Rl P S (cK P S) q H1.get Fp w1
 | [],H,H1,R,W,p,iC,w,e,hd,hr,hg,hn,hF=>by
   cases hd;simp only[gM,Option.some.injEq,Prod.mk.injEq,true_and]at e;obtain⟨rfl,rfl,rfl⟩:=e;exact⟨w,p,.refl _ _,Mv.refl _ _ _ _,hr⟩
 |d::ds,H,H1,R,W,p,iC,w,e,hd,hr,hg,hn,hF=>by
  cases hd with
  | @cons _ l' r r' h t=>
    simp only[gM]at e;split at e<;>try(cases e;done)
    rename_i x Ha Ra Wa e1;split at e<;>try(cases e;done)
    rename_i y Hb Rb Wb e2;simp only[Option.some.injEq,Prod.mk.injEq,true_and]at e;obtain⟨rfl,rfl,rfl⟩:=e;have n1:=(be P _ e1).nn;have n2:=(fX _ _ _ _ _ e2).nn;obtain⟨a',w1,q1,a1,⟨_,rfl⟩,a3,a4⟩:=eP (SR.takeDeferred h) e1 hr hg (fun r x y=>hn r x (by omega)) (dU hF);obtain⟨w2,q2,b1,b2,b3⟩:=oE ds e2 (t.mono a3.le) a4 (by omega) (aZ hn a3) (bK hF);exact⟨w2,q2,.head (EN a1) b1,a3.or b2,b3⟩
theorem mS (l:List Value) (n:Nat) (x:Nat):bt (l++List.replicate n undef) x=bt l x:=by
 induction l generalizing x with
 |nil=>
  have:∀(n x:Nat),bt (List.replicate n undef) x=undef:=by
   intro n;induction n with
   |zero=>intro x;rfl
   |succ n ih=>intro x;cases x with
    |zero=>rfl
    |succ x=>exact ih x
  rw[List.nil_append,this];rfl
 |cons y l ih=>cases x with
  |zero=>rfl
  |succ x=>exact ih x
theorem mT (a:Array Value) (x:Nat):bt a.toList x=a.getD x undef:=by
 rw[Array.getD_eq_getD_getElem?,<-Array.getElem?_toList];generalize a.toList=l;induction l generalizing x with
 |nil=>rfl
 |cons y l ih=>cases x with
  |zero=>rfl
  |succ x=>simpa [bt]using ih x
theorem jy {p:Pi} (h:AR S p args bm) (n:Nat):
 (bm++Array.replicate (n-bm.size) undef).size=(args.toList++List.replicate (n-args.size) undef).length/\
 ∀x,VR S p (bt (args.toList++List.replicate (n-args.size) undef) x) ((bm++Array.replicate (n-bm.size) undef).getD x undef):=by
 refine⟨by simp[h.1],fun x=>?_⟩;rw[mS,mT]
 have:(bm++Array.replicate (n-bm.size) undef).getD x undef=bm.getD x undef:=by
  rw[Array.getD_eq_getD_getElem?,Array.getD_eq_getD_getElem?];rcases Nat.lt_or_ge x bm.size with hx|hx
  .rw[Array.getElem?_append_left hx]
  .rw[Array.getElem?_append_right hx,Array.getElem?_eq_none hx,Array.getElem?_replicate];split<;>rfl
 rw[this];exact h.getD x VR.undef
theorem Jc (hk:Ok P P.funcs S) (hB:wP P S ex) (eB:gX P S (cK P S) (fun _ _=>False) ce) (e:wM P (dB P) ce n f args H=some (v,H1,R,W)) (hS:S f=true) (hx:ex f=false)
 {p:Pi} {w:World} (ha:AR S p args bm) (hr:Rl P S (cK P S) p H.get Fp w) (hG:uj P S p) (hg:P.globals.size<=H.n) (hn:∀r,H.n<=r->r<H1.n->∀r',¬p r r') (hF:∀r,(R.testBit r=true\/W.testBit r=true)->Fp r) (fr:Frame):
 ∃v' w1 q,Steps P (lone (Frame.enter P f bm .normal) (fr::cs) w) (lone (fr.finish v') cs w1)/\VR S q v v'/\Mv (fun r=>W.testBit r=true) p H.n w q H1.n w1/\Rl P S (cK P S) q H1.get Fp w1:=by
 unfold wM at e;split at e<;>try(cases e;done)
 rename_i fn pP;split at e<;>try(cases e;done)
 rename_i body io;split at e<;>try(cases e;done)
 rename_i j T1 fg Ha Ra Wa e1;cases hj:us j<;>rw[hj]at e<;>simp only[cond_true,cond_false]at e
 .cases e
 split at e<;>try(cases e;done)
 rename_i u Hb Rb Wb e2;split at e<;>try(cases e;done)
 rename_i x Hc Rc Wc e3;simp only[Option.some.injEq,Prod.mk.injEq]at e;obtain⟨rfl,rfl,rfl,rfl⟩:=e;have f1:=dS eB _ _ _ _ _ _ _ _ _ _ _ _ _ _ e1;have n1:=f1.1.nn;have n2:=(fX _ _ _ _ _ e2).nn;have n3:=(be P _ e3).nn;let b0:Frame:=Frame.enter P f bm .normal
 have Mt:lone (Frame.enter P f bm .normal) (fr::cs) w=lone (a8 b0 (bm++Array.replicate (fn.ntmps-bm.size) undef) [] [.code body]) (fr::cs) w:=by
  simp[b0,a8,Frame.enter,pP,io]
 rw[Mt];obtain⟨s1,s2⟩:=jy ha fn.ntmps;obtain⟨br,j6,w1,q1,todo,a1,a2,a3,a4⟩:=jw (b:=b0) (cs:=fr::cs) hk eB none hS n none body _ [] H j T1 fg Ha Ra Wa e1 (hB f fn body hS hx pP io) (fun _ h=>by cases h) p _ [] w [] .none ⟨s1,hr,s2,.nil,hG,hg⟩ (fun r x y=>hn r x (by omega)) (dU hF);have tp:=aZ hn a2;obtain⟨w2,q2,b1,b2,b3⟩:=oE (b:=b0) (cs:=fr::cs) (todo:=todo) (tm:=br) fg e2 a3.dl a3.rl (by omega) (fun r x y=>tp r x (by omega)) (dU (bK hF));have vC:=aZ tp b2;obtain⟨v',w3,q3,c1,c2,c3,c4⟩:=eP (SR.results (fn:=fn) (gq:=fn) rfl (eY a3.sz fun x=>(a3.tr x).mono b2.le)) e3 b3 (by omega) vC (bK (bK hF));exact⟨v',w3,q3,a1.trans (.head (jx hj a4 rfl) (b1.trans (.one (mh (b:=b0) pP rfl c1 fr)))),c2,a2.or (b2.or c3),c4⟩
theorem zL (hk:Ok P P.funcs S) (eB:gX P S (cK P S) (fun _ _=>False) ce) {l':Nat} {nW:Array Value} (e:lx P (dB P) ce n l f tmps assign body H=some (v,H1,R,W)) (hS:S f=true) (Qn:cE P S assign=true) (Qo:cE P S body=true)
 {p:Pi} {w:World} (hl:p l l') (ha:AR S p tmps nW) (hr:Rl P S (cK P S) p H.get Fp w) (hG:uj P S p) (hg:P.globals.size<=H.n) (hn:∀r,H.n<=r->r<H1.n->∀r',¬p r r') (hF:∀r,(R.testBit r=true\/W.testBit r=true)->Fp r) (fr:Frame):
 ∃v' w1 q,Steps P (lone (Frame.round l' f nW assign body .normal) (fr::cs) w) (lone (fr.finish v') cs w1)/\VR S q v v'/\Mv (fun r=>W.testBit r=true) p H.n w q H1.n w1/\Rl P S (cK P S) q H1.get Fp w1:=by
 unfold lx at e;split at e<;>try(cases e;done)
 rename_i T1 fg Ha Ra Wa e1;split at e<;>try(cases e;done)
 rename_i u Hb Rb Wb e2;split at e<;>try(cases e;done)
 rename_i j T3 OJ Hc Rc Wc e3;split at e<;>try(cases e;done)
 rename_i x Hd Rd Wd e4;simp only[Option.some.injEq,Prod.mk.injEq]at e;obtain⟨rfl,rfl,rfl,rfl⟩:=e;have n1:=(dS eB _ _ _ _ _ _ _ _ _ _ _ _ _ _ e1).1.nn;have n2:=(be P _ e2).nn;have n3:=(dS eB _ _ _ _ _ _ _ _ _ _ _ _ _ _ e3).1.nn;have n4:=(be P _ e4).nn;let b0:Frame:=Frame.round l' f nW assign body .normal
 have s2:∀x,VR S p (bt tmps.toList x) (nW.getD x undef):=fun x=>by rw[mT];exact ha.getD x VR.undef
 obtain⟨eZ,Qp,w1,q1,Mw,a1,a2,a3,a4⟩:=jw (b:=b0) (cs:=fr::cs) hk eB (some l) hS n none assign _ [] H none T1 fg Ha Ra Wa e1 Qn (fun _ h=>by cases h) p nW [] w [.beginRound,.code body] (.some hl) ⟨by simp[ha.1],hr,s2,.nil,hG,hg⟩ (fun r x y=>hn r x (by omega)) (dU hF);have a4:Mw=_:=a4;subst a4;have tp:=aZ hn a2;obtain⟨u',w2,q2,b1,b2,b3,b4⟩:=eP (SR.beginRound (a2.le _ _ hl)) e2 a3.rl (by omega) (fun r x y=>tp r x (by omega)) (dU (bK hF));have vC:=aZ tp b3;obtain⟨mi,Ws,w3,q3,Uc,c1,c2,c3,c4⟩:=jw (b:=b0) (cs:=fr::cs) hk eB (some l) hS n none body _ fg Hb j T3 OJ Hc Rc Wc e3 Qo (fun _ h=>by cases h) q2 eZ Qp w2 [] (.some (b3.le _ _ (a2.le _ _ hl))) ⟨a3.sz,b4,fun x=>(a3.tr x).mono b3.le,a3.dl.mono b3.le,a3.gl.mono b3.le,by omega⟩ (fun r x y=>vC r x (by omega)) (dU (bK (bK hF)));have KZ:=aZ vC c2
 have hj:∀c,j=some c->cE P S c=true:=fun c hc=>by
  subst hc;cases c<;>first|rfl|exact c4.elim
 obtain⟨v',w4,q4,d1,d2,d3,d4⟩:=eP (SR.endRound (K:=cK P S) (c2.le _ _ (b3.le _ _ (a2.le _ _ hl))) j hj) e4 c3.rl (by omega) KZ (bK (bK (bK hF)));exact⟨v',w4,q4,a1.trans (.head (pM (b:=b0) rfl b1) (c1.trans (.one (pO (b:=b0) c4 rfl rfl d1 fr)))),d2,a2.or (b3.or (c2.or d3)),d4⟩
theorem wQ (hk:Ok P P.funcs S) (hB:wP P S ex):∀n,gX P S (cK P S) (fun _ _=>False) (Mp P ex n):=by
 intro n;induction n with
 |zero=>exact⟨fun nx H v H1 R W e=>by simp[Mp,ny]at e,fun nx H v H1 R W e=>by simp[Mp,ny]at e⟩
 |succ n ih=>
  refine⟨fun nx H v H1 R W e=>?_,fun nx H v H1 R W e p Fp w px fr cs AQ hr hG hg hn hF=>?_⟩
  .cases nx<;>simp only[Mp,ny]at e<;>try(cases e;done)
   .rename_i f args;cases hx:ex f<;>rw[hx]at e<;>simp only[cond_true,cond_false]at e
    .exact yt ih e
    .cases e
   .exact oD ih e
  .cases AQ<;>simp only[Mp,ny]at e<;>try(cases e;done)
   .rename_i f xs aQ hS ha;cases hx:ex f<;>rw[hx]at e<;>simp only[cond_true,cond_false]at e;rotate_left
    .cases e
    obtain⟨v',w1,q,a1,a2,a3,a4⟩:=Jc (cs:=cs) hk hB ih e hS hx ha hr hG hg hn hF fr;refine .inl ⟨_,v',w1,rfl,a1,q,a2,a3,a4.mono fun r x=>?_⟩;rcases x with x|⟨x,y⟩
    .exact x
    .exact hF r (.inr ((yt ih e).nw r x y))
   .rename_i l l' f xs aQ a c hl hf ha Qn Qo _;obtain⟨v',w1,q,a1,a2,a3,a4⟩:=zL (cs:=cs) hk ih e hf Qn Qo hl ha hr hG hg hn hF fr;refine .inl ⟨_,v',w1,rfl,a1,q,a2,a3,a4.mono fun r x=>?_⟩;rcases x with x|⟨x,y⟩
    .exact x
    .exact hF r (.inr ((oD ih e).nw r x y))
end
end Go.Ev
