/- A part. Conditions: none. -/
import Derived.Test.YtddlcmejelobdaaGreatDoorT02
set_option linter.all false
namespace Go.aC
variable {G W2:Nat->Prop} {H1 H2:Nat->Option Obj} {R R1 W W1 m n n1 r r' sc size sl:Nat} {a a':Addr} {c y:Code} {e t:a00} {fr:Frame} {fz:Nat×Nat} {i:TypeInfo} {k':List Item} {nx:Next} {o o' o0 o1:Obj} {ops:Array Oper} {q s:Pi} {rest:List Nat} {ts:Array a00} {v x x' z:fu} {w1 w2:nq} {xs:Array fu} {α β:Type}
inductive Tr where
 |leaf
 |node (v:Option Obj) (l r:Tr)
def Tr.get:Tr->Nat->Option Obj
 |.leaf,_=>none
 |.node v l r,n=>bif Nat.beq n 0 then v else bif Nat.beq (n%2) 1 then l.get (n/2)else r.get (n/2-1)
def Tr.set:Nat->Tr->Nat->Option Obj->Tr
 |0,t,_,_=>t
 |f+1,.leaf,n,o=>bif Nat.beq n 0 then .node o .leaf .leaf else bif Nat.beq (n%2) 1 then .node none (Tr.set f .leaf (n/2) o) .leaf else .node none .leaf (Tr.set f .leaf (n/2-1) o)
 |f+1,.node v l r,n,o=>bif Nat.beq n 0 then .node o l r else bif Nat.beq (n%2) 1 then .node v (Tr.set f l (n/2) o) r else .node v l (Tr.set f r (n/2-1) o)
def zdU (h:n=0):Nat.beq n 0=true:=by subst h;rfl
def iT (h:n≠m):Nat.beq n m=false:=by
 cases hx:Nat.beq n m with
 |false=>rfl
 |true=>exact absurd (zAK hx) h
def Jw (h:n=m):Nat.beq n m=true:=by subst h;exact Nat.beq_refl n
def Tr.nD:∀(f:Nat) (t:Tr) (n:Nat) (o:Option Obj) (m:Nat),n<f->(t.set f n o).get m=if m=n then o else t.get m
 |0,_,_,_,_,h=>absurd h (zEG _)
 |f+1,t,n,o,m,h=>by
  have ih:=Tr.nD f;by_cases n0:n=0
  .subst n0;cases t<;>simp only[Tr.set,zdU,zAS]
   .by_cases hm:m=0
    .subst hm;simp[Tr.get]
    .simp only[Tr.get,iT hm,zAQ,hm,zBJ];cases Nat.beq (m%2) 1<;>rfl
   .by_cases hm:m=0
    .subst hm;simp[Tr.get]
    .simp only[Tr.get,iT hm,zAQ,hm,zBJ]
  .by_cases n1:n%2=1
   .have e1:=ih (.leaf) (n/2) o (m/2) (by omega);cases t with
    |leaf=>
     simp only[Tr.set,iT n0,zAQ,Jw n1,zAS];by_cases hm:m=0
     .subst hm;have:¬0=n:=by omega
      simp[Tr.get,this]
     .by_cases m1:m%2=1
      .simp only[Tr.get,iT hm,zAQ,Jw m1,zAS,ih _ (n/2) o (m/2) (by omega)];by_cases e:m=n
       .simp[e]
       .have:¬m/2=n/2:=by omega
        simp[e,this]
      .have:¬m=n:=by intro e;subst e;exact m1 n1
       simp only[Tr.get,iT hm,zAQ,iT m1,this,zBJ]
    |node v l r=>
     simp only[Tr.set,iT n0,zAQ,Jw n1,zAS];by_cases hm:m=0
     .subst hm;have:¬0=n:=by omega
      simp[Tr.get,this]
     .by_cases m1:m%2=1
      .simp only[Tr.get,iT hm,zAQ,Jw m1,zAS,ih _ (n/2) o (m/2) (by omega)];by_cases e:m=n
       .simp[e]
       .have:¬m/2=n/2:=by omega
        simp[e,this]
      .have:¬m=n:=by intro e;subst e;exact m1 n1
       simp only[Tr.get,iT hm,zAQ,iT m1,this,zBJ]
   .cases t with
    |leaf=>
     simp only[Tr.set,iT n0,zAQ,iT n1];by_cases hm:m=0
     .subst hm;have:¬0=n:=by omega
      simp[Tr.get,this]
     .by_cases m1:m%2=1
      .have:¬m=n:=by intro e;subst e;exact n1 m1
       simp only[Tr.get,iT hm,zAQ,Jw m1,zAS,this,zBJ]
      .simp only[Tr.get,iT hm,zAQ,iT m1,ih _ (n/2-1) o (m/2-1) (by omega)];by_cases e:m=n
       .simp[e]
       .have:¬m/2-1=n/2-1:=by omega
        simp[e,this]
    |node v l r=>
     simp only[Tr.set,iT n0,zAQ,iT n1];by_cases hm:m=0
     .subst hm;have:¬0=n:=by omega
      simp[Tr.get,this]
     .by_cases m1:m%2=1
      .have:¬m=n:=by intro e;subst e;exact n1 m1
       simp only[Tr.get,iT hm,zAQ,Jw m1,zAS,this,zBJ]
      .simp only[Tr.get,iT hm,zAQ,iT m1,ih _ (n/2-1) o (m/2-1) (by omega)];by_cases e:m=n
       .simp[e]
       .have:¬m/2-1=n/2-1:=by omega
        simp[e,this]
structure Hp where
 n:Nat
 t:Tr
def Hp.get (H:Hp) (r:Nat):Option Obj:=H.t.get r
def Hp.put (H:Hp) (r:Nat) (o:Option Obj):Hp:=⟨H.n,H.t.set (r+1) r o⟩
def Hp.push (H:Hp) (o:Obj):Hp:=⟨H.n+1,H.t.set (H.n+1) H.n (some o)⟩
def Hp.get_put (H:Hp) (r:Nat) (o:Option Obj) (m:Nat):(H.put r o).get m=if m=r then o else H.get m:=Tr.nD _ _ _ _ _ (zCE r)
def Hp.kG (H:Hp) (o:Obj) (m:Nat):(H.push o).get m=if m=H.n then some o else H.get m:=Tr.nD _ _ _ _ _ (zCE _)
abbrev Rs (α:Type):=Option (α×Hp×Nat×Nat)
def Ch (b:Nat):Rs α->Rs α
 |some (a,H,R,W)=>some (a,H,R|||2^b,W)
 |none=>none
def Ci (b:Nat):Rs α->Rs α
 |some (a,H,R,W)=>some (a,H,R,W|||2^b)
 |none=>none
def ib {b:Nat} {x:Rs α} {a:α} {H:Hp} (h:Ch b x=some (a,H,R,W)):∃R0,x=some (a,H,R0,W)/\R=R0|||2^b:=by
 cases x with
 |none=>cases h
 |some y=>obtain⟨a1,H1,R1,W1⟩:=y;simp only[Ch,zAA,zAH]at h;obtain⟨rfl,rfl,rfl,rfl⟩:=h;exact⟨_,rfl,rfl⟩
def jd {b:Nat} {x:Rs α} {a:α} {H:Hp} (h:Ci b x=some (a,H,R,W)):∃W0,x=some (a,H,R,W0)/\W=W0|||2^b:=by
 cases x with
 |none=>cases h
 |some y=>obtain⟨a1,H1,R1,W1⟩:=y;simp only[Ci,zAA,zAH]at h;obtain⟨rfl,rfl,rfl,rfl⟩:=h;exact⟨_,rfl,rfl⟩
def aF (P:un):Sem α->Hp->Rs α
 |.pure a,H=>some (a,H,0,0)
 |.load _ a k,H=>match H.get a.block with
  |some (.cells c _ _)=>match a.spot with
   |none=>match c[a.off]? with
    |some v=>Ch a.block (aF P (k v) H)
    |none=>none
   |some _=>none
  |_=>none
 |.store _ a v k,H=>bif dY v then match H.get a.block with
    |some (.cells c e fz)=>match a.spot with
     |none=>bif Nat.blt a.off c.size&&!(Nat.ble fz.1 a.off&&Nat.blt a.off fz.2)then Ci a.block (aF P k (H.put a.block (some (.cells (c.setIfInBounds a.off v) e fz))))else none
     |some _=>none
    |_=>none
  else none
 |.new o k,H=>Ci H.n (aF P (k H.n) (H.push o))
 |.getObj r k,H=>match H.get r with
  |some (.cells ..)=>none
  |some o=>Ch r (aF P (k o) H)
  |none=>none
 |.setObj r o k,H=>match H.get r with
  |some (.cells ..)=>none
  |some _=>Ci r (aF P k (H.put r (some o)))
  |none=>none
 |.program k,H=>aF P (k P) H
 |.mark m k,H=>match m with
  |.noRoom=>aF P k H
  |_=>none
 |.shape ..,_|.freeze ..,_|.frozen ..,_|.choose ..,_|.sys ..,_|.halt _,_=>none
def uJ {P:un}:∀(s:Sem α),dZ P s->∀H,aF P s H=none:=by
 intro s;induction s with
 |pure a=>intro h;exact h.elim
 |load m a k ih=>
  intro h H;simp only[aF];split<;>try rfl
  split<;>try rfl
  split<;>try rfl
  rw[ih _ (h _)];rfl
 |store m a v k ih=>
  intro h H;simp only[aF];cases dY v<;>simp only[zAS,zAQ];split<;>try rfl
  split<;>try rfl
  rw[ih h];cases(Nat.blt _ _&&_)<;>rfl
 |new o k ih=>intro h H;simp only[aF];rw[ih _ (h _)];rfl
 |shape r k ih=>intro h H;rfl
 |freeze a n k ih=>intro h H;rfl
 |frozen a k ih=>intro h H;rfl
 |getObj r k ih=>
  intro h H;simp only[aF];split<;>try rfl
  rw[ih _ (h _)];rfl
 |setObj r o k ih=>
  intro h H;simp only[aF];split<;>try rfl
  rw[ih h];rfl
 |choose q k ih=>intro h H;rfl
 |sys c k ih=>intro h H;rfl
 |program k ih=>intro h H;exact ih P h H
 |mark m k ih=>
  intro h H;simp only[aF];split
  .exact ih h H
  .rfl
 |halt x=>intro h H;rfl
def P2 (P:un) (e:a00):Nat:=((P.info? e).map (·.size)).getD 1
def Room (P:un) (o o':Obj) (k:Nat):Prop:=∃c e fz c' fU,o=.cells c e fz/\o'=.cells c' e fU/\c'.size=c.size+k*P2 P e/\(c.size=0\/k+1<2^63)/\fz≠(0,0)
structure Rl (P:un) (S:Nat->Bool) (K:Kz) (p:Pi) (H:Nat->Option Obj) (F:Nat->Prop) (w:nq):Prop where
 blk:∀r,F r->∀o,H r=some o->∃r' o',p r r'/\w.heap[r']?=some o'/\OR S K p o o'/\(∀k,p.x r k->Room P o o' k)/\((∃k,p.x r k)\/jk o o')
 inj:∀r s r',F r->F s->(H r).isSome->(H s).isSome->p r r'->p s r'->r=s
 lt:∀r r',p r r'->r'<w.heap.size
 xm:∀r k,p.x r k->∃r',p r r'
 ok:pC P p
 gE:P.globals.size<=w.heap.size
 lx:p.l=true
structure Mv (W:Nat->Prop) (p:Pi) (n:Nat) (w:nq) (q:Pi) (n1:Nat) (w1:nq):Prop where
 le:Le p q
 nn:n<=n1
 new:∀r r',q r r'->p r r'\/(n<=r/\r<n1/\(w.heap.size<=r'\/∃s,W s/\p s r'))
 zR:∀r k,q.x r k->p.x r k\/(n<=r/\r<n1)
 size:w.heap.size<=w1.heap.size
 keep:∀r',r'<w.heap.size->(∀r,W r->¬p r r')->w1.heap[r']?=w.heap[r']?
def Mv.refl (W:Nat->Prop) (p:Pi) (n:Nat) (w:nq):Mv W p n w p n w:=⟨Le.refl p,zAB n,λ_ _ h=>.inl h,λ_ _ h=>.inl h,zAB _,λ_ _ _=>rfl⟩
def Mv.trans {W1 W:Nat->Prop} {p:Pi} {n2:Nat} {w:nq} (h:Mv W1 p n w q n1 w1) (k:Mv W2 q n1 w1 s n2 w2) (h1:∀r,W1 r->W r) (h2:∀r,W2 r->W r):Mv W p n w s n2 w2:=by
 have hn:=h.nn;have kn:=k.nn;refine⟨h.le.trans k.le,zAP h.nn k.nn,λr r' x=>?_,λr j x=>?_,zAP h.size k.size,λr' sb hW=>?_⟩
 .rcases k.new r r' x with x|⟨a1,a2,a3⟩
  .rcases h.new r r' x with x|⟨b1,b2,b3⟩
   .exact .inl x
   .exact .inr ⟨b1,by omega,b3.imp id λ⟨u,c1,c2⟩=>⟨u,h1 u c1,c2⟩⟩
  .refine .inr ⟨by omega,a2,?_⟩;rcases a3 with a3|⟨u,c1,c2⟩
   .exact .inl (zAP h.size a3)
   .rcases h.new u r' c2 with y|⟨_,_,y|⟨v,d1,d2⟩⟩
    .exact .inr ⟨u,h2 u c1,y⟩
    .exact .inl y
    .exact .inr ⟨v,h1 v d1,d2⟩
 .rcases k.zR r j x with x|⟨a1,a2⟩
  .rcases h.zR r j x with x|⟨b1,b2⟩
   .exact .inl x
   .exact .inr ⟨b1,by omega⟩
  .exact .inr ⟨by omega,a2⟩
 .rw[k.keep r' (zAY sb h.size) λr hr x=>?_,h.keep r' sb λr hr=>hW r (h1 r hr)];rcases h.new r r' x with y|⟨_,_,y|⟨v,d1,d2⟩⟩
  .exact hW r (h2 r hr) y
  .omega
  .exact hW v (h1 v d1) d2
def Mv.mono {W1 W:Nat->Prop} {p:Pi} {w:nq} (h:Mv W1 p n w q n1 w1) (h1:∀r,W1 r->W r):Mv W p n w q n1 w1:=
 (Mv.refl (λ_=>False) p n w).trans h (λ_ x=>x.elim) h1
structure Ft (H:Hp) (R W:Nat) (H1:Hp):Prop where
 nn:H.n<=H1.n
 same:∀r,W.testBit r=false->H1.get r=H.get r
 wr:∀r,W.testBit r=true->(H.n<=r/\r<H1.n)\/(H.get r).isSome
 rd:∀r,R.testBit r=true->(H.n<=r/\r<H1.n)\/(H.get r).isSome
 nw:∀r,H.n<=r->r<H1.n->W.testBit r=true
def Ft.alive {H H1:Hp} (h:Ft H R W H1) (r:Nat) (x:(H1.get r).isSome):(H.n<=r/\r<H1.n)\/(H.get r).isSome:=by
 cases hw:W.testBit r with
 |false=>rw[h.same r hw]at x;exact .inr x
 |true=>exact h.wr r hw
def Ft.refl (H:Hp):Ft H 0 0 H:=⟨zAB _,λ_ _=>rfl,λr h=>by simp at h,λr h=>by simp at h,λr a b=>by omega⟩
def Ft.trans {H H1 H2:Hp} {R2 W2:Nat} (h:Ft H R1 W1 H1) (k:Ft H1 R2 W2 H2):Ft H (R1|||R2) (W1|||W2) H2:=by
 have hn:=h.nn;have kn:=k.nn;refine⟨zAP h.nn k.nn,λr x=>?_,λr x=>?_,λr x=>?_,λr a b=>?_⟩
 .rw[zAO,zFF]at x;rw[k.same r x.2,h.same r x.1]
 .rw[zAO,zBM]at x;rcases x with x|x
  .exact(h.wr r x).imp (λ⟨a,b⟩=>⟨a,by omega⟩) id
  .rcases k.wr r x with⟨a,b⟩|y
   .exact .inl ⟨by omega,b⟩
   .exact(h.alive r y).imp (λ⟨a,b⟩=>⟨a,by omega⟩) id
 .rw[zAO,zBM]at x;rcases x with x|x
  .exact(h.rd r x).imp (λ⟨a,b⟩=>⟨a,by omega⟩) id
  .rcases k.rd r x with⟨a,b⟩|y
   .exact .inl ⟨by omega,b⟩
   .exact(h.alive r y).imp (λ⟨a,b⟩=>⟨a,by omega⟩) id
 .rw[zAO,zBM];rcases zCX r H1.n with c|c
  .exact .inl (h.nw r a c)
  .exact .inr (k.nw r c b)
def tb (b r:Nat):(2^b).testBit r=true↔r=b:=by rw[Nat.testBit_two_pow];simp[eq_comm]
def tbf (b r:Nat):(2^b).testBit r=false↔r≠b:=by rw[<-zES,tb]
def Ft.read {H:Hp} {b:Nat} (h:(H.get b).isSome):Ft H (2^b) 0 H:=
 ⟨zAB _,λ_ _=>rfl,λr x=>by simp at x,λr x=>.inr (by rw[tb]at x;subst x;exact h),λr a b=>by omega⟩
def Ft.write {H:Hp} {b:Nat} (h:(H.get b).isSome) (o:Option Obj):Ft H 0 (2^b) (H.put b o):=
 ⟨zAB _,λr x=>by rw[tbf]at x;rw[Hp.get_put,zAG x],λr x=>.inr (by rw[tb]at x;subst x;exact h),λr x=>by simp at x,λr a b=>by simp[Hp.put]at b;omega⟩
def Ft.new (H:Hp) (o:Obj):Ft H 0 (2^H.n) (H.push o):=
 ⟨by simp[Hp.push],λr x=>by rw[tbf]at x;rw[Hp.kG,zAG x],λr x=>.inl (by rw[tb]at x;subst x;simp[Hp.push]),λr x=>by simp at x,λr a b=>by rw[tb];simp[Hp.push]at b;omega⟩
def bF (P:un):∀(s:Sem α) {H:Hp} {a:α} {H1:Hp} {R W:Nat},aF P s H=some (a,H1,R,W)->Ft H R W H1:=by
 intro s;induction s with
 |pure a=>intro H b H1 R W h;simp only[aF,zAA,zAH]at h;obtain⟨rfl,rfl,rfl,rfl⟩:=h;exact Ft.refl _
 |load m a k ih=>
  intro H b H1 R W h;simp only[aF]at h;split at h<;>try(cases h;done)
  rename_i c e fz hg;split at h<;>try(cases h;done)
  split at h<;>try(cases h;done)
  obtain⟨R0,h2,rfl⟩:=ib h;have:=(Ft.read (H:=H) (b:=a.block) (by rw[hg];rfl)).trans (ih _ h2);rw[zFH,zEW]at this;exact this
 |store m a v k ih=>
  intro H b H1 R W h;simp only[aF]at h;cases hc:dY v<;>rw[hc]at h<;>simp only[zAS,zAQ]at h
  .cases h
  split at h<;>try(cases h;done)
  rename_i c e fz hg;split at h<;>try(cases h;done)
  cases hb:(Nat.blt a.off c.size&&!(Nat.ble fz.1 a.off&&Nat.blt a.off fz.2))<;>rw[hb]at h<;>simp only[zAS,zAQ]at h
  .cases h
  obtain⟨W0,h2,rfl⟩:=jd h;have:=(Ft.write (H:=H) (b:=a.block) (by rw[hg];rfl) _).trans (ih h2);rw[zFH,zEW]at this;exact this
 |new o k ih=>
  intro H b H1 R W h;simp only[aF]at h;obtain⟨W0,h2,rfl⟩:=jd h;have:=(Ft.new H o).trans (ih _ h2);rw[zFH,zEW]at this;exact this
 |getObj r k ih=>
  intro H b H1 R W h;simp only[aF]at h;split at h<;>try(cases h;done)
  rename_i o hg;obtain⟨R0,h2,rfl⟩:=ib h;have:=(Ft.read (H:=H) (b:=r) (by rw[hg];rfl)).trans (ih _ h2);rw[zFH,zEW]at this;exact this
 |setObj r o k ih=>
  intro H b H1 R W h;simp only[aF]at h;split at h<;>try(cases h;done)
  rename_i o hg;obtain⟨W0,h2,rfl⟩:=jd h;have:=(Ft.write (H:=H) (b:=r) (by rw[hg];rfl) _).trans (ih h2);rw[zFH,zEW]at this;exact this
 |program k ih=>intro H b H1 R W h;exact ih P h
 |mark m k ih=>
  intro H b H1 R W h;simp only[aF]at h;split at h
  .exact ih h
  .cases h
 |shape r k ih=>intro H b H1 R W h;cases h
 |freeze a n k ih=>intro H b H1 R W h;cases h
 |frozen a k ih=>intro H b H1 R W h;cases h
 |choose q k ih=>intro H b H1 R W h;cases h
 |sys c k ih=>intro H b H1 R W h;cases h
 |halt x=>intro H b H1 R W h;cases h
section
variable {P:un} {F:Array Func} {S:Nat->Bool} {K:Kz} {p:Pi} {H:Nat->Option Obj} {Fp:Nat->Prop} {w:nq}
def Rl.mono (h:Rl P S K p H Fp w) (hG:∀r,G r->Fp r):Rl P S K p H G w:=
 ⟨λr x o e=>h.blk r (hG r x) o e,λr s r' x y=>h.inj r s r' (hG r x) (hG s y),h.lt,h.xm,h.ok,h.gE,h.lx⟩
def Rl.at (h:Rl P S K p H Fp w) (hF:Fp r) (hp:p r r') (ho:H r=some o):∃o',w.heap[r']?=some o'/\OR S K p o o'/\(∀k,p.x r k->Room P o o' k)/\((∃k,p.x r k)\/jk o o'):=by
 obtain⟨r1,o',h1,h2,h3,h4⟩:=h.blk r hF o ho;rw[h.ok.one r r' r1 hp h1];exact⟨o',h2,h3,h4⟩
def OR.rn {c:Array fu} (h:OR S K p (.cells c e fz) o'):∃c' fU,o'=.cells c' e fU/\c.size<=c'.size/\(∀(i:Nat) (v v':fu),c[i]?=some v->c'[i]?=some v'->VR S p v v')/\∀i,i<c.size->fU.1<=i/\i<fU.2->fz.1<=i/\i<fz.2:=by
 cases h with
 |cells e fz hw g=>exact⟨_,_,rfl,Nat.le_of_eq g.1,g.2,λ_ _ h=>h⟩
 |cM _ e fz fU hl hz hs g=>exact⟨_,_,rfl,hl,g,λi hi x=>hz.elim (λh=>⟨by omega,by omega⟩) λh=>absurd x (h.1 i (by omega))⟩
def Rl.cell (h:Rl P S K p H Fp w) (hF:Fp a.block) (ha:iY p a a') {c:Array fu} (hg:H a.block=some (.cells c e fz)) (hs:a.spot=none) (hv:c[a.off]?=some v):
 ∃v',w.cell? a'=some v'/\VR S p v v':=by
 obtain⟨o',h2,h3,_⟩:=h.at hF ha.1 hg;obtain⟨c',fU,rfl,hl,g,_⟩:=h3.rn;have av:=(zAD.1 hv).1;have e':c'[a.off]?=some (c'[a.off]'(by omega)):=zAI (by omega);refine⟨_,?_,g _ _ _ hv e'⟩;unfold World.cell?;rw[h2];simp only;rw[<-ha.2.2,hs,<-ha.2.1];exact e'
def lp (hp:Array Obj) (i j:Nat) (f:Obj->Obj):(hp.modify i f)[j]?=if i=j then(hp[j]?).map f else hp[j]?:=by
 rw[zDD]
def Rl.upd (h:Rl P S K p H Fp w) (hF:Fp r) (hp:p r r') (hg:H r=some o0) (sZ:OR S K p o o1) (Cj:∀k,p.x r k->Room P o o1 k) (oh:(∃k,p.x r k)\/jk o o1)
 (hH:∀m,H2 m=if m=r then some o else H m) (hs:w2.heap.size=w.heap.size) (zO:w2.heap[r']?=some o1) (bC:∀j,j≠r'->w2.heap[j]?=w.heap[j]?) (n:Nat):
 Rl P S K p H2 Fp w2/\Mv (λm=>m=r) p n w p n w2:=by
 have al:∀m,(H2 m).isSome->(H m).isSome:=λm x=>by
  rw[hH]at x;split at x
  .rename_i e;rw[e,hg];rfl
  .exact x
 refine⟨⟨λm hm x hx=>?_,λa b r' x y a1 b1=>h.inj a b r' x y (al a a1) (al b b1),λa b x=>by rw[hs];exact h.lt a b x,h.xm,h.ok,by rw[hs];exact h.gE,h.lx⟩,⟨Le.refl p,zAB n,λ_ _ x=>.inl x,λ_ _ x=>.inl x,Nat.le_of_eq hs.symm,λj hj hk=>bC j λe=>hk r rfl (e▸hp)⟩⟩;rw[hH]at hx;split at hx
 .rename_i e;subst e;simp only[zAA]at hx;subst hx;exact⟨r',o1,hp,zO,sZ,Cj,oh⟩
 .rename_i hn;obtain⟨m',o2,b1,b2,b3,b4⟩:=h.blk m hm x hx;refine⟨m',o2,b1,?_,b3,b4⟩;rw[bC m' ?_]
  .exact b2
  .intro e;exact hn (h.inj m r m' hm hF (by rw[hx];rfl) (by rw[hg];rfl) b1 (e▸hp))
def Rl.setCell (h:Rl P S K p H Fp w) (hF:Fp a.block) (ha:iY p a a') {c:Array fu} (hg:H a.block=some (.cells c e fz)) (hs:a.spot=none) (av:a.off<c.size) (XS:¬(fz.1<=a.off/\a.off<fz.2))
 {v':fu} (hv:VR S p v v') (hH:∀m,H2 m=if m=a.block then some (.cells (c.setIfInBounds a.off v) e fz)else H m) (n:Nat):
 (∃x,w.cell? a'=some x)/\w.frozen? a'=false/\Rl P S K p H2 Fp (w.setCell a' v')/\Mv (λr=>r=a.block) p n w p n (w.setCell a' v'):=by
 obtain⟨o',h2,h3,h4⟩:=h.at hF ha.1 hg;have h30:=h3;obtain⟨c',fU,rfl,hl,g,hz⟩:=h3.rn;have wA:a'.spot=none:=ha.2.2.symm.trans hs;have e0:a'.off=a.off:=ha.2.1.symm;refine⟨?_,?_,h.upd hF ha.1 hg (o:=.cells (c.setIfInBounds a.off v) e fz) (o1:=.cells (c'.setIfInBounds a.off v') e fU) ?_ (λk hk=>?_) (h4.2.imp id λU5 _ _ _ _ _ _ x y=>by cases x;cases y;simpa using U5 _ _ _ _ _ _ rfl rfl) hH (by simp[World.setCell]) ?_ (λj hj=>?_) n⟩
 .refine⟨c'[a.off]'(by omega),?_⟩;unfold World.cell?;rw[h2];simp[wA,e0]
 .unfold World.frozen?;rw[h2];simp only[e0];rw[<-zES];simp only[zAE,zBP];exact λx=>XS (hz _ av x)
 .cases h30 with
  |cells e fz hw gg=>exact .cells e fz hw (gg.set _ hv)
  |cM h0 e fz fU hl hz hs gg=>
   refine .cM h0 e fz fU (by simpa using hl) (by simpa using hz) (λi x' hi wO=>?_) λi x x' hx wO=>?_
   .have se:c.size<=i:=by simpa using hi
    rw[zBT,zAG (by omega)]at wO;exact hs i x' se wO
   rw[zBT]at hx wO;by_cases rZ:a.off=i
   .subst rZ;simp only[zBV]at hx wO;rw[zAF av]at hx;rw[zAF (by omega)]at wO;cases hx;cases wO;exact hv
   .rw[zAG rZ]at hx wO;exact gg i x x' hx wO
 .obtain⟨_,_,_,_,_,e1,e2,e3⟩:=h4.1 k hk;cases e1;cases e2;exact⟨_,_,_,_,_,rfl,rfl,by simpa using e3.1,by simpa using e3.2.1,e3.2.2⟩
 .show(w.heap.modify _ _)[a'.block]?=_;rw[lp,zAF rfl,h2];simp[wA,e0]
 .show(w.heap.modify _ _)[j]?=_;rw[lp,zAG (Ne.symm hj)]
def OR.Ck (h:OR S K p o o') (hn:∀c e fz,o≠ .cells c e fz):∀c e fz,o'≠ .cells c e fz:=by
 cases h<;>first|(intro c e fz x;cases x;done)|exact absurd rfl (hn _ _ _)
def Rl.setObj (h:Rl P S K p H Fp w) (hF:Fp r) (hp:p r r') (hg:H r=some o0) (hn:∀c e fz,o0≠ .cells c e fz) (sZ:OR S K p o o1) (oh:jk o o1)
 (hH:∀m,H2 m=if m=r then some o else H m) (n:Nat):
 Rl P S K p H2 Fp {w with heap:=w.heap.setIfInBounds r' o1}/\Mv (λm=>m=r) p n w p n {w with heap:=w.heap.setIfInBounds r' o1}:=by
 obtain⟨o',h2,h3,h4⟩:=h.at hF hp hg;have av:=h.lt r r' hp;refine h.upd hF hp hg sZ (λk hk=>?_) (.inr oh) hH (by simp) (by simp[av]) (λj hj=>by show(w.heap.setIfInBounds r' o1)[j]?=_;rw[zBT,zAG (Ne.symm hj)]) n;obtain⟨c,e,fz,_,_,e1,_⟩:=h4.1 k hk;exact absurd e1 (hn c e fz)
def one (p:Pi) (n n':Nat):Pi:=⟨λr r'=>p r r'\/(r=n/\r'=n'),p.x,p.l⟩
def one_le (p:Pi) (n n':Nat):Le p (one p n n'):=⟨λ_ _ h=>.inl h,λ_ _ h=>h,λ_ _ _ _ h=>h,rfl⟩
def Rl.push (h:Rl P S K p H Fp w) (hn:∀r',¬p n r') (hg:P.globals.size<=n) (sZ:OR S K p o o1) (oh:jk o o1) (hH:∀m,H2 m=if m=n then some o else H m):
 Rl P S K (one p n w.heap.size) H2 (λr=>Fp r\/r=n) {w with heap:=w.heap.push o1}/\Mv (λ_=>False) p n w (one p n w.heap.size) (n+1) {w with heap:=w.heap.push o1}:=by
 have hle:=one_le p n w.heap.size;have hx:∀k,¬p.x n k:=λk hk=>let⟨r',h1⟩:=h.xm n k hk;hn r' h1
 have zS:∀j,j<w.heap.size->(w.heap.push o1)[j]?=w.heap[j]?:=λj hj=>by rw[zBS,zAG (by omega)]
 refine⟨⟨λr hr x zT=>?_,λr s r' hr hs a b x y=>?_,λr r' x=>?_,λr k x=>let⟨r',y⟩:=h.xm r k x;⟨r',.inl y⟩,⟨λr r' s s' x y hr=>?_,λr r' x=>?_,λr r' s' x y=>?_,λhl=>absurd (h.lx.symm.trans hl) (by decide)⟩,by have:=h.gE;show _<=(w.heap.push o1).size;simp;omega,h.lx⟩,⟨hle,by omega,λr r' x=>?_,λr k x=>.inl x,by show _<=(w.heap.push o1).size;simp,λr' sb _=>zS r' sb⟩⟩
 .rw[hH]at zT;split at zT
  .rename_i e;subst e;simp only[zAA]at zT;subst zT;exact⟨w.heap.size,o1,.inr ⟨rfl,rfl⟩,by show(w.heap.push o1)[_]?=_;simp,sZ.mono hle,λk hk=>absurd hk (hx k),.inr oh⟩
  .rename_i bC;obtain⟨r',o',b1,b2,b3,b4⟩:=h.blk r (hr.resolve_right bC) x zT;exact⟨r',o',.inl b1,by show(w.heap.push o1)[_]?=_;rw[zS r' (h.lt r r' b1)];exact b2,b3.mono hle,b4⟩
 .rcases x with x|⟨rfl,rfl⟩<;>rcases y with y|⟨rfl,e⟩
  .have h1:r≠n:=λe=>hn r' (e▸x);have h2:s≠n:=λe=>hn r' (e▸y);rw[hH,zAG h1]at a;rw[hH,zAG h2]at b;exact h.inj r s r' (hr.resolve_right h1) (hs.resolve_right h2) a b x y
  .have:=h.lt _ _ x;omega
  .have:=h.lt _ _ y;omega
  .rfl
 .show r'<(w.heap.push o1).size;rcases x with x|⟨_,rfl⟩
  .have:=h.lt r r' x;simp;omega
  .simp
 .rcases x with x|⟨rfl,rfl⟩
  .rcases y with y|⟨rfl,rfl⟩
   .exact h.ok.inj r r' s s' x y hr
   .have h1:=h.lt r r' x;exact⟨λe=>absurd (hr h.lx) (by omega),λe=>by omega⟩
  .exact absurd (hr h.lx) (by omega)
 .rcases x with x|⟨rfl,rfl⟩
  .exact h.ok.fix r r' x
  .have:=h.gE;omega
 .rcases x with x|⟨rfl,rfl⟩
  .rcases y with y|⟨e,_⟩
   .exact h.ok.one r r' s' x y
   .exact absurd x (e▸hn r')
  .rcases y with y|⟨_,rfl⟩
   .exact absurd y (hn s')
   .rfl
 .rcases x with x|⟨rfl,rfl⟩
  .exact .inl x
  .exact .inr ⟨zAB _,by omega,.inl (zAB _)⟩
end
section
variable {P:un} {F:Array Func} {S:Nat->Bool} {K:Kz}
def lq {Q:Pi->α->β->Prop}:∀(s:Sem α) {s':Sem β} {p:Pi},tF P F S K 0 Q s s' p->∀{H:Hp} {a:α} {H1:Hp} {R1 W1:Nat} {Fp:Nat->Prop} {w:nq},
 aF P s H=some (a,H1,R1,W1)->Rl P S K p H.get Fp w->P.globals.size<=H.n->(∀r,H.n<=r->r<H1.n->∀r',¬p r r')->(∀r,(R1.testBit r=true\/W1.testBit r=true)->(H.n<=r/\r<H1.n)\/Fp r)->
 ∃b w1 q,s'.run (ae P F) w=.ok b w1/\Q q a b/\Mv (λr=>W1.testBit r=true) p H.n w q H1.n w1/\Rl P S K q H1.get (λr=>Fp r\/(H.n<=r/\r<H1.n)) w1:=by
 intro s;induction s with
 |pure a=>
  intro s' p h H a1 H1 R1 W1 Fp w e hr hg hn hF;simp only[aF,zAA,zAH]at e;obtain⟨rfl,rfl,rfl,rfl⟩:=e;cases s'<;>first|exact⟨_,w,p,rfl,h,Mv.refl _ _ _ _,hr.mono λr x=>x.resolve_right (by omega)⟩|exact h.elim
 |load m a k ih=>
  intro s' p h H a1 H1 R1 W1 Fp w e hr hg hn hF;cases s'<;>first|exact h.elim|skip
  rename_i m' a' k';obtain⟨rfl,rfl,ha,hk⟩:=h;have Eo:=bF P _ e;simp only[aF]at e;split at e<;>try(cases e;done)
  rename_i c ty fz zA;split at e<;>try(cases e;done)
  rename_i mt;split at e<;>try(cases e;done)
  rename_i v hv;obtain⟨R0,e2,rfl⟩:=ib e;have L9:Fp a.block:=(hF a.block (.inl (by rw[zAO,(tb _ _).2 rfl,zBW]))).resolve_left λx=>hn _ x.1 x.2 _ ha.1;obtain⟨v',h1,h2⟩:=hr.cell L9 ha zA mt hv;obtain⟨b,w1,q,c1,c2,c3,c4⟩:=ih v (hk v v' h2) e2 hr hg hn λr x=>hF r (x.imp (λy=>by rw[zAO,y,zDY]) id);exact⟨b,w1,q,by simp only[Sem.run,h1];exact c1,c2,c3,c4⟩
 |store m a v k ih=>
  intro s' p h H a1 H1 R1 W1 Fp w e hr hg hn hF;cases s'<;>first|exact h.elim|skip
  rename_i m' a' v' k';obtain⟨rfl,rfl,ha,hv,hk⟩:=h;have Eo:=bF P _ e;simp only[aF]at e;cases GU:dY v<;>rw[GU]at e<;>simp only[zAS,zAQ]at e
  .cases e
  split at e<;>try(cases e;done)
  rename_i c ty fz zA;split at e<;>try(cases e;done)
  rename_i mt;cases hb:(Nat.blt a.off c.size&&!(Nat.ble fz.1 a.off&&Nat.blt a.off fz.2))<;>rw[hb]at e<;>simp only[zAS,zAQ]at e
  .cases e
  obtain⟨W0,e2,rfl⟩:=jd e;simp only[zAE,zCL,zGD,Nat.blt_eq]at hb
  have XS:¬(fz.1<=a.off/\a.off<fz.2):=by
   rintro⟨x,y⟩;rcases hb.2 with z|z
   .rw[<-zES,Nat.ble_eq]at z;exact z x
   .rw[<-zES,Nat.blt_eq]at z;exact z y
  have L9:Fp a.block:=(hF a.block (.inr (by rw[zAO,(tb _ _).2 rfl,zBW]))).resolve_left λx=>hn _ x.1 x.2 _ ha.1;obtain⟨⟨x,h1⟩,h2,h3,h4⟩:=hr.setCell L9 ha zA mt hb.1 XS hv (λm=>Hp.get_put H a.block _ m) H.n;obtain⟨b,w1,q,c1,c2,c3,c4⟩:=ih hk e2 h3 hg hn λr x=>hF r (x.imp id λy=>by rw[zAO,y,zDY]);refine⟨b,w1,q,?_,c2,h4.trans c3 (λr x=>by subst x;rw[zAO,(tb _ _).2 rfl,zBW]) (λr x=>by rw[zAO,x,zDY]),c4⟩;have Uy:dY v'=true:=hv.dY GU;cases v'<;>first|(cases Uy;done)|(simp only[Sem.run,h1,h2];exact c1)
 |new o k ih=>
  intro s' p h H a1 H1 R1 W1 Fp w e hr hg hn hF;cases s'<;>first|exact h.elim|skip
  rename_i o' k';obtain⟨ho,U5,hk⟩:=h;have Eo:=bF P _ e;simp only[aF]at e;obtain⟨W0,e2,rfl⟩:=jd e;have zdV:=bF P _ e2;have hnn:H.n+1<=H1.n:=zdV.nn;obtain⟨h3,h4⟩:=hr.push (n:=H.n) (hn H.n (zAB _) (by omega)) hg ho (U5 hr.lx) (λm=>Hp.kG H o m)
  obtain⟨b,w1,q,c1,c2,c3,c4⟩:=ih H.n (hk H.n w.heap.size _ (one_le _ _ _) h3.ok (.inr ⟨rfl,rfl⟩) (zAM _) (λk hx=>by
   obtain⟨r',sb⟩:=hr.xm _ k hx;exact hn H.n (zAB _) (by omega) r' sb)) e2 h3 (by show _<=H.n+1;omega) (λr x y r' z=>by
   have x:H.n+1<=r:=x;rcases z with z|⟨z,_⟩
   .exact hn r (by omega) y r' z
   .omega) (λr x=>by
   rcases hF r (x.imp id λy=>by rw[zAO,y,zDY])with⟨y,z⟩|y
   .by_cases e:r=H.n
    .exact .inr (.inr e)
    .exact .inl ⟨by show H.n+1<=r;omega,z⟩
   .exact .inr (.inl y))
  refine⟨b,w1,q,c1,c2,(h4.mono (W:=λr=>r=H.n) λ_ x=>x.elim).trans c3 (λr x=>by subst x;rw[zAO,(tb _ _).2 rfl,zBW]) (λr x=>by rw[zAO,x,zDY]),c4.mono λr x=>?_⟩;rcases x with x|⟨x,y⟩
  .exact .inl (.inl x)
  .by_cases e:r=H.n
   .exact .inl (.inr e)
   .exact .inr ⟨by show H.n+1<=r;omega,y⟩
 |getObj r k ih=>
  intro s' p h H a1 H1 R1 W1 Fp w e hr hg hn hF;cases s'<;>first|exact h.elim|skip
  rename_i r' k';obtain⟨hp,hk⟩:=h;simp only[aF]at e;split at e<;>try(cases e;done)
  rename_i o Ti zA;obtain⟨R0,e2,rfl⟩:=ib e;have L9:Fp r:=(hF r (.inl (by rw[zAO,(tb _ _).2 rfl,zBW]))).resolve_left λx=>hn _ x.1 x.2 _ hp;obtain⟨o',h2,h3,_⟩:=hr.at L9 hp zA;have Vg:=h3.Ck λc e fz x=>Ti c e fz x;obtain⟨b,w1,q,c1,c2,c3,c4⟩:=ih o (hk o o' h3) e2 hr hg hn λr x=>hF r (x.imp (λy=>by rw[zAO,y,zDY]) id);refine⟨b,w1,q,?_,c2,c3,c4⟩;simp only[Sem.run,h2];cases o'<;>first|exact absurd rfl (Vg _ _ _)|exact c1
 |setObj r o k ih=>
  intro s' p h H a1 H1 R1 W1 Fp w e hr hg hn hF;cases s'<;>first|exact h.elim|skip
  rename_i r' o' k';obtain⟨hp,ho,U5,hk⟩:=h;simp only[aF]at e;split at e<;>try(cases e;done)
  rename_i o0 Ti zA;obtain⟨W0,e2,rfl⟩:=jd e;have L9:Fp r:=(hF r (.inr (by rw[zAO,(tb _ _).2 rfl,zBW]))).resolve_left λx=>hn _ x.1 x.2 _ hp;obtain⟨o1,h2,h3,_⟩:=hr.at L9 hp zA;have Vg:=h3.Ck λc e fz x=>Ti c e fz x;obtain⟨h5,h6⟩:=hr.setObj L9 hp zA (λc e fz x=>Ti c e fz x) ho (U5 hr.lx) (λm=>Hp.get_put H r _ m) H.n;obtain⟨b,w1,q,c1,c2,c3,c4⟩:=ih hk e2 h5 hg hn λr x=>hF r (x.imp id λy=>by rw[zAO,y,zDY]);refine⟨b,w1,q,?_,c2,h6.trans c3 (λr x=>by subst x;rw[zAO,(tb _ _).2 rfl,zBW]) (λr x=>by rw[zAO,x,zDY]),c4⟩;simp only[Sem.run,h2];cases o1<;>first|exact absurd rfl (Vg _ _ _)|exact c1
 |program k ih=>
  intro s' p h H a1 H1 R1 W1 Fp w e hr hg hn hF;rcases h with h|⟨k',rfl,h⟩
  .have e:aF P (k P) H=some (a1,H1,R1,W1):=e;rcases h with⟨_,h⟩|⟨h,_⟩
   .rw[uJ (k P) h]at e;cases e
   .rw[hr.lx]at h;cases h
  .exact ih P h e hr hg hn hF
 |mark m k ih=>
  intro s' p h H a1 H1 R1 W1 Fp w e hr hg hn hF;simp only[aF]at e;split at e
  .rcases h with⟨_,h⟩|(⟨_,h⟩|⟨h,_⟩)|⟨_,k',rfl,hk⟩
   .exact absurd rfl h
   .rw[uJ k h]at e;cases e
   .rw[hr.lx]at h;cases h
   .exact ih hk e hr hg hn hF
  .cases e
 |shape r k ih=>intro s' p h H a1 H1 R1 W1 Fp w e;cases e
 |freeze a n k ih=>intro s' p h H a1 H1 R1 W1 Fp w e;cases e
 |frozen a k ih=>intro s' p h H a1 H1 R1 W1 Fp w e;cases e
 |choose q k ih=>intro s' p h H a1 H1 R1 W1 Fp w e;cases e
 |sys c k ih=>intro s' p h H a1 H1 R1 W1 Fp w e;cases e
 |halt x=>intro s' p h H a1 H1 R1 W1 Fp w e;cases e
end
section
variable {P:un} {F:Array Func} {S:Nat->Bool} {K:Kz} {p:Pi} {H:Nat->Option Obj} {Fp:Nat->Prop} {w:nq}
def Rl.kill (h:Rl P S K p H Fp w) {s:Nat} (hH:∀m,H2 m=if m=s then none else H m):Rl P S K p H2 Fp w:=by
 have al:∀m,(H2 m).isSome->(H m).isSome/\m≠s:=λm x=>by
  rw[hH]at x;split at x
  .cases x
  .rename_i e;exact⟨x,e⟩
 refine⟨λr hr o ho=>?_,λr s r' x y a b=>h.inj r s r' x y (al r a).1 (al s b).1,h.lt,h.xm,h.ok,h.gE,h.lx⟩;rw[hH]at ho;split at ho
 .cases ho
 .exact h.blk r hr o ho
def Jy (p:Pi) (n n' k:Nat):Pi:=⟨λr r'=>p r r'\/(r=n/\r'=n'),λr j=>p.x r j\/(r=n/\j=k),p.l⟩
def Hr (p:Pi) (n n' k:Nat) (hn:∀r',¬p n r'):Le p (Jy p n n' k):=⟨λ_ _ h=>.inl h,λ_ _ h=>.inl h,λr r' j a x=>x.resolve_right λ⟨e,_⟩=>hn r' (e▸a),rfl⟩
def Rl.Tj (h:Rl P S K p H Fp w) (hn:∀r',¬p n r') (hg:P.globals.size<=n) {k:Nat} (sZ:OR S K p o o1) (hk:Room P o o1 k) (hH:∀m,H2 m=if m=n then some o else H m):
 Rl P S K (Jy p n w.heap.size k) H2 (λr=>Fp r\/r=n) {w with heap:=w.heap.push o1}/\Mv (λ_=>False) p n w (Jy p n w.heap.size k) (n+1) {w with heap:=w.heap.push o1}:=by
 have hle:=Hr p n w.heap.size k hn;have hx:∀j,¬p.x n j:=λj hj=>let⟨r',h1⟩:=h.xm n j hj;hn r' h1
 have zS:∀j,j<w.heap.size->(w.heap.push o1)[j]?=w.heap[j]?:=λj hj=>by rw[zBS,zAG (by omega)]
 refine⟨⟨λr hr o' ho=>?_,λr s r' hr hs a b x y=>?_,λr r' x=>?_,λr j x=>?_,⟨λr r' s s' x y hr=>?_,λr r' x=>?_,λr r' s' x y=>?_,λhl=>absurd (h.lx.symm.trans hl) (by decide)⟩,by have:=h.gE;show _<=(w.heap.push o1).size;simp;omega,h.lx⟩,⟨hle,by omega,λr r' x=>?_,λr j x=>?_,by show _<=(w.heap.push o1).size;simp,λr' sb _=>zS r' sb⟩⟩
 .rw[hH]at ho;split at ho
  .rename_i e;subst e;simp only[zAA]at ho;subst ho
   exact⟨w.heap.size,o1,.inr ⟨rfl,rfl⟩,by show(w.heap.push o1)[_]?=_;simp,sZ.mono hle,λj hj=>by
    rcases hj with hj|⟨_,rfl⟩
    .exact absurd hj (hx j)
    .exact hk,.inl ⟨k,.inr ⟨rfl,rfl⟩⟩⟩
  .rename_i bC;obtain⟨r',o2,b1,b2,b3,b4,b5⟩:=h.blk r (hr.resolve_right bC) o' ho;exact⟨r',o2,.inl b1,by show(w.heap.push o1)[_]?=_;rw[zS r' (h.lt r r' b1)];exact b2,b3.mono hle,λj hj=>b4 j (hj.resolve_right λx=>bC x.1),b5.imp (λ⟨j,hj⟩=>⟨j,.inl hj⟩) id⟩
 .rcases x with x|⟨rfl,rfl⟩<;>rcases y with y|⟨rfl,e⟩
  .have h1:r≠n:=λe=>hn r' (e▸x);have h2:s≠n:=λe=>hn r' (e▸y);rw[hH,zAG h1]at a;rw[hH,zAG h2]at b;exact h.inj r s r' (hr.resolve_right h1) (hs.resolve_right h2) a b x y
  .have:=h.lt _ _ x;omega
  .have:=h.lt _ _ y;omega
  .rfl
 .show r'<(w.heap.push o1).size;rcases x with x|⟨_,rfl⟩
  .have:=h.lt r r' x;simp;omega
  .simp
 .rcases x with x|⟨rfl,_⟩
  .obtain⟨r',y⟩:=h.xm r j x;exact⟨r',.inl y⟩
  .exact⟨_,.inr ⟨rfl,rfl⟩⟩
 .rcases x with x|⟨rfl,rfl⟩
  .rcases y with y|⟨rfl,rfl⟩
   .exact h.ok.inj r r' s s' x y hr
   .have h1:=h.lt r r' x;exact⟨λe=>absurd (hr h.lx) (by omega),λe=>by omega⟩
  .exact absurd (hr h.lx) (by omega)
 .rcases x with x|⟨rfl,rfl⟩
  .exact h.ok.fix r r' x
  .have:=h.gE;omega
 .rcases x with x|⟨rfl,rfl⟩
  .rcases y with y|⟨e,_⟩
   .exact h.ok.one r r' s' x y
   .exact absurd x (e▸hn r')
  .rcases y with y|⟨_,rfl⟩
   .exact absurd y (hn s')
   .rfl
 .rcases x with x|⟨rfl,rfl⟩
  .exact .inl x
  .exact .inr ⟨zAB _,by omega,.inl (zAB _)⟩
 .rcases x with x|⟨rfl,_⟩
  .exact .inl x
  .exact .inr ⟨zAB _,by omega⟩
def Rl.reuse (h:Rl P S K p H Fp w) {s:Nat} (hn:∀r',¬p n r') (hg:P.globals.size<=n) (hgs:P.globals.size<=s) (P5:Fp s) (xP:p s r') (hs:(H s).isSome) {k:Nat} (sZ:OR S K p o o1) (hk:Room P o o1 k)
 (hH:∀m,H2 m=if m=n then some o else if m=s then none else H m) (cr:w2.heap.size=w.heap.size) (zO:w2.heap[r']?=some o1) (bC:∀j,j≠r'->w2.heap[j]?=w.heap[j]?):
 Rl P S K (Jy p n r' k) H2 (λr=>Fp r\/r=n) w2/\Mv (λm=>m=s) p n w (Jy p n r' k) (n+1) w2:=by
 have hle:=Hr p n r' k hn;have GX:n≠s:=λe=>hn r' (e▸xP)
 have old:∀r x,p r x->(H2 r).isSome->r≠n/\r≠s/\(H r).isSome:=λr x hp al=>by
  have h1:r≠n:=λe=>hn x (e▸hp);rw[hH,zAG h1]at al;split at al
  .cases al
  .rename_i h2;exact⟨h1,h2,al⟩
 refine⟨⟨λr hr o' ho=>?_,λr t x hr ht a b y z=>?_,λr x y=>?_,λr j x=>?_,⟨λa b c d x y hr=>?_,λa b x=>?_,λa b c x y=>?_,λhl=>absurd (h.lx.symm.trans hl) (by decide)⟩,by rw[cr];exact h.gE,h.lx⟩,⟨hle,by omega,λa b x=>?_,λa j x=>?_,Nat.le_of_eq cr.symm,λj hj hw=>bC j λe=>hw s rfl (e▸xP)⟩⟩
 .rw[hH]at ho;split at ho
  .rename_i e;subst e;simp only[zAA]at ho;subst ho;refine⟨r',o1,.inr ⟨rfl,rfl⟩,zO,sZ.mono hle,λj hj=>?_,.inl ⟨k,.inr ⟨rfl,rfl⟩⟩⟩;rcases hj with hj|⟨_,rfl⟩
   .obtain⟨x,y⟩:=h.xm r j hj;exact absurd y (hn x)
   .exact hk
  .rename_i e;split at ho
   .cases ho
   .rename_i e2;obtain⟨r1,o2,b1,b2,b3,b4,b5⟩:=h.blk r (hr.resolve_right e) o' ho;refine⟨r1,o2,.inl b1,?_,b3.mono hle,λj hj=>?_,b5.imp (λ⟨j,hj⟩=>⟨j,.inl hj⟩) id⟩
    .rw[bC r1 ?_]
     .exact b2
     .intro e3;exact e2 (h.inj r s r1 (hr.resolve_right e) P5 (by rw[ho];rfl) hs b1 (e3▸xP))
    .rcases hj with hj|⟨rfl,_⟩
     .exact b4 j hj
     .exact absurd rfl e
 .rcases y with y|⟨rfl,rfl⟩<;>rcases z with z|⟨rfl,e⟩
  .obtain⟨a1,a2,a3⟩:=old r x y a;obtain⟨b1,b2,b3⟩:=old t x z b;exact h.inj r t x (hr.resolve_right a1) (ht.resolve_right b1) a3 b3 y z
  .obtain⟨a1,a2,a3⟩:=old r x y a;exact absurd (h.inj r s x (hr.resolve_right a1) P5 a3 hs y (e▸xP)) a2
  .obtain⟨a1,a2,a3⟩:=old t x z b;exact absurd (h.inj t s x (ht.resolve_right a1) P5 a3 hs z xP) a2
  .rfl
 .rw[cr];rcases y with y|⟨_,rfl⟩
  .exact h.lt r x y
  .exact h.lt s x xP
 .rcases x with x|⟨rfl,_⟩
  .obtain⟨y,z⟩:=h.xm r j x;exact⟨y,.inl z⟩
  .exact⟨_,.inr ⟨rfl,rfl⟩⟩
 .rcases x with x|⟨rfl,rfl⟩
  .rcases y with y|⟨rfl,rfl⟩
   .exact h.ok.inj a b c d x y hr
   .refine⟨λe=>absurd (hr h.lx) (by omega),λe=>?_⟩;have:=(h.ok.inj a b s d x xP hr).2 e;have:=hr h.lx;omega
  .exact absurd (hr h.lx) (by omega)
 .rcases x with x|⟨rfl,rfl⟩
  .exact h.ok.fix a b x
  .have:=h.ok.fix s b xP;omega
 .rcases x with x|⟨rfl,rfl⟩
  .rcases y with y|⟨e,_⟩
   .exact h.ok.one a b c x y
   .exact absurd x (e▸hn b)
  .rcases y with y|⟨_,rfl⟩
   .exact absurd y (hn c)
   .rfl
 .rcases x with x|⟨rfl,rfl⟩
  .exact .inl x
  .exact .inr ⟨zAB _,by omega,.inr ⟨s,rfl,xP⟩⟩
 .rcases x with x|⟨rfl,_⟩
  .exact .inl x
  .exact .inr ⟨zAB _,by omega⟩
def uK (Q:un):∀(vs:List fu) (a:Addr) (i:Nat) (w:nq) (c:Array fu) (e:a00) (fz:Nat×Nat),w.heap[a.block]?=some (.cells c e fz)->a.spot=none->a.off+i+vs.length<=c.size->
 (∀j,j<c.size->¬(fz.1<=j/\j<fz.2))->(∀v∈vs,dY v=true)->
 ∃w2 c2,(Go.storeCells a vs i).run Q w=.ok () w2/\w2.heap.size=w.heap.size/\(∀j,j≠a.block->w2.heap[j]?=w.heap[j]?)/\w2.heap[a.block]?=some (.cells c2 e fz)/\c2.size=c.size/\
  (∀j,j<a.off+i->c2[j]?=c[j]?)/\(∀j,j<vs.length->c2[a.off+i+j]?=vs[j]?)/\∀j,a.off+i+vs.length<=j->c2[j]?=c[j]?:=by
 intro vs;induction vs with
 |nil=>intro a i w c e fz h1 h2 h3 h4 h5;exact⟨w,c,rfl,rfl,λ_ _=>rfl,h1,rfl,λ_ _=>rfl,λj hj=>absurd hj (zEG j),λ_ _=>rfl⟩
 |cons v vs ih=>
  intro a i w c e fz h1 h2 h3 h4 h5;simp only[zBU]at h3;have Jt:(a.add i).off=a.off+i:=by unfold Addr.add;split<;>simp_all
  have mt:=pJ a i h2;have XT:=gp a i
  have hc:w.cell? (a.add i)=some (c[a.off+i]'(by omega)):=by
   unfold World.cell?;rw[XT,h1];simp only[mt,Option.isSome_none,zAN,zBJ,Jt];exact zAI (by omega)
  have hf:w.frozen? (a.add i)=false:=by
   unfold World.frozen?;rw[XT,h1];simp only[Jt];rw[<-zES];simp only[zAE,zBP];exact h4 _ (by omega)
  have eL:(w.setCell (a.add i) v).heap[a.block]?=some (.cells (c.setIfInBounds (a.off+i) v) e fz):=by
   show(w.heap.modify _ _)[a.block]?=_;rw[lp,zAF XT,h1];simp[mt,Jt]
  obtain⟨w2,c2,g1,g2,g3,g4,g5,g6,g7,g8⟩:=ih a (i+1) (w.setCell (a.add i) v) _ e fz eL h2 (by simp;omega) (by simpa using h4) λx hx=>h5 x (by simp[hx]);refine⟨w2,c2,?_,by rw[g2];simp[World.setCell],λj hj=>?_,g4,by rw[g5];simp,λj hj=>?_,λj hj=>?_,λj hj=>?_⟩
  .simp only[Go.storeCells];show(Sem.store .plain (a.add i) v _).run Q w=_;have hv:=h5 v (by simp);cases v<;>first|(cases hv;done)|(simp only[Sem.run,hc,hf];exact g1)
  .rw[g3 j hj];show(w.heap.modify _ _)[j]?=_;rw[lp,zAG (by rw[XT];exact Ne.symm hj)]
  .rw[g6 j (by omega),zBT,zAG (by omega)]
  .cases j with
   |zero=>rw[zDX,g6 (a.off+i) (by omega),zBT,zAF rfl,zAF (by omega)];rfl
   |succ j=>
    have:=g7 j (by simpa using hj);rw[show a.off+i+(j+1)=a.off+(i+1)+j by omega,this];rfl
  .rw[zBU]at hj;rw[g8 j (by omega),zBT,zAG (by omega)]
end
def Fk {c:Nat} (h:c<n):Builtin.nextslicecap n c<=2*n+768:=by
 unfold Builtin.nextslicecap;split
 .omega
 .split
  .omega
  .have:∀(r c:Nat),c<n+(n+768)/4+1->Builtin.growBy n r c<=2*n+768:=by
    intro r;induction r with
    |zero=>intro c hc;simp only[Builtin.growBy];omega
    |succ r ih=>
     intro c hc;simp only[Builtin.growBy];split
     .omega
     .exact ih _ (by omega)
   exact this 4 c (by omega)
def RO (P:un) (s:Sem α):Prop:=∀H a H1 R W,aF P s H=some (a,H1,R,W)->H1=H/\W=0
def RO.pure {P:un} (a:α):RO P (Pure.pure a:Sem α):=λH b H1 R W h=>by
 have h:some (a,H,0,0)=some (b,H1,R,W):=h;simp only[zAA,zAH]at h;exact⟨h.2.1.symm,h.2.2.2.symm⟩
def RO.none {P:un} {s:Sem α} (h:∀H,aF P s H=.none):RO P s:=λH a H1 R W e=>by rw[h]at e;cases e
def RO.load {P:un} {k:fu->Sem α} (h:∀v,RO P (k v)):RO P (Sem.load .plain a k):=λH b H1 R W e=>by
 simp only[aF]at e;split at e<;>try(cases e;done)
 split at e<;>try(cases e;done)
 split at e<;>try(cases e;done)
 obtain⟨R0,e2,_⟩:=ib e;exact h _ _ _ _ _ _ e2
def RO.loadCells (P:un):∀(n:Nat) (a:Addr) (i:Nat) (acc:Array fu),RO P (Go.loadCellsFrom a i n acc)
 |0,_,_,_=>RO.pure _
 |n+1,a,i,acc=>by
  simp only[Go.loadCellsFrom];exact RO.load λv=>RO.loadCells P n a (i+1) _
def RO.firstCells (P:un) (s n:Nat) (x:fu):RO P (Builtin.firstCells s n x):=by
 cases x<;>first|exact RO.none λ_=>rfl|skip
 .exact RO.pure _
 .rename_i a l c;cases a with
  |none=>exact RO.pure _
  |some a=>exact RO.loadCells P _ a 0 _
def Cm:fu->Option Nat
 |.slice _ n _=>some n
 |.string s=>some s.size
 |_=>none
def xV (h:Cm x=some n):Builtin.lenOf x=Pure.pure n:=by
 cases x<;>simp only[Cm,zAA,reduceCtorEq]at h<;>(subst h;rfl)
def rp (P:un) (e:a00) (size:Nat) (b:Option Addr) (Cn sc:Nat) (cs:Array fu) (H:Hp) (R:Nat):Rs fu:=
 match b with
 |none=>some (.slice (some ⟨H.n,0,none⟩) Cn Cn,H.push (.cells cs e (1,0)),R,2^H.n)
 |some a=>bif a.spot.isNone then bif Nat.beq sc 0 then some (.slice (some ⟨H.n,0,none⟩) Cn Cn,H.push (.cells cs e (1,0)),R,2^H.n)
  else match H.get a.block with
   |some (.cells c e' fz)=>bif Nat.beq a.off 0&&Nat.beq e' e&&Nat.beq c.size (sc*size)&&Nat.ble fz.1 1&&Nat.beq fz.2 0&&Nat.ble P.globals.size a.block&&Nat.blt 0 size then
     some (.slice (some ⟨H.n,0,none⟩) Cn Cn,(H.put a.block none).push (.cells cs e (1,0)),R,2^H.n|||2^a.block)else none
   |_=>none else none
def Ma (P:un) (e:a00) (i:TypeInfo) (b:Option Addr) (sl sc n:Nat) (z:fu) (old new:Array fu) (H:Hp) (R:Nat):Rs fu:=
 bif Nat.blt sc (sl+n)&&Nat.ble ((2*(sl+n)+768)*i.bytes) (2^48)&&Nat.blt (sl+n) (2^62)&&Nat.beq z.cells.size i.size&&Nat.beq new.size (n*i.size)&&Nat.beq old.size (sl*i.size)&&new.all dY then
  rp P e i.size b (sl+n) sc (old++new) H R else none
def Mb (P:un) (ts:Array a00) (xs:Array fu) (H:Hp):Rs fu:=
 match ts[0]? with
 |none=>none
 |some sT=>match(xs[0]?:Option fu)with
  |some (.slice b sl sc)=>match(xs[1]?:Option fu)with
   |none=>none
   |some x=>match P.underlying sT with
    |some (.slice e)=>match P.info? e with
     |none=>none
     |some i=>match Cm x with
      |none=>none
      |some n=>match i.zero with
       |none=>none
       |some z=>match aF P (Builtin.firstCells i.size sl (.slice b sl sc)) H with
        |none=>none
        |some (old,_,R1,_)=>match aF P (Builtin.firstCells i.size n x) H with
         |none=>none
         |some (new,_,R2,_)=>Ma P e i b sl sc n z old new H (R1|||R2)
    |_=>none
  |_=>none
section
variable {P:un} {F:Array Func} {S:Nat->Bool} {K:Kz} {p:Pi} {Fp:Nat->Prop} {w:nq}
def dx (Q:un) (f:α->Sem β) {a:α}:∀(s:Sem α) (w:nq),s.run Q w=.ok a w1->(s>>=f).run Q w=(f a).run Q w1:=by
 intro s;show∀(w:nq),s.run Q w=.ok a w1->(s.bind f).run Q w=(f a).run Q w1;induction s with
 |pure x=>intro w e;simp only[Sem.run,Result.ok.injEq]at e;obtain⟨rfl,rfl⟩:=e;rfl
 |load m a k ih=>
  intro w e;simp only[Sem.bind,Sem.run]at e⊢;split
  .rename_i h;rw[h]at e;exact ih _ w e
  .rename_i h;rw[h]at e;simp only at e;split
   .rename_i h2;rw[h2]at e;exact ih _ w e
   .rename_i h2;rw[h2]at e;cases e
 |store m a v k ih=>
  intro w e;cases GU:dY v with
  |false=>cases v<;>first|(cases GU;done)|(simp only[Sem.run]at e;cases e)
  |true=>
   have key:∀{γ:Type} (k:Sem γ),(Sem.store m a v k).run Q w=match w.cell? a with
    |some _=>if w.frozen? a then .halt (.unsupported (.unsafePointer "a write to bytes that a string shares")) w else k.run Q (w.setCell a v)
    |none=>match w.farStore Q a v (m== .atomic)with
     |.ok (w,_)=>k.run Q w
     |.error h=>.halt h w:=λk=>by cases v<;>first|(cases GU;done)|rfl
   simp only[Sem.bind];rw[key]at e⊢;split
   .rename_i h;rw[h]at e;simp only at e;split
    .rename_i h2;rw[zAF h2]at e;cases e
    .rename_i h2;rw[zAG h2]at e;exact ih _ e
   .rename_i h;rw[h]at e;simp only at e;split
    .rename_i h2;rw[h2]at e;exact ih _ e
    .rename_i h2;rw[h2]at e;cases e
 |new o k ih=>intro w e;exact ih _ _ e
 |shape r k ih=>intro w e;exact ih _ _ e
 |freeze a n k ih=>intro w e;exact ih _ e
 |frozen a k ih=>intro w e;exact ih _ _ e
 |getObj r k ih=>
  intro w e;simp only[Sem.bind,Sem.run]at e⊢;cases ho:w.heap[r]? with
  |none=>rw[ho]at e;cases e
  |some o'=>rw[ho]at e;cases o'<;>first|exact ih _ _ e|(cases e;done)
 |setObj r o k ih=>
  intro w e;simp only[Sem.bind,Sem.run]at e⊢;cases ho:w.heap[r]? with
  |none=>rw[ho]at e;cases e
  |some o'=>rw[ho]at e;cases o'<;>first|exact ih _ e|(cases e;done)
 |choose q k ih=>
  intro w e;simp only[Sem.bind,Sem.run]at e⊢;split at e
  .rename_i hq;simp only[hq,zBV];exact ih _ _ e
  .rename_i hq;simp only[hq,zBJ,zAN];exact ih _ _ e
 |sys c k ih=>intro w e;exact ih _ _ e
 |program k ih=>intro w e;exact ih _ _ e
 |mark m k ih=>intro w e;exact ih _ e
 |halt x=>intro w e;simp only[Sem.run]at e;cases e
def run_typeInfo (h:P.info? t=some i) (f:TypeInfo->Sem β) (w:nq):(Go.typeInfo t>>=f).run (ae P F) w=(f i).run (ae P F) w:=by
 show(Sem.bind (match(ae P F).info? t with|some i=>Pure.pure i|none=>Go.stuck "no such type") f).run (ae P F) w=_;rw[kU,h];rfl
def run_underlying {i:TypeDesc} (h:P.underlying t=some i) (f:TypeDesc->Sem β) (w:nq):(Go.underlying t>>=f).run (ae P F) w=(f i).run (ae P F) w:=by
 show(Sem.bind (match(ae P F).underlying t with|some i=>Pure.pure i|none=>Go.stuck "no such type") f).run (ae P F) w=_;rw[dF,h];rfl
def run_sizeOf (h:P.info? t=some i) (f:Nat->Sem β) (w:nq):(Go.sizeOf t>>=f).run (ae P F) w=(f i.size).run (ae P F) w:=by
 show((Go.typeInfo t>>=λi=>Pure.pure i.size)>>=f).run (ae P F) w=_;have:=dx (ae P F) f (a:=i.size) (w1:=w) (Go.typeInfo t>>=λi=>Pure.pure i.size) w (by rw[run_typeInfo h];rfl);exact this
def wQ (h:P.info? t=some i) (hz:i.zero=some z) (f:fu->Sem β) (w:nq):(Go.zeroValue t>>=f).run (ae P F) w=(f z).run (ae P F) w:=
 dx (ae P F) f (a:=z) (w1:=w) (Go.zeroValue t) w (by unfold Go.zeroValue;rw[run_typeInfo h,hz];rfl)
def run_choose {q:Question} (hq:q.forced=false) (f:Nat->Sem β) (w:nq):(Go.choose q>>=f).run (ae P F) w=(f (q.cut (w.tape w.drawn q))).run (ae P F) {w with drawn:=w.drawn+1}:=by
 show(Sem.choose q f).run _ _=_;simp only[Sem.run,hq,zAN,zBJ]
def run_askRoom (n:Nat) (f:Unit->Sem β) (w:nq):(Go.askRoom n>>=f).run (ae P F) w=(f ()).run (ae P F) w:=by
 unfold Go.askRoom;split<;>rfl
def Fl (ht:xG P ts=true) (t:a00) {sT:a00} {b:Option Addr} (h0:ts[0]?=some sT) (h1:xs[0]?=some (.slice b sl sc)) (h2:xs[1]?=some x)
 (hu:P.underlying sT=some (.slice e)) (hi:P.info? e=some i) (Tk:∀t1,ts[1]?=some t1->(P.underlying t1).isSome) (w:nq):(Builtin.append_ ts t xs).run (ae P F) w=(fy e b sl sc i.size x).run (ae P F) w:=by
 unfold Builtin.append_;rw[h0,h1,h2];simp only;rw[run_underlying hu];simp only;rw[run_sizeOf hi];cases h3:ts[1]? with
 |none=>
  unfold aC.fy aC.oH aC.fN;cases b<;>simp only[pure_bind,zAN,zBJ,zFA,zBV,false_or]
 |some t1=>
  obtain⟨u,Zn⟩:=zCY.1 (Tk t1 h3);simp only[xG,h3,Zn]at ht;simp only;rw[run_underlying Zn];have e0:(match u with|.int _=>true|_=>false)=false:=by cases u<;>first|(cases ht;done)|rfl
  unfold aC.fy aC.oH aC.fN;cases u<;>first|(cases ht;done)|skip
  all_goals(cases b<;>simp only[pure_bind,zAN,zBJ,zFA,zBV,false_or])
end
section
variable {P:un} {F:Array Func} {S:Nat->Bool} {K:Kz} {p:Pi} {Fp:Nat->Prop} {w:nq}
def Rl.heap {H:Nat->Option Obj} (h:Rl P S K p H Fp w) (e:w2.heap=w.heap):Rl P S K p H Fp w2:=
 ⟨λr x o y=>by rw[e];exact h.blk r x o y,h.inj,λr r' x=>by rw[e];exact h.lt r r' x,h.xm,h.ok,by rw[e];exact h.gE,h.lx⟩
def Mv.heap {W:Nat->Prop} (h:Mv W p n w q n1 w1) (e:w2.heap=w1.heap):Mv W p n w q n1 w2:=
 ⟨h.le,h.nn,h.new,h.zR,by rw[e];exact h.size,λr a b=>by rw[e];exact h.keep r a b⟩
def Mv.Mc {W:Nat->Prop} (h:Mv W p n w q n1 w1) {w0:nq} (e:w0.heap=w.heap):Mv W p n w0 q n1 w1:=
 ⟨h.le,h.nn,λr r' x=>by rw[e];exact h.new r r' x,h.zR,by rw[e];exact h.size,λr a b=>by rw[e]at a⊢;exact h.keep r a b⟩
def bg (s:Sem α):Prop:=∀Q w b w1,s.run Q w=.ok b w1->w1=w
def bg.loadCells:∀(n:Nat) (a:Addr) (i:Nat) (acc:Array fu),bg (Go.loadCellsFrom a i n acc)
 |0,_,_,_=>λQ w b w1 h=>by
  have h:Result.ok _ w=.ok b w1:=h;simp only[Result.ok.injEq]at h;exact h.2.symm
 |n+1,a,i,acc=>λQ w b w1 h=>by
  simp only[Go.loadCellsFrom]at h;have h:(Sem.load .plain (a.add i) λv=>Go.loadCellsFrom a (i+1) n (acc.push v)).run Q w=.ok b w1:=h;simp only[Sem.run]at h;split at h
  .exact bg.loadCells n a (i+1) _ _ _ _ _ h
  .split at h
   .exact bg.loadCells n a (i+1) _ _ _ _ _ h
   .cases h
def bg.firstCells (s n:Nat) (x:fu):bg (Builtin.firstCells s n x):=by
 intro Q w b w1 h;have key:∀c:Array fu,Result.ok c w=.ok b w1->w1=w:=λc h=>by simp only[Result.ok.injEq]at h;exact h.2.symm
 cases x with
 |string s=>exact key _ h
 |slice a l c=>
  cases a with
  |none=>exact key _ h
  |some a=>exact bg.loadCells _ a 0 _ Q w b w1 h
 |_=>cases h
def xW {H:Hp} (hr:Rl P S K p H.get Fp w) (hg:P.globals.size<=H.n) (hx:VR S p x x') (hn:∀b c,x=.slice b 0 c->n=0) {cs:Array fu} {Ha:Hp} (e:aF P (Builtin.firstCells size n x) H=some (cs,Ha,R,W))
 (hF:∀r,R.testBit r=true->Fp r) (hw:w2.heap=w.heap):∃kQ,(Builtin.firstCells size n x').run (ae P F) w2=.ok kQ w2/\AR S p cs kQ:=by
 obtain⟨rfl,rfl⟩:=RO.firstCells P size n x _ _ _ _ _ e;obtain⟨kQ,w1,q,h1,h2,h3,_⟩:=lq (P:=P) (F:=F) (K:=K) (Builtin.firstCells size n x) (SR.firstCells (P:=P) (F:=F) (S:=S) (K:=K) (N:=0) size n hx hn (hr.heap hw).ok) e (hr.heap hw) hg (λr a b=>by omega) (λr h=>.inr (h.elim (hF r) λh=>by simp at h));have:=bg.firstCells _ _ _ _ _ _ _ h1;subst this;refine⟨kQ,h1,AR.mono ⟨λr r' x=>?_,λr k x=>?_,λ_ _ _ _ x=>h3.le.x _ _ x,h3.le.l.symm⟩ h2⟩
 .rcases h3.new r r' x with y|⟨a,b,_⟩
  .exact y
  .omega
 .rcases h3.zR r k x with y|⟨a,b⟩
  .exact y
  .omega
def Cp (hx:VR S p x x') (h:Cm x=some n):Cm x'=some n:=by
 cases hx<;>first|exact h|(simp only[Cm,reduceCtorEq]at h;done)
def Cq:∀(n:Nat) (v:fu),plain n v=true->∀u∈v.cells,∃m,plain m u=true:=by
 intro n v h u hu;cases v with
 |agg xs=>
  cases n with
  |zero=>simp[plain]at h
  |succ n=>
   simp only[plain]at h;exact⟨n,Array.all_eq_true'.1 h u (by simpa [Value.cells]using hu)⟩
 |_=>simp[Value.cells]at hu;subst hu;exact⟨n,h⟩
def ti {z:Array fu} {X:fu->Prop} (h:∀u∈z,X u) (k:Nat) {j:Nat} {u:fu} (hj:(Builtin.zeroCells z k)[j]?=some u):X u:=by
 unfold Builtin.zeroCells at hj;rw[zCN]at hj;cases hr:(Array.range (k*z.size))[j]? with
 |none=>rw[hr]at hj;cases hj
 |some x=>
  rw[hr]at hj;simp only[zBA,zAA]at hj;subst hj;have av:=(zAD.1 hr).1;simp at av
  have hz:0<z.size:=by
   rcases zBY z.size with h|h
   .rw[h]at av;omega
   .exact h
  have hm:x%z.size<z.size:=zGH _ hz;rw[getElem!_pos z (x%z.size) hm];exact h _ (zEL hm)
def zU (hi:P.info? e=some i) (hz:i.zero=some z) (hzp:∀u∈z.cells,(∃m,plain m u=true)/\K.z e u) (hzs:z.cells.size=i.size) {b b':Option Addr} {wK:Nat} (hs:VR S p (.slice b sl sc) (.slice b' sl wK)) (hx:VR S p x x') (hlen:Cm x=some n)
 (Zo:sc<sl+n) (Cj:(2*(sl+n)+768)*i.bytes<=2^48) (zdY:sl+n<2^62) {old new:Array fu} (hold:old.size=sl*i.size) (j9:new.size=n*i.size) (GU:∀v∈new,dY v=true)
 {H:Hp} (hr:Rl P S K p H.get Fp w) (hg:P.globals.size<=H.n) (ho:∀w2:nq,w2.heap=w.heap->∃kQ,(Builtin.firstCells i.size sl (.slice b' sl wK)).run (ae P F) w2=.ok kQ w2/\AR S p old kQ)
 (hw:∀w2:nq,w2.heap=w.heap->∃kQ,(Builtin.firstCells i.size n x').run (ae P F) w2=.ok kQ w2/\AR S p new kQ) {H1:Hp} (he:rp P e i.size b (sl+n) sc (old++new) H R=some (v,H1,R1,W1))
 (hn:∀r',¬p H.n r') (hF:∀r,W1.testBit r=true->(H.n<=r/\r<H1.n)\/Fp r)
 (hoc:∀a c e' fz,b=some a->H.get a.block=some (.cells c e' fz)->a.off=0->c.size=sc*i.size->a.spot=none->∀j,j<old.size->old[j]?=c[j]?):
 ∃v' w1 q,(fy e b' sl wK i.size x').run (ae P F) w=.ok v' w1/\VR S q v v'/\Mv (λr=>W1.testBit r=true) p H.n w q H1.n w1/\Rl P S K q H1.get (λr=>Fp r\/(H.n<=r/\r<H1.n)) w1:=by
 have Vh:P2 P e=i.size:=by unfold P2;rw[hi];rfl
 have grow:∀{H2:Nat->Option Obj},Rl P S K p H2 Fp w->wK<sl+n->(∀m,H1.get m=if m=H.n then some (.cells (old++new) e (1,0))else H2 m)->v=.slice (some ⟨H.n,0,none⟩) (sl+n) (sl+n)->H1.n=H.n+1->
  ∃v' w1 q,(fy e b' sl wK i.size x').run (ae P F) w=.ok v' w1/\VR S q v v'/\Mv (λr=>W1.testBit r=true) p H.n w q H1.n w1/\Rl P S K q H1.get (λr=>Fp r\/(H.n<=r/\r<H1.n)) w1:=by
  intro H2 qT av Zp hv Bp;let w1:nq:={w with drawn:=w.drawn+1}
  let k:=w.tape w.drawn (.appendCap (sl+n) wK e)%(2^63-(sl+n))
  obtain⟨P6,He,pz⟩:=ho w1 rfl;obtain⟨zV,iO,zF⟩:=hw w1 rfl;let cells:=P6++zV++Builtin.zeroCells z.cells k
  have qS:cells.size=(old++new).size+k*i.size:=by
   show(P6++zV++Builtin.zeroCells z.cells k).size=_;unfold Builtin.zeroCells;simp only[zEX,Array.size_map,Array.size_range,hzs,pz.1,zF.1]
  have sZ:OR S K p (.cells (old++new) e (1,0)) (.cells cells e (0,0)):=by
   refine .cM hr.lx e (1,0) (0,0) (by rw[qS];omega) (.inr ⟨λj _ h=>by omega,λ_=>rfl⟩) (λj u' hj h2=>?_) λj u u' h1 h2=>?_
   .have hon:=pz.append zF;have:cells[j]?=(Builtin.zeroCells z.cells k)[j-(P6++zV).size]?:=zDL (by rw[<-hon.1];exact hj);rw[this]at h2;exact ti hzp k h2
   have hj:j<(old++new).size:=(zAD.1 h1).1;have hon:=pz.append zF;have:cells[j]?=(P6++zV)[j]?:=zEJ (by rw[<-hon.1];exact hj);rw[this]at h2;exact hon.2 j u u' h1 h2
  obtain⟨g1,g2⟩:=(qT.heap (w2:=w1) rfl).Tj (n:=H.n) (k:=k) hn hg sZ ⟨_,_,_,_,_,rfl,rfl,by rw[qS,Vh],.inr (by have:=zGH (w.tape w.drawn (.appendCap (sl+n) wK e)) (show 0<2^63-(sl+n) by omega);show w.tape w.drawn (.appendCap (sl+n) wK e)%(2^63-(sl+n))+1<2^63;omega),by decide⟩ Zp;refine⟨.slice (some ⟨w.heap.size,0,none⟩) (sl+n) (sl+n+k),_,_,?_,?_,by rw[Bp];exact(g2.Mc (w0:=w) rfl).mono λ_ h=>h.elim,g1.mono λr h=>h.imp id λ⟨a,b⟩=>by omega⟩
  .unfold aC.fy;rw[xV (Cp hx hlen)];simp only[pure_bind];rw[zAG (by omega),run_typeInfo hi]
   rw[zAG (by rintro⟨h1,_⟩;have e9:IntKind.i64.max=9223372036854775807:=(by decide);rw[e9]at h1;omega)]
   unfold aC.oH;rw[run_typeInfo hi,zAG ?_]
   .unfold aC.fN;rw[run_choose rfl,run_typeInfo hi,run_askRoom];rw[dx (ae P F) _ _ _ He,dx (ae P F) _ _ _ iO,wQ hi hz];have e0:(Question.appendCap (sl+n) wK e).cut (w.tape w.drawn (.appendCap (sl+n) wK e))=sl+n+k:=rfl;rw[e0];have e1:sl+n+k-(sl+n)=k:=by omega
    rw[e1];rfl
   .have:=Fk av;have:=zDJ i.bytes this;omega
  .rw[hv];exact .dp 0 (sl+n) hr.lx (.inr ⟨rfl,rfl⟩) (by omega) (.inr ⟨rfl,rfl⟩)
 obtain⟨_,tf⟩:=mB hs;unfold rp at he;cases b with
 |none=>
  simp only[zAA,zAH]at he;obtain⟨rfl,rfl,rfl,rfl⟩:=he;refine grow (H2:=H.get) hr ?_ (λm=>Hp.kG H _ m) rfl rfl;rcases tf with⟨_,_,e⟩|⟨a,_,e,_⟩|⟨_,_,a,_,e,_⟩
  .omega
  .cases e
  .cases e
 |some a=>
  simp only at he;cases mt:a.spot with
  |some y=>rw[mt]at he;cases he
  |none=>
  rw[mt]at he;simp only[Option.isNone_none,zAS]at he;by_cases P7:sc=0
  .subst P7;simp only[Nat.beq_refl,zAS,zAA,zAH]at he;obtain⟨rfl,rfl,rfl,rfl⟩:=he;refine grow (H2:=H.get) hr ?_ (λm=>Hp.kG H _ m) rfl rfl;rcases tf with⟨_,_,e⟩|⟨a2,_,e,_,_,e2|⟨_,h0,_⟩⟩|⟨_,_,a2,_,e,_,⟨_,e2⟩|⟨e2,_⟩⟩
   .omega
   .omega
   .omega
   .cases e;rw[mt]at e2;cases e2
   .rw[hr.lx]at e2;cases e2
  .rw[iT P7]at he;simp only[zAQ]at he;split at he<;>try(cases he;done)
   rename_i c e' fz zA;cases hb:(Nat.beq a.off 0&&Nat.beq e' e&&Nat.beq c.size (sc*i.size)&&Nat.ble fz.1 1&&Nat.beq fz.2 0&&Nat.ble P.globals.size a.block&&Nat.blt 0 i.size)<;>rw[hb]at he<;>simp only[zAS,zAQ]at he
   .cases he
   simp only[zAE]at hb;obtain⟨⟨⟨⟨⟨⟨b1,b2⟩,b3⟩,b4⟩,b5⟩,b6⟩,b7⟩:=hb;have hi1:i.size≠0:=λe=>by rw[e]at b7;cases b7
   have b1:=zAK b1;have b2:=zAK b2;have b3:=zAK b3;have b5:=zAK b5;have b6:=zBC b6;subst b2;simp only[zAA,zAH]at he;obtain⟨rfl,rfl,rfl,rfl⟩:=he
   have bC:a.block≠H.n:=λe=>by
    rcases tf with⟨e1,_⟩|⟨a2,a2',e1,_,h3,_⟩|⟨_,_,a2,_,e1,_,⟨_,e2⟩|⟨e2,_⟩⟩
    .cases e1
    .cases e1;exact hn _ (e▸h3.1)
    .cases e1;rw[mt]at e2;cases e2
    .rw[hr.lx]at e2;cases e2
   have L9:Fp a.block:=(hF a.block (by rw[zAO,(tb _ _).2 rfl,zBW])).resolve_left λ⟨x,y⟩=>by
    have y:a.block<H.n+1:=y;omega
   have Zp:∀m,((H.put a.block none).push (.cells (old++new) e' (1,0))).get m=if m=H.n then some (.cells (old++new) e' (1,0))else if m=a.block then none else H.get m:=λm=>by
    rw[Hp.kG];show(if m=H.n then _ else _)=_;rw[Hp.get_put]
   have Zq:Rl P S K p (λm=>if m=a.block then none else H.get m) Fp w:=hr.kill λm=>rfl;rcases tf with⟨e1,_⟩|⟨a2,a',e1,rfl,ha,kv⟩|⟨_,_,a2,_,e1,_,⟨_,e2⟩|⟨e2,_⟩⟩
   .cases e1
   .cases e1;rcases zCX wK (sl+n)with av|By
    .exact grow Zq av Zp rfl rfl
    ·
     obtain⟨_,h0,_,k0,qZ,rfl⟩:=kv.resolve_left (by omega);obtain⟨o',g1,g2,g3⟩:=hr.at L9 ha.1 zA;obtain⟨c0,e0,fz0,c',fU,e5,rfl,cr,wR⟩:=g3.1 k0 qZ;cases e5;rw[Vh,b3,<-zFU]at cr;have Jb:a'.spot=none:=ha.2.2.symm.trans mt;have Tl:a'.off=0:=ha.2.1.symm.trans b1
     have Zr:(∀j,j<c'.size->¬(fU.1<=j/\j<fU.2))/\(S 999999=true->fU=(0,0)):=by
      cases g2 with
      |cells e fz hw g=>
       have:=hw hr.lx;exact⟨λj _ h=>by omega,λ_=>Prod.ext (by omega) b5⟩
      |cM _ e fz fU hl hz hs g=>
       rcases hz with⟨_,hz⟩|hz
       .have zdZ:sc*i.size=0:=by omega
        have EY:i.size=0:=by
         rcases Nat.mul_eq_zero.1 zdZ with h|h
         .exact absurd h P7
         .exact h
        exact absurd EY hi1
       .exact hz
     have Zs:=Zr.1;obtain⟨cc,fz2,e6,BH,SX,_⟩:=g2.rn;cases e6;obtain⟨zV,iO,zF⟩:=hw w rfl;have Tm:(a'.add (sl*i.size)).off=sl*i.size:=by unfold Addr.add;split<;>simp_all
     have hle:sl*i.size+n*i.size<=c'.size:=by rw[cr,<-zFU];exact zDJ _ By
     obtain⟨w2,c2,s1,s2,s3,s4,s5,s6,s7,s8⟩:=uK (ae P F) zV.toList (a'.add (sl*i.size)) 0 w c' e' fU (by rw[gp];exact g1) (pJ _ _ Jb) (by rw[Tm];simp only[zFJ,<-zF.1,j9];omega) Zs (λu hu=>by
      obtain⟨j,hj,hju⟩:=zCQ hu;have Bl:j<zV.size:=by simpa using hj
      have pW:j<new.size:=by rw[zF.1];exact Bl
      have hrel:=zF.2 j new[j] zV[j] (zAI pW) (zAI Bl);have:u=zV[j]:=by rw[<-hju];simp
      rw[this,<-hrel.dY];exact GU _ (zEL pW))
     rw[Tm,zDX]at s6 s7 s8;rw[gp]at s3 s4;have zk5:sl*i.size+n*i.size=(sl+n)*i.size:=(zFU ..).symm;have hk:(sl+n)*i.size+(sc+k0-(sl+n))*i.size=(sc+k0)*i.size:=by rw[<-zFU];congr 1;omega
     have sZ:OR S K p (.cells (old++new) e' (1,0)) (.cells c2 e' fU):=by
      refine .cM hr.lx e' (1,0) fU (by rw[s5,zEX,hold,j9];omega) (.inr ⟨by rw[s5];exact Zs,Zr.2⟩) (λj u' hj h2=>?_) λj u u' h1 h2=>?_
      .rw[zEX,hold,j9]at hj;rw[s8 j (by simp only[zFJ,<-zF.1,j9];omega)]at h2
       have hjc:c.size<=j:=by
        rw[b3];exact zAP (zDJ _ (zFB Zo)) (by omega)
       cases g2 with
       |cells e fz hw g=>
        have:=(zAD.1 h2).1;rw[<-g.1]at this;omega
       |cM _ e fz fU hl hz hs g=>exact hs j u' hjc h2
      rw[zFC]at h1;by_cases hj:j<old.size
      .rw[zAF hj]at h1;rw[s6 j (by omega)]at h2;rw[hoc a c e' fz rfl zA b1 b3 mt j hj]at h1;exact SX j u u' h1 h2
      .rw[zAG hj]at h1;have av:=(zAD.1 h1).1;have:=s7 (j-old.size) (by simp only[zFJ,<-zF.1];exact av);rw[show sl*i.size+(j-old.size)=j by omega]at this;rw[this]at h2;exact zF.2 _ u u' h1 (by simpa using h2)
     obtain⟨r1,r2⟩:=hr.reuse (n:=H.n) (s:=a.block) (r':=a'.block) (k:=sc+k0-(sl+n)) hn hg b6 L9 ha.1 (by rw[zA];rfl) sZ ⟨_,_,_,_,_,rfl,rfl,by rw[s5,Vh,zEX,hold,j9,cr];omega,.inr (by
      rcases wR.1 with wR|wR
      .rw[b3]at wR;rcases Nat.mul_eq_zero.1 wR with h|h
       .exact absurd h P7
       .exact absurd h hi1
      .omega),by decide⟩ Zp s2 s4 s3
     refine⟨.slice (some a') (sl+n) (sc+k0),w2,_,?_,?_,r2.mono λr h=>by subst h;rw[zAO,(tb _ _).2 rfl,zBW],r1.mono λr h=>h.imp id λ⟨x,y⟩=>by
      have y:r<H.n+1:=y;omega⟩
     .unfold aC.fy;rw[xV (Cp hx hlen)];simp only[pure_bind];rw[zAF By,dx (ae P F) _ _ _ iO];rw[dx (ae P F) _ _ _ s1];rfl
     .have ea:a'=⟨a'.block,0,none⟩:=by
       obtain⟨x,y,z⟩:=a';simp only at Tl Jb;subst Tl;subst Jb;rfl
      have hv:VR S (Jy p H.n a'.block (sc+k0-(sl+n))) (.slice (some ⟨H.n,0,none⟩) (sl+n) (sl+n)) (.slice (some ⟨a'.block,0,none⟩) (sl+n) ((sl+n)+(sc+k0-(sl+n)))):=.dp 0 (sl+n) hr.lx (.inr ⟨rfl,rfl⟩) (by omega) (.inr ⟨rfl,rfl⟩);have e8:(sl+n)+(sc+k0-(sl+n))=sc+k0:=by omega
      rw[e8]at hv;rw[ea];exact hv
   .cases e1;rw[mt]at e2;cases e2
   .rw[hr.lx]at e2;cases e2
end
section
variable {P:un} {F:Array Func} {S:Nat->Bool} {K:Kz} {p:Pi} {Fp:Nat->Prop} {w:nq}
def oq (P:un) {H:Hp} {c:Array fu} (hg:H.get a.block=some (.cells c e fz)):∀(n i:Nat) (acc:Array fu) {cs:Array fu} {H1:Hp} {R W:Nat},aF P (Go.loadCellsFrom a i n acc) H=some (cs,H1,R,W)->
 ∃l:Array fu,cs=acc++l/\l.size=n/\∀j,j<n->l[j]?=c[(a.add (i+j)).off]?
 |0,i,acc,cs,H1,R,W,h=>by
  have h:some (acc,H,0,0)=some (cs,H1,R,W):=h;simp only[zAA,zAH]at h;exact⟨#[],by simp[h.1],rfl,λj hj=>absurd hj (zEG j)⟩
 |n+1,i,acc,cs,H1,R,W,h=>by
  simp only[Go.loadCellsFrom]at h;have h:aF P (Sem.load .plain (a.add i) λv=>Go.loadCellsFrom a (i+1) n (acc.push v)) H=some (cs,H1,R,W):=h;simp only[aF]at h;rw[gp,hg]at h;simp only at h;split at h<;>try(cases h;done)
  split at h<;>try(cases h;done)
  rename_i v hv;obtain⟨R0,h2,_⟩:=ib h;obtain⟨l,h3,h4,h5⟩:=oq P hg n (i+1) _ h2;refine⟨#[v]++l,by rw[h3];simp,by simp[h4];omega,λj hj=>?_⟩;cases j with
  |zero=>rw[zEJ (by simp),zDX];exact hv.symm
  |succ j=>
   have:=h5 j (by omega);rw[show i+(j+1)=i+1+j by omega,<-this];simp[zFC]
def XU (P:un) (K:Kz):Prop:=∀e i z,P.info? e=some i->i.zero=some z->∀u∈z.cells,K.z e u
def Fm (hzp:bz P) (hZ:XU P K) (ht:xG P ts=true) (Tk:∀t1,ts[1]?=some t1->(P.underlying t1).isSome) (t:a00) {cW:Array fu} (h:AR S p xs cW) {H:Hp} {H1:Hp} (e:Mb P ts xs H=some (v,H1,R1,W1))
 (hr:Rl P S K p H.get Fp w) (hg:P.globals.size<=H.n) (hn:∀r,H.n<=r->r<H1.n->∀r',¬p r r') (hF:∀r,(R1.testBit r=true\/W1.testBit r=true)->(H.n<=r/\r<H1.n)\/Fp r):
 ∃v' w1 q,(Builtin.append_ ts t cW).run (ae P F) w=.ok v' w1/\VR S q v v'/\Mv (λr=>W1.testBit r=true) p H.n w q H1.n w1/\Rl P S K q H1.get (λr=>Fp r\/(H.n<=r/\r<H1.n)) w1:=by
 unfold Mb at e;split at e<;>try(cases e;done)
 rename_i sT h0;split at e<;>try(cases e;done)
 rename_i b sl sc h1;split at e<;>try(cases e;done)
 rename_i x h2;split at e<;>try(cases e;done)
 rename_i el hu;split at e<;>try(cases e;done)
 rename_i i hi;split at e<;>try(cases e;done)
 rename_i n hlen;split at e<;>try(cases e;done)
 rename_i z hz;split at e<;>try(cases e;done)
 rename_i old Ha Ra Wa ea;split at e<;>try(cases e;done)
 rename_i new Hb Rb Wb eb;unfold Ma at e;cases hb:(Nat.blt sc (sl+n)&&Nat.ble ((2*(sl+n)+768)*i.bytes) (2^48)&&Nat.blt (sl+n) (2^62)&&Nat.beq z.cells.size i.size&&Nat.beq new.size (n*i.size)&&Nat.beq old.size (sl*i.size)&&new.all dY)<;>rw[hb]at e<;>simp only[zAS,zAQ]at e
 .cases e
 simp only[zAE,Nat.blt_eq]at hb;obtain⟨⟨⟨⟨⟨⟨b1,b2⟩,b3⟩,b4⟩,b5⟩,b6⟩,b7⟩:=hb;have b2:=zBC b2;have b4:=zAK b4;have b5:=zAK b5;have b6:=zAK b6;obtain⟨s',BF,hs⟩:=h.get h1;obtain⟨x',uk,hx⟩:=h.get h2;have zd0:∃b' wK,s'=.slice b' sl wK:=by cases hs<;>exact⟨_,_,rfl⟩
 obtain⟨b',wK,rfl⟩:=zd0
 have j9:H1.n=H.n+1/\R1=Ra|||Rb:=by
  unfold rp at e;split at e
  .simp only[zAA,zAH]at e;obtain⟨rfl,rfl,rfl,rfl⟩:=e;exact⟨rfl,rfl⟩
  .rename_i a;cases mt:a.spot.isNone<;>rw[mt]at e<;>simp only[zAS,zAQ]at e
   .cases e
   cases P7:Nat.beq sc 0<;>rw[P7]at e<;>simp only[zAS,zAQ]at e
   .split at e<;>try(cases e;done)
    rename_i c e' fz _;cases BE:(Nat.beq a.off 0&&Nat.beq e' el&&Nat.beq c.size (sc*i.size)&&Nat.ble fz.1 1&&Nat.beq fz.2 0&&Nat.ble P.globals.size a.block&&Nat.blt 0 i.size)<;>rw[BE]at e<;>simp only[zAS,zAQ]at e
    .cases e
    simp only[zAA,zAH]at e;obtain⟨rfl,rfl,rfl,rfl⟩:=e;exact⟨rfl,rfl⟩
   .simp only[zAA,zAH]at e;obtain⟨rfl,rfl,rfl,rfl⟩:=e;exact⟨rfl,rfl⟩
 obtain⟨Bp,rfl⟩:=j9
 have YZ:∀{size n:Nat} {x:fu} {cs:Array fu} {Ha:Hp} {R W:Nat},aF P (Builtin.firstCells size n x) H=some (cs,Ha,R,W)->(∀r,R.testBit r=true->(Ra|||Rb).testBit r=true)->(∀r,R.testBit r=true->(H.get r).isSome->∃r',p r r')->∀r,R.testBit r=true->Fp r:=by
  intro size n x cs Ha R W e1 P8 hp r sn;obtain⟨rfl,rfl⟩:=RO.firstCells P size n x _ _ _ _ _ e1;have Eo:=bF P _ e1;rcases hF r (.inl (P8 r sn))with⟨x,y⟩|y
  .rcases Eo.rd r sn with⟨u,v⟩|u
   .omega
   .obtain⟨r',sb⟩:=hp r sn u;exact absurd sb (hn r x y r')
  .exact y
 have known:∀{size n:Nat} {x x':fu} {cs:Array fu} {Ha:Hp} {R W:Nat},VR S p x x'->aF P (Builtin.firstCells size n x) H=some (cs,Ha,R,W)->∀r,R.testBit r=true->∃r',p r r':=by
  intro size n x x' cs Ha R W hx e1 r Zt
  have key:∀(n i:Nat) (a:Addr) (acc cs:Array fu) (Ha:Hp) (R W:Nat),aF P (Go.loadCellsFrom a i n acc) H=some (cs,Ha,R,W)->R.testBit r=true->r=a.block:=by
   intro n;induction n with
   |zero=>
    intro i a acc cs Ha R W e hb;have e:some (acc,H,0,0)=some (cs,Ha,R,W):=e;simp only[zAA,zAH]at e;obtain⟨_,_,rfl,_⟩:=e;simp at hb
   |succ n ih=>
    intro i a acc cs Ha R W e hb;simp only[Go.loadCellsFrom]at e;have e:aF P (Sem.load .plain (a.add i) λv=>Go.loadCellsFrom a (i+1) n (acc.push v)) H=some (cs,Ha,R,W):=e;simp only[aF]at e;split at e<;>try(cases e;done)
    split at e<;>try(cases e;done)
    split at e<;>try(cases e;done)
    obtain⟨R0,e2,rfl⟩:=ib e;rw[zAO,zBM,tb,gp]at hb;rcases hb with hb|hb
    .exact ih _ _ _ _ _ _ _ e2 hb
    .exact hb
  cases hx with
  |slice o sp l c g hX=>rw[key _ 0 _ _ _ _ _ _ e1 Zt];exact⟨_,g⟩
  |dp o l _ g h0 hx=>rw[key _ 0 _ _ _ _ _ _ e1 Zt];exact⟨_,g⟩
  |fT o o' c' _ g=>rw[key _ 0 _ _ _ _ _ _ e1 Zt];exact⟨_,g⟩
  |ee hl=>rw[hr.lx]at hl;cases hl
  |dn l c=>
   have e1:some (#[],H,0,0)=some (cs,Ha,R,W):=e1;simp only[zAA,zAH]at e1;obtain⟨_,_,rfl,_⟩:=e1;simp at Zt
  |string s=>
   have e1:some (_,H,0,0)=some (cs,Ha,R,W):=e1;simp only[zAA,zAH]at e1;obtain⟨_,_,rfl,_⟩:=e1;simp at Zt
  |_=>cases e1
 have F1:=YZ ea (λr h=>by rw[zAO,h,zDY]) λr h _=>known hs ea r h;have F2:=YZ eb (λr h=>by rw[zAO,h,zBW]) λr h _=>known hx eb r h;rw[Fl ht t h0 BF uk hu hi Tk]
 refine zU hi hz (λu hu=>⟨Cq _ _ (hzp _ _ _ hi hz) u hu,hZ _ _ _ hi hz u hu⟩) b4 hs hx hlen b1 b2 b3 b6 b5 (λu hu=>Array.all_eq_true'.1 b7 u hu) hr hg (λw2 h2=>xW hr hg hs (λb c e=>by cases e;rfl) ea F1 h2) (λw2 h2=>xW hr hg hx (λb c e=>by subst e;simp only[Cm,zAA]at hlen;exact hlen.symm) eb F2 h2) e
  (λr'=>hn H.n (zAB _) (by omega) r') (λr h=>hF r (.inr h)) ?_
 intro a c e' fz hba zA Jt qS mt j hj;subst hba;obtain⟨l,h3,h4,h5⟩:=oq P zA _ 0 #[] ea;rw[h3,zDR];have pW:j<sl*i.size:=by omega
 rw[h5 j pW];have:(a.add (0+j)).off=j:=by unfold Addr.add;split<;>simp_all
 rw[this]
end
def jQ (P:un) (S:Nat->Bool) (o:Op):Bool:=
 match o with
 |.slice .. |.convert ..=>!S 999999&&o.operands.all (iA P S)
 |.call ⟨.builtin .append,_,ts⟩=>pN P S o&&(match ts[1]? with|some t=>(P.underlying t).isSome|none=>true)
 |o=>pN P S o
def Vi:fu->Bool
 |.slice ..=>true
 |_=>false
def Md (mx:Option Operand) (x:fu):Rs Next->Rs Next
 |some (.value (.slice (some a) l 0),H1,R,W)=>bif mx.isNone&&Vi x then(match l,a.spot with|0,none=>some (.value (.slice (some ⟨a.block,a.off,some 0⟩) 0 0),H1,R,W)|_,_=>none)else some (.value (.slice (some a) l 0),H1,R,W)
 |x=>x
def Cr (P:un) (e:a00):Bool:=match P.info? e with
 |some i=>match i.zero with
  |some (.int .u8 (.ofNat 0))=>true
  |_=>false
 |none=>false
def Fq {P:un} (h:Cr P e=true):∃i,P.info? e=some i/\i.zero=some (.int .u8 0):=by
 unfold Cr at h;split at h<;>try(cases h;done)
 rename_i i hi;split at h<;>try(cases h;done)
 rename_i hz;exact⟨i,hi,hz⟩
def Fr (P:un) (s d:a00) (x:fu) (H:Hp):Option (Rs Next):=
 match P.underlying s with
 |some .string=>match P.underlying d with
  |some (.slice e)=>match P.underlying e with
   |some (.int .u8)=>match x with
    |.string bs=>some (bif Nat.beq (P2 P e) 1&&Cr P e&&Nat.blt bs.size 4611686018427387904 then some (.value (.slice (some ⟨H.n,0,bif Nat.beq bs.size 0 then some 0 else none⟩) bs.size bs.size),H.push (.cells (bs.data.map λb=>.int .u8 b.toNat) e (1,0)),0,2^H.n)else none)
    |_=>some none
   |_=>some none
  |_=>none
 |_=>none
def mO (P:un) (r:Operand->fu) (o:Oper) (H:Hp):Rs Next:=
 bif lP r o.op then match o.op with
 |.slice _ x _ _ mx=>Md mx (r x) (aF P (execOp r o) H)
 |.call ⟨.builtin .append,as,ts⟩=>match Mb P ts (as.map r) H with
  |some (v,H1,R,W)=>some (.value v,H1,R,W)
  |none=>aF P (execOp r o) H
 |.convert s d x=>match Fr P s d (r x) H with
  |some y=>y
  |none=>bif rf P s d then aF P (execOp r o) H else none
 |_=>aF P (execOp r o) H
 else none
section
variable {P:un} {F:Array Func} {S:Nat->Bool} {K:Kz} {p:Pi} {Fp:Nat->Prop} {w:nq}
def Cs (a:Array Obj) (o:Obj) (f:Obj->Obj):(a.push o).modify a.size f=a.push (f o):=by
 apply zFM;intro i;rw[zDD,zBS,zBS];by_cases h:i=a.size
 .subst h;simp
 .rw[zAG h,zAG h,zAG (Ne.symm h)]
def zW {s d:a00} {bs:ByteArray} (h1:P.underlying s=some .string) (h2:P.underlying d=some (.slice e)) (h3:P.underlying e=some (.int .u8)) (hz:P2 P e=1) (h8:K.z e (.int .u8 0)) (GX:S 999999=false) (hbs:bs.size<4611686018427387904) {H:Hp}
 (hr:Rl P S K p H.get Fp w) (hg:P.globals.size<=H.n) (hn:∀r',¬p H.n r') (hv:v=.slice (some ⟨H.n,0,bif Nat.beq bs.size 0 then some 0 else none⟩) bs.size bs.size) {H1:Hp} (hH:H1=H.push (.cells (bs.data.map λb=>.int .u8 b.toNat) e (1,0))):
 ∃v' w1 q,(Go.convert s d (.string bs)).run (ae P F) w=.ok v' w1/\VR S q v v'/\Mv (λr=>(2^H.n).testBit r=true) p H.n w q H1.n w1/\Rl P S K q H1.get (λr=>Fp r\/(H.n<=r/\r<H1.n)) w1:=by
 subst hH;let w1:nq:={w with drawn:=w.drawn+1}
 let k:=w.tape w.drawn (.appendCap bs.size 0 e)%(2^63-bs.size)
 let el:Array fu:=bs.data.map λb=>.int .u8 b.toNat
 let cells:=el++Array.replicate k (.int .u8 0)
 have qS:cells.size=el.size+k*P2 P e:=by simp[cells,hz]
 have Vj:el.size=bs.size:=by simp[el]
 have sZ:OR S K p (.cells el e (1,0)) (.cells cells e (cells.size,cells.size+1)):=by
  refine .cM hr.lx e _ _ (by omega) (.inr ⟨λj hj h=>by simp only at h;omega,λh=>by rw[GX]at h;cases h⟩) (λj u' hj b=>?_) λj u u' a b=>?_
  .have:cells[j]?=(Array.replicate k (Value.int .u8 0))[j-el.size]?:=zDL hj;rw[this,zDZ]at b;split at b
   .simp only[zAA]at b;subst b;exact⟨⟨0,rfl⟩,h8⟩
   .cases b
  have hj:=(zAD.1 a).1;have:cells[j]?=el[j]?:=zEJ hj;rw[this]at b;have:u'=u:=by rw[a]at b;exact(zAV b).symm
  subst this;have a2:(bs.data.map λb=>Value.int .u8 b.toNat)[j]?=some u':=a;rw[zCN]at a2;cases hx:bs.data[j]? with
  |none=>rw[hx]at a2;cases a2
  |some y=>
   rw[hx]at a2;simp only[zBA,zAA]at a2;rw[<-a2];exact .int _ _
 obtain⟨g1,g2⟩:=(hr.heap (w2:=w1) rfl).Tj (n:=H.n) (k:=k) hn hg sZ ⟨_,_,_,_,_,rfl,rfl,qS,(zBY bs.size).imp (λh=>by rw[Vj];exact h) λh=>by
  have:=zGH (w.tape w.drawn (.appendCap bs.size 0 e)) (show 0<2^63-bs.size by omega);show w.tape w.drawn (.appendCap bs.size 0 e)%(2^63-bs.size)+1<2^63;omega,by decide⟩ (λm=>Hp.kG H _ m)
 have bp:∃w2,(Go.convert s d (.string bs)).run (ae P F) w=.ok (.slice (some ⟨w.heap.size,0,none⟩) bs.size (bs.size+k)) w2/\w2.heap=w.heap.push (.cells cells e (cells.size,cells.size+1)):=by
  refine⟨{w1 with heap:=w.heap.push (.cells cells e (cells.size,cells.size+1))},?_,rfl⟩;unfold Go.convert;rw[run_underlying h1,run_underlying h2];simp only;rw[run_underlying h3];simp only;unfold Conv.stringToBytes;rw[run_choose rfl];have e0:(Question.appendCap bs.size 0 e).cut (w.tape w.drawn (.appendCap bs.size 0 e))=bs.size+k:=rfl;rw[e0];have e1:bs.size+k-bs.size=k:=by omega
  rw[e1];simp only[Go.newRow,Go.newObj,Go.markStringish,Go.shape,Go.freeze,bind,Sem.bind,Pure.pure,Sem.run,World.shape?,World.freeze,cells,el];simp;show Result.ok _ (World.freeze _ _ 1)=_;unfold World.freeze;simp only[Nat.one_ne_zero,zBJ];rw[Cs];rfl
 obtain⟨w2,c1,c2⟩:=bp;refine⟨_,w2,_,c1,?_,(g2.Mc (w0:=w) rfl|>.mono λ_ h=>h.elim).heap c2,(g1.heap c2).mono λr h=>h.imp id λ⟨a,b⟩=>?_⟩
 .rw[hv];by_cases h0:bs.size=0
  .rw[h0];exact .fT 0 0 _ hr.lx (.inr ⟨rfl,rfl⟩)
  .rw[iT h0];exact .dp 0 bs.size hr.lx (.inr ⟨rfl,rfl⟩) (by omega) (.inr ⟨rfl,rfl⟩)
 .have b:r<H.n+1:=b;omega
structure Ok (P:un) (F:Array Func) (S:Nat->Bool):Prop where
 nj:S JK=false
 i6:bz P
 eh:aS P
 oJ:rh P F S
def xX {mx:Option Operand} {y:Rs Next} {H1:Hp} (e:Md mx x y=some (nx,H1,R1,W1)):
 ∃Vk,y=some (Vk,H1,R1,W1)/\((mx.isNone&&Vi x)=false/\nx=Vk\/(∀a l,Vk≠ .value (.slice (some a) l 0))/\nx=Vk\/∃a,a.spot=none/\Vk=.value (.slice (some a) 0 0)/\nx=.value (.slice (some ⟨a.block,a.off,some 0⟩) 0 0)):=by
 unfold Md at e;split at e
 .rename_i a l H2 R2 W2;cases hb:(mx.isNone&&Vi x)<;>rw[hb]at e<;>simp only[zAS,zAQ]at e
  .simp only[zAA,zAH]at e;obtain⟨rfl,rfl,rfl,rfl⟩:=e;exact⟨_,rfl,.inl ⟨rfl,rfl⟩⟩
  .split at e
   .simp only[zAA,zAH]at e;obtain⟨rfl,rfl,rfl,rfl⟩:=e;rename_i mt;exact⟨_,rfl,.inr (.inr ⟨a,mt,rfl,rfl⟩)⟩
   .cases e
 .rename_i bC;refine⟨nx,e,.inr (.inl ⟨λa l h=>?_,rfl⟩)⟩;subst h;exact bC _ _ _ _ _ e
def oN (hk:Ok P F S) (hZ:XU P K) {r r':Operand->fu} (h:tg P S p r r') (o:Oper) (ho:jQ P S o.op=true) {H:Hp} {H1:Hp} (e:mO P r o H=some (nx,H1,R1,W1))
 (hr:Rl P S K p H.get Fp w) (hg:P.globals.size<=H.n) (hn:∀r,H.n<=r->r<H1.n->∀r',¬p r r') (hF:∀r,(R1.testBit r=true\/W1.testBit r=true)->(H.n<=r/\r<H1.n)\/Fp r):
 ∃wC w1 q,(execOp r' o).run (ae P F) w=.ok wC w1/\NX S K q nx wC/\Mv (λr=>W1.testBit r=true) p H.n w q H1.n w1/\Rl P S K q H1.get (λr=>Fp r\/(H.n<=r/\r<H1.n)) w1:=by
 have plain:pN P S o.op=true->SU o.op=true->lP r o.op=true->aF P (execOp r o) H=some (nx,H1,R1,W1)->∃wC w1 q,(execOp r' o).run (ae P F) w=.ok wC w1/\NX S K q nx wC/\Mv (λr=>W1.testBit r=true) p H.n w q H1.n w1/\Rl P S K q H1.get (λr=>Fp r\/(H.n<=r/\r<H1.n)) w1:=λh1 hs h2 h3=>
  lq (P:=P) (F:=F) _ (SR.execOp (P:=P) (F:=F) (S:=S) (K:=K) (N:=0) (λ_=>hk.nj) hk.i6 hk.eh hk.oJ h o h1 (λ_=>hs) (λ_=>h2) (λhj=>by rw[hk.nj]at hj;cases hj) hr.ok) h3 hr hg hn hF
 unfold mO at e;cases hE:lP r o.op<;>rw[hE]at e<;>simp only[zAS,zAQ]at e
 .cases e
 split at e
 ·
  rename_i t x lo hi mx cj;rw[cj]at ho hE;simp only[jQ,zAE,zCL]at ho;obtain⟨GX,ho⟩:=ho
  have cg:∀y∈o.op.operands,iA P S y=true:=by
   rw[cj];intro y hy;obtain⟨j,hj,he⟩:=zCI.1 hy;have:=zBQ.1 ho j hj;rw[he]at this;exact this
  obtain⟨Vk,e1,kC⟩:=xX e;obtain⟨wC,w1,q,c1,c2,c3,c4⟩:=lq (P:=P) (F:=F) _ (SR.G7 (λ_=>GX) (P:=P) (F:=F) (S:=S) (K:=K) (N:=0) h o cj cg (λ_=>hE) hr.ok) e1 hr hg hn hF;refine⟨wC,w1,q,c1,?_,c3,c4⟩;rcases c2 with c2|⟨_,hmx,v,v',rfl,rfl,⟨b,l,c,hx⟩,a,a',l2,c',rfl,rfl,ha,mt⟩
  .rcases kC with⟨_,rfl⟩|⟨_,rfl⟩|⟨a,Vl,rfl,rfl⟩
   .exact c2
   .exact c2
   .cases c2 with
    |value hv=>
     cases hv with
     |slice o sp l c g hX=>
      simp only at Vl;subst Vl;exact .value (.fT _ _ _ c4.lx g)
     |dp o l _ g h0 hx=>exact absurd h0 (Nat.lt_irrefl 0)
     |fT o o' c' _ g=>cases Vl
     |ee hl=>rw[c4.lx]at hl;cases hl
  .rcases kC with⟨hb,rfl⟩|⟨bC,rfl⟩|⟨a2,_,e2,rfl⟩
   .rw[hmx,hx]at hb;cases hb
   .exact absurd rfl (bC _ _)
   .simp only[Next.value.injEq,Value.slice.injEq,zAA]at e2;obtain⟨rfl,rfl,_⟩:=e2;obtain⟨b1,b2,b3⟩:=a';simp only at mt ha;subst mt;exact .value (.fT _ _ _ c4.lx ha)
 ·
  rename_i as ts cj;rw[cj]at ho;simp only[jQ,zAE]at ho;rw[<-cj]at ho;split at e
  .rename_i v H2 R2 W2 ea;simp only[zAA,zAH]at e;obtain⟨rfl,rfl,rfl,rfl⟩:=e;have He:=ho.1;rw[cj]at He;simp only[pN,ul,zAE]at He
   have ha:AR S p (as.map r) (as.map r'):=h.many λx hx=>by
    have hm:x∈(Op.call ⟨.builtin .append,as,ts⟩).operands:=by simp[Op.operands,Call.operands,hx]
    obtain⟨j,hj,he⟩:=zCI.1 hm;have:=zBQ.1 He.1 j hj;rw[he]at this;exact this
   obtain⟨v',w1,q,c1,c2,c3,c4⟩:=Fm (P:=P) (F:=F) hk.i6 hZ He.2 (λt1 h1=>by have:=ho.2;rw[h1]at this;exact this) o.type ha ea hr hg hn hF;refine⟨.value v',w1,q,?_,.value c2,c3,c4⟩;unfold execOp;rw[cj];show((resolve r' ⟨.builtin .append,as,ts⟩ o.type>>=λd=>invoke d.target d.args):Sem Next).run (ae P F) w=_;have c3:=dx (ae P F) (λv=>(Pure.pure (Next.value v):Sem Next)) _ w c1;exact c3
  .exact plain ho.1 (by rw[cj];rfl) hE e
 ·
  rename_i s d x cj;rw[cj]at ho;simp only[jQ,Op.operands,zAE,zCL]at ho;obtain⟨GX,ho⟩:=ho;have hx:VR S p (r x) (r' x):=h.at (by simpa using ho)
  split at e
  .rename_i y hy;subst e;unfold Fr at hy;split at hy<;>try(cases hy;done)
   rename_i h1;split at hy<;>try(cases hy;done)
   rename_i el h2;split at hy<;>try(cases hy;done)
   rename_i h3;split at hy<;>try(cases hy;done)
   rename_i bs hbs;simp only[zAA]at hy;cases hz:(Nat.beq (P2 P el) 1&&Cr P el&&Nat.blt bs.size 4611686018427387904)<;>rw[hz]at hy<;>simp only[zAS,zAQ]at hy
   .cases hy
   simp only[zAE]at hz;obtain⟨i8,hi8,hz8⟩:=Fq hz.1.2;simp only[zAA,zAH]at hy;obtain⟨rfl,rfl,rfl,rfl⟩:=hy
   have zd2:r' x=.string bs:=by
    rw[hbs]at hx;generalize r' x=z at hx;cases hx;rfl
   obtain⟨v',w1,q,c1,c2,c3,c4⟩:=zW (P:=P) (F:=F) h1 h2 h3 (zAK hz.1.1) (hZ _ _ _ hi8 hz8 _ (by simp[Value.cells])) GX (zBC hz.2) hr hg (λr'=>hn _ (zAB _) (by simp[Hp.push]) r') (v:=.slice (some ⟨H.n,0,bif Nat.beq bs.size 0 then some 0 else none⟩) bs.size bs.size) rfl (H1:=H.push (.cells (bs.data.map λb=>.int .u8 b.toNat) el (1,0))) rfl;refine⟨.value v',w1,q,?_,.value c2,c3,c4⟩;unfold execOp;rw[cj];show((convert s d (r' x)>>=λv=>(Pure.pure (Next.value v):Sem Next))).run (ae P F) w=_;rw[zd2];exact dx (ae P F) (λv=>(Pure.pure (Next.value v):Sem Next)) _ w c1
  .cases hc:rf P s d<;>rw[hc]at e<;>simp only[zAS,zAQ]at e
   .cases e
   .refine plain ?_ (by rw[cj];rfl) hE e;rw[cj];simp only[pN,hc,Bool.and_true];exact ho
 .rename_i h1 h2 h3;refine plain ?_ (by cases hh:o.op<;>first|rfl|exact absurd hh (h1 _ _ _ _ _)) hE e;unfold jQ at ho;split at ho
  .rename_i cj;exact absurd cj (h1 _ _ _ _ _)
  .rename_i cj;exact absurd cj (h3 _ _ _)
  .rename_i cj;exact absurd cj (h2 _ _)
  .exact ho
end
def Jz {P:un} {b:Option Addr} {Cn:Nat} {cs:Array fu} {H:Hp} {R0:Nat} {H1:Hp} (h0:Ft H R0 0 H) (h:rp P e size b Cn sc cs H R0=some (v,H1,R,W)):Ft H R W H1:=by
 have j9:Ft H R0 (2^H.n) (H.push (.cells cs e (1,0))):=by
  have:=h0.trans (Ft.new H (.cells cs e (1,0)));rw[Nat.or_zero,zFH]at this;exact this
 unfold rp at h;split at h
 .simp only[zAA,zAH]at h;obtain⟨rfl,rfl,rfl,rfl⟩:=h;exact j9
 .rename_i a;cases hs:a.spot.isNone<;>rw[hs]at h<;>simp only[zAS,zAQ]at h
  .cases h
  cases hz:Nat.beq sc 0<;>rw[hz]at h<;>simp only[zAS,zAQ]at h
  .split at h<;>try(cases h;done)
   rename_i c e' fz hg;cases hb:(Nat.beq a.off 0&&Nat.beq e' e&&Nat.beq c.size (sc*size)&&Nat.ble fz.1 1&&Nat.beq fz.2 0&&Nat.ble P.globals.size a.block&&Nat.blt 0 size)<;>rw[hb]at h<;>simp only[zAS,zAQ]at h
   .cases h
   simp only[zAA,zAH]at h;obtain⟨rfl,rfl,rfl,rfl⟩:=h;have:=(h0.trans (Ft.write (H:=H) (b:=a.block) (by rw[hg];rfl) none)).trans (Ft.new (H.put a.block none) (.cells cs e (1,0)));rw[Nat.or_zero,Nat.or_zero,zFH,zEW]at this;rw[zEW]at this;rw[zEW (2^H.n)];exact this
  .simp only[zAA,zAH]at h;obtain⟨rfl,rfl,rfl,rfl⟩:=h;exact j9
def P9 {P:un} {H:Hp} {H1:Hp} (h:Mb P ts xs H=some (v,H1,R,W)):Ft H R W H1:=by
 unfold Mb at h;split at h<;>try(cases h;done)
 split at h<;>try(cases h;done)
 split at h<;>try(cases h;done)
 split at h<;>try(cases h;done)
 split at h<;>try(cases h;done)
 split at h<;>try(cases h;done)
 split at h<;>try(cases h;done)
 split at h<;>try(cases h;done)
 rename_i e1;split at h<;>try(cases h;done)
 rename_i e2;unfold Ma at h;have a1:=bF P _ e1;have a2:=bF P _ e2;obtain⟨rfl,rfl⟩:=RO.firstCells P _ _ _ _ _ _ _ _ e1;obtain⟨rfl,rfl⟩:=RO.firstCells P _ _ _ _ _ _ _ _ e2;revert h;generalize(Nat.blt _ _&&_&&_&&_&&_&&_&&_)=c;intro h;cases c<;>simp only[zAS,zAQ]at h
 .cases h
 .exact Jz (by have:=a1.trans a2;rwa [Nat.or_zero]at this) h
def tL {P:un} {r:Operand->fu} {o:Oper} {H:Hp} {H1:Hp} (e:mO P r o H=some (nx,H1,R,W)):Ft H R W H1:=by
 unfold mO at e;cases hE:lP r o.op<;>rw[hE]at e<;>simp only[zAS,zAQ]at e
 .cases e
 split at e
 .obtain⟨Vk,e1,_⟩:=xX e;exact bF P _ e1
 .split at e
  .rename_i ea;simp only[zAA,zAH]at e;obtain⟨rfl,rfl,rfl,rfl⟩:=e;exact P9 ea
  .exact bF P _ e
 .split at e
  .rename_i y hy;subst e;unfold Fr at hy;split at hy<;>try(cases hy;done)
   split at hy<;>try(cases hy;done)
   split at hy<;>try(cases hy;done)
   split at hy<;>try(cases hy;done)
   simp only[zAA]at hy;revert hy;generalize(Nat.beq (P2 P _) 1&&Cr P _&&Nat.blt _ 4611686018427387904)=c;intro hy;cases c<;>simp only[zAS,zAQ]at hy
   .cases hy
   simp only[zAA,zAH]at hy;obtain⟨rfl,rfl,rfl,rfl⟩:=hy;exact Ft.new _ _
  .revert e;generalize rf P _ _=c;intro e;cases c<;>simp only[zAS,zAQ]at e
   .cases e
   .exact bF P _ e
 .exact bF P _ e
section
variable {P:un} {S:Nat->Bool} {K:Kz}
def Rl.congr {p:Pi} {Fp:Nat->Prop} {w:nq} (h:Rl P S K p H1 Fp w) (e:∀r,Fp r->H2 r=H1 r):Rl P S K p H2 Fp w:=
 ⟨λr x o y=>h.blk r x o (by rw[<-e r x];exact y),λr s r' x y a b=>h.inj r s r' x y (by rw[<-e r x];exact a) (by rw[<-e s y];exact b),h.lt,h.xm,h.ok,h.gE,h.lx⟩
def Rl.sub {p:Pi} {Fp:Nat->Prop} {w:nq} (h:Rl P S K p H1 Fp w) (e:∀r o,H2 r=some o->H1 r=some o):Rl P S K p H2 Fp w:=
 ⟨λr x o y=>h.blk r x o (e r o y),λr s r' x y a b=>h.inj r s r' x y (by obtain⟨o,ho⟩:=zCY.1 a;rw[e r o ho];rfl) (by obtain⟨o,ho⟩:=zCY.1 b;rw[e s o ho];rfl),h.lt,h.xm,h.ok,h.gE,h.lx⟩
def Mv.wide {W:Nat->Prop} {p:Pi} {m1:Nat} {w:nq} (h:Mv W p n w q n1 w1) (a:m<=n) (b:n1<=m1):Mv W p m w q m1 w1:=by
 have:=h.nn;exact⟨h.le,by omega,λr r' x=>(h.new r r' x).imp id λ⟨c,d,e⟩=>⟨by omega,by omega,e⟩,λr k x=>(h.zR r k x).imp id λ⟨c,d⟩=>⟨by omega,by omega⟩,h.size,h.keep⟩
def Mv.Me {W1 W:Nat->Prop} {p:Pi} {w:nq} (h:Mv W1 p n w q n1 w1) (k:Mv W2 q n w1 s n1 w2) (h1:∀r,W1 r->W r) (h2:∀r,W2 r->W r):Mv W p n w s n1 w2:=by
 refine⟨h.le.trans k.le,h.nn,λr r' x=>?_,λr j x=>?_,zAP h.size k.size,λr' sb hW=>?_⟩
 .rcases k.new r r' x with x|⟨a1,a2,a3⟩
  .rcases h.new r r' x with x|⟨b1,b2,b3⟩
   .exact .inl x
   .exact .inr ⟨b1,b2,b3.imp id λ⟨u,c1,c2⟩=>⟨u,h1 u c1,c2⟩⟩
  .refine .inr ⟨a1,a2,?_⟩;rcases a3 with a3|⟨u,c1,c2⟩
   .exact .inl (zAP h.size a3)
   .rcases h.new u r' c2 with y|⟨_,_,y|⟨v,d1,d2⟩⟩
    .exact .inr ⟨u,h2 u c1,y⟩
    .exact .inl y
    .exact .inr ⟨v,h1 v d1,d2⟩
 .rcases k.zR r j x with x|x
  .exact h.zR r j x
  .exact .inr x
 .rw[k.keep r' (zAY sb h.size) λr hr x=>?_,h.keep r' sb λr hr=>hW r (h1 r hr)];rcases h.new r r' x with y|⟨_,_,y|⟨v,d1,d2⟩⟩
  .exact hW r (h2 r hr) y
  .omega
  .exact hW v (h1 v d1) d2
def Rl.join {p:Pi} {h0 h1 h2:Nat->Option Obj} {F W:Nat->Prop} {w:nq} (h:Rl P S K p h0 F w) (m:Mv W p n w q n1 w1) (k:Rl P S K q h1 G w1)
 (hG:∀r,W r->G r) (hF:∀r,W r->F r) (hnw:∀r,n<=r->r<n1->W r) (hn:∀r,n<=r->r<n1->∀r',¬p r r') (hW:∀r,W r->(n<=r/\r<n1)\/(h0 r).isSome) (e1:∀r,W r->h2 r=h1 r) (e0:∀r,¬W r->h2 r=h0 r):
 Rl P S K q h2 F w1:=by
 have old:∀r r',¬W r->q r r'->p r r':=λr r' hr hq=>by
  rcases m.new r r' hq with x|⟨a,b,_⟩
  .exact x
  .exact absurd (hnw r a b) hr
 have alive:∀s r',W s->p s r'->(h0 s).isSome:=λs r' hs hp=>by
  rcases hW s hs with⟨a,b⟩|x
  .exact absurd hp (hn s a b r')
  .exact x
 have mixed:∀r s r',W r->¬W s->F s->(h0 s).isSome->q r r'->q s r'->r=s:=λr s r' hr hs P5 hss hqr XV=>by
  have ps:=old s r' hs XV;rcases m.new r r' hqr with x|⟨_,_,x|⟨u,hu,hup⟩⟩
  .exact h.inj r s r' (hF r hr) P5 (alive r r' hr x) hss x ps
  .have:=h.lt s r' ps;omega
  .have:=h.inj u s r' (hF u hu) P5 (alive u r' hu hup) hss hup ps;exact absurd (this▸hu) hs
 refine⟨λr OY o ho=>?_,λr s r' OY P5 a b x y=>?_,k.lt,k.xm,k.ok,k.gE,k.lx⟩
 .by_cases hr:W r
  .exact k.blk r (hG r hr) o (by rw[<-e1 r hr];exact ho)
  .rw[e0 r hr]at ho;obtain⟨r',o',a1,a2,a3,a4,a5⟩:=h.blk r OY o ho;refine⟨r',o',m.le _ _ a1,?_,a3.mono m.le,λj hj=>a4 j ?_,a5.imp (λ⟨j,hj⟩=>⟨j,m.le.x _ _ hj⟩) id⟩
   .rw[m.keep r' (h.lt r r' a1) λs hs hp=>hr ?_]
    .exact a2
    .have:=h.inj s r r' (hF s hs) OY (alive s r' hs hp) (by rw[ho];rfl) hp a1;exact this▸hs
   .rcases m.zR r j hj with x|⟨a,b⟩
    .exact x
    .exact absurd a1 (hn r a b r')
 .by_cases hr:W r<;>by_cases hs:W s
  .exact k.inj r s r' (hG r hr) (hG s hs) (by rw[<-e1 r hr];exact a) (by rw[<-e1 s hs];exact b) x y
  .rw[e0 s hs]at b;exact mixed r s r' hr hs P5 b x y
  .rw[e0 r hr]at a;exact(mixed s r r' hs hr OY a y x).symm
  .rw[e0 r hr]at a;rw[e0 s hs]at b;exact h.inj r s r' OY P5 a b (old r r' hr x) (old s r' hs y)
end
def bB (b:Frame) (tm:Array fu) (ds:List Deferred) (todo:List Item):Frame:={b with tmps:=tm,todo:=todo,defers:=ds,mode:=.run}
section
variable {P:un} {b:Frame} {tm:Array fu} {ds:List Deferred} {k:List Item} {cs:List Frame} {w:nq}
def bG {Zu:Frame} {kQ:List Frame} {w':nq} (hm:fr.mode=.run) (h:(stepG.exec P true true fr cs none w).bare=.go {frame:=Zu,callers:=kQ,status:=.running,dying:=none} w'):
 step P (lone fr cs w)=.next (lone Zu kQ w'):=by
 refine step_lone_go ?_;rw[<-h];obtain⟨fn,tmps,todo,ds,mode,kind,ro⟩:=fr;simp only at hm;subst hm;rfl
def tM:step P (lone (bB b tm ds (.code .skip::k)) cs w)=.next (lone (bB b tm ds k) cs w):=bG rfl rfl
def Mf {l:Nat}:step P (lone (bB b tm ds (.code (.label l)::k)) cs w)=.next (lone (bB b tm ds k) cs w):=bG rfl rfl
def Fs {id:Nat}:step P (lone (bB b tm ds (.inBlock id::k)) cs w)=.next (lone (bB b tm ds k) cs w):=bG rfl rfl
def Fu:step P (lone (bB b tm ds (.inScope c::k)) cs w)=.next (lone (bB b tm ds k) cs w):=bG rfl rfl
def et {x:Code}:step P (lone (bB b tm ds (.code (.seq x y)::k)) cs w)=.next (lone (bB b tm ds (.code x:: .code y::k)) cs w):=bG rfl rfl
def qb {id:Nat}:step P (lone (bB b tm ds (.code (.block id c)::k)) cs w)=.next (lone (bB b tm ds (.code c:: .inBlock id::k)) cs w):=bG rfl rfl
def zX:step P (lone (bB b tm ds (.code (.loop c)::k)) cs w)=.next (lone (bB b tm ds (.code c:: .inLoop c::k)) cs w):=bG rfl rfl
def JA:step P (lone (bB b tm ds (.inLoop c::k)) cs w)=.next (lone (bB b tm ds (.code c:: .inLoop c::k)) cs w):=bG rfl rfl
def Mg:step P (lone (bB b tm ds (.code (.scope c)::k)) cs w)=.next (lone (bB b tm ds (.code c:: .inScope c::k)) cs w):=bG rfl rfl
def nE {c:Operand} {x:Code} {t:Bool} (h:(bB b tm ds (.code (.cond c x y)::k)).eval c=.bool t):
 step P (lone (bB b tm ds (.code (.cond c x y)::k)) cs w)=.next (lone (bB b tm ds (.code (if t then x else y)::k)) cs w):=by
 refine bG rfl ?_;unfold stepG.exec;simp only[bB]at h⊢;rw[h];rfl
def Qa {id:Nat} (h:exitTo id k=some k'):step P (lone (bB b tm ds (.code (.exit id)::k)) cs w)=.next (lone (bB b tm ds k') cs w):=by
 refine bG rfl ?_;rw[Go.aC.eE true rfl,h];rfl
def Qb {id:Nat} (h:gotoIn id k=some k'):step P (lone (bB b tm ds (.code (.goto id)::k)) cs w)=.next (lone (bB b tm ds k') cs w):=by
 refine bG rfl ?_;rw[Go.aC.eF true rfl,h];rfl
def je {id:Nat}:step P (lone (bB b tm ds (.code (.region id ops false)::k)) cs w)=.next (lone (bB b tm ds (.inRegion ops (List.range ops.size)::k)) cs w):=bG rfl rfl
def Ht {id:Nat}:∃t w1,w1.heap=w.heap/\step P (lone (bB b tm ds (.code (.region id ops true)::k)) cs w)=.next (lone (bB b tm ds (.inRegion ops (Region.schedule (P.follows .mixedOrders) ops t)::k)) cs w1):=by
 refine⟨(Question.order b.fn id).cut (w.tape w.drawn (.order b.fn id)),{w with drawn:=w.drawn+1},rfl,bG rfl ?_⟩;unfold stepG.exec;simp[bB,choose,Sem.run,pure,Question.forced]
def eu:step P (lone (bB b tm ds (.inRegion ops []::k)) cs w)=.next (lone (bB b tm ds k) cs w):=bG rfl rfl
def zY (b:Frame) (tm:Array fu) (ds:List Deferred) (k:List Item) (x:Operand):(bB b tm ds k).eval x=match x with
 |.tmp t=>tm.getD t undef
 |.const v=>v
 |.global g=>.pointer (some ⟨g,0,none⟩)
 |.func f=>.func (.func f) #[] #[]:=by cases x<;>rfl
def jo (tm:Array fu) (dst:Option Tmp) (v:fu):Array fu:=match dst with
 |some d=>tm.setIfInBounds d v
 |none=>tm
def kH {i:Nat} (v:fu) {o:Oper} (ho:ops[i]?=some o):
 (bB b tm ds (.inRegion ops (i::rest)::k)).finish v=bB b (jo tm o.dst v) ds (.inRegion ops rest::k):=by
 unfold Frame.finish bB jo;simp only[ho,zDP];cases o.dst<;>rfl
def qd:Op->Bool
 |.defer _=>false
 |_=>true
def zZ {i:Nat} {o:Oper} (ho:ops[i]?=some o) (hw:Region.wanted o (yielded ops tm)=true) (hd:qd o.op=true):
 stepG.exec P true true (bB b tm ds (.inRegion ops (i::rest)::k)) cs none w=stepG.apply P true (bB b tm ds (.inRegion ops (i::rest)::k)) cs none (execOp (bB b tm ds (.inRegion ops (i::rest)::k)).eval o) w:=by
 have e1:(Option.map (λx=>Region.wanted x (yielded ops tm)) ops[i]?).getD false=true:=by rw[ho];exact hw
 unfold stepG.exec;simp only[bB,e1,zBV];unfold stepG.oper;simp only[Frame.oper?,ho];cases b.roundOf with
 |none=>rfl
 |some l=>cases h:o.op<;>first|rfl|(rw[h]at hd;cases hd)
def ou {i:Nat} {o:Oper} (ho:ops[i]?=some o) (hw:Region.wanted o (yielded ops tm)=false):
 step P (lone (bB b tm ds (.inRegion ops (i::rest)::k)) cs w)=.next (lone (bB b (jo tm o.dst undef) ds (.inRegion ops rest::k)) cs w):=by
 refine bG rfl ?_;have e1:(Option.map (λx=>Region.wanted x (yielded ops tm)) ops[i]?).getD false=false:=by rw[ho];exact hw
 rw[<-kH undef ho];unfold stepG.exec;simp only[bB,e1,zAN,zBJ];rfl
def rq (P:un):Next->Option Frame
 |.enter f args=>some (Frame.enter P f args .normal)
 |.round l f tmps a c=>some (Frame.round l f tmps a c .normal)
 |_=>none
def Qc:List Item->Bool
 |.call .. ::_=>false
 |.extern .. ::_=>false
 |_=>true
def jp (hc:Qc fr.todo=true) {s:Sem Next} (hr:s.run P w=.ok nx w1):
 (∀v,nx=.value v->(stepG.apply P true fr cs none s w).bare=.go {frame:=fr.finish v,callers:=cs,status:=.running,dying:=none} w1)/\
 (nx=.skip->(stepG.apply P true fr cs none s w).bare=.go {frame:=fr.finish undef,callers:=cs,status:=.running,dying:=none} w1)/\
 (∀g,rq P nx=some g->(stepG.apply P true fr cs none s w).bare=.go {frame:=g,callers:=fr::cs,status:=.running,dying:=none} w1):=by
 have hk:∀(ds:List Deferred),(match fr.todo with|.call _ true _ _::_=>CallKind.wrapped|_=>.normal)=.normal:=by
  intro _;generalize fr.todo=t at hc;cases t with
  |nil=>rfl
  |cons i t=>cases i<;>first|rfl|cases hc
 have hk:=hk [];refine⟨λv e=>?_,λe=>?_,λg e=>?_⟩
 .subst e;unfold stepG.apply;simp only[Sem.runT_eq,hr,zBV,GStep.bare_after];rfl
 .subst e;unfold stepG.apply;simp only[Sem.runT_eq,hr,zBV,GStep.bare_after];rfl
 .obtain⟨fn,tmps,todo,ds,mode,kind,ro⟩:=fr;simp only at hk hc;cases nx<;>simp only[rq,zAA,reduceCtorEq]at e
  .subst e;unfold stepG.apply;simp only[Sem.runT_eq,hr,zBV,GStep.bare_after];cases todo with
   |nil=>rfl
   |cons i t=>cases i<;>first|rfl|cases hc
  .subst e;unfold stepG.apply;simp only[Sem.runT_eq,hr,zBV,GStep.bare_after];cases todo with
   |nil=>rfl
   |cons i t=>cases i<;>first|rfl|cases hc
def Zv (P:un) (nx:Next) (fr:Frame) (cs:List Frame) (w:nq) (Q:fu->nq->Prop):Prop:=
 ∃g v w1,rq P nx=some g/\Steps P (lone g (fr::cs) w) (lone (fr.finish v) cs w1)/\Q v w1
end
end Go.aC
