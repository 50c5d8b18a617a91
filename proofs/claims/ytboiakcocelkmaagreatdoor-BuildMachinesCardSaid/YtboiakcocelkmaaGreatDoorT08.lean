/- A part. Conditions: none. -/
import Derived.Test.YtboiakcocelkmaaGreatDoorT02
set_option linter.all false
namespace Go.au
variable {G W2:Nat->Prop} {H1 H2:Nat->Option Obj} {R R1 W W1 id m n n1 r r' sc size sl:Nat} {a a':Addr} {c y:Code} {e t:TypeId} {fr:Frame} {fz:Nat×Nat} {i:TypeInfo} {k':List Item} {nx:Next} {o o' o0 o1:Obj} {ops:Array Oper} {q s:Pi} {rest:List Nat} {ts:Array TypeId} {v x x' z:Value} {w1 w2:World} {xs:Array Value} {α β:Type}
inductive Tr where
 |leaf
 |node (v:Option Obj) (l r:Tr)
def Tr.get:Tr->Nat->Option Obj
 |.leaf,_=>none
 |.node v l r,n=>bif Nat.beq n 0 then v else bif Nat.beq (n%2) 1 then l.get (n/2)else r.get (n/2-1)
def Tr.set:Nat->Tr->Nat->Option Obj->Tr
 |0,t,_,_=>t
 |f+1,.leaf,n,o=>bif Nat.beq n 0 then .node o .leaf .leaf else bif Nat.beq (n%2) 1 then .node none (Tr.set f .leaf (n/2) o) .leaf else .node none .leaf (Tr.set f .leaf (n/2-1) o)
 |f+1,.node v l r,n,o=>bif Nat.beq n 0 then .node o l r else bif Nat.beq (n%2) 1 then .node v (Tr.set f l (n/2) o) r else .node v l (Tr.set f r (n/2-1) o)
theorem Vx (h:n=0):Nat.beq n 0=true:=by subst h;rfl
theorem gu (h:n≠m):Nat.beq n m=false:=by
 cases hx:Nat.beq n m with
 |false=>rfl
 |true=>exact absurd (Nat.eq_of_beq_eq_true hx) h
theorem C7 (h:n=m):Nat.beq n m=true:=by subst h;exact Nat.beq_refl n
theorem Tr.kW:∀(f:Nat) (t:Tr) (n:Nat) (o:Option Obj) (m:Nat),n<f->(t.set f n o).get m=if m=n then o else t.get m
 |0,_,_,_,_,h=>absurd h (Nat.not_lt_zero _)
 |f+1,t,n,o,m,h=>by
  have ih:=Tr.kW f;by_cases n0:n=0
  .subst n0;cases t<;>simp only[Tr.set,Vx,cond_true]
   .by_cases hm:m=0
    .subst hm;simp[Tr.get]
    .simp only[Tr.get,gu hm,cond_false,hm,if_false];cases Nat.beq (m%2) 1<;>rfl
   .by_cases hm:m=0
    .subst hm;simp[Tr.get]
    .simp only[Tr.get,gu hm,cond_false,hm,if_false]
  .by_cases n1:n%2=1
   .have e1:=ih (.leaf) (n/2) o (m/2) (by omega);cases t with
    |leaf=>
     simp only[Tr.set,gu n0,cond_false,C7 n1,cond_true];by_cases hm:m=0
     .subst hm;have:¬0=n:=by omega
      simp[Tr.get,this]
     .by_cases m1:m%2=1
      .simp only[Tr.get,gu hm,cond_false,C7 m1,cond_true,ih _ (n/2) o (m/2) (by omega)];by_cases e:m=n
       .simp[e]
       .have:¬m/2=n/2:=by omega
        simp[e,this]
      .have:¬m=n:=by intro e;subst e;exact m1 n1
       simp only[Tr.get,gu hm,cond_false,gu m1,this,if_false]
    |node v l r=>
     simp only[Tr.set,gu n0,cond_false,C7 n1,cond_true];by_cases hm:m=0
     .subst hm;have:¬0=n:=by omega
      simp[Tr.get,this]
     .by_cases m1:m%2=1
      .simp only[Tr.get,gu hm,cond_false,C7 m1,cond_true,ih _ (n/2) o (m/2) (by omega)];by_cases e:m=n
       .simp[e]
       .have:¬m/2=n/2:=by omega
        simp[e,this]
      .have:¬m=n:=by intro e;subst e;exact m1 n1
       simp only[Tr.get,gu hm,cond_false,gu m1,this,if_false]
   .cases t with
    |leaf=>
     simp only[Tr.set,gu n0,cond_false,gu n1];by_cases hm:m=0
     .subst hm;have:¬0=n:=by omega
      simp[Tr.get,this]
     .by_cases m1:m%2=1
      .have:¬m=n:=by intro e;subst e;exact n1 m1
       simp only[Tr.get,gu hm,cond_false,C7 m1,cond_true,this,if_false]
      .simp only[Tr.get,gu hm,cond_false,gu m1,ih _ (n/2-1) o (m/2-1) (by omega)];by_cases e:m=n
       .simp[e]
       .have:¬m/2-1=n/2-1:=by omega
        simp[e,this]
    |node v l r=>
     simp only[Tr.set,gu n0,cond_false,gu n1];by_cases hm:m=0
     .subst hm;have:¬0=n:=by omega
      simp[Tr.get,this]
     .by_cases m1:m%2=1
      .have:¬m=n:=by intro e;subst e;exact n1 m1
       simp only[Tr.get,gu hm,cond_false,C7 m1,cond_true,this,if_false]
      .simp only[Tr.get,gu hm,cond_false,gu m1,ih _ (n/2-1) o (m/2-1) (by omega)];by_cases e:m=n
       .simp[e]
       .have:¬m/2-1=n/2-1:=by omega
        simp[e,this]
structure Hp where
 n:Nat
 t:Tr
def Hp.get (H:Hp) (r:Nat):Option Obj:=H.t.get r
def Hp.put (H:Hp) (r:Nat) (o:Option Obj):Hp:=⟨H.n,H.t.set (r+1) r o⟩
def Hp.push (H:Hp) (o:Obj):Hp:=⟨H.n+1,H.t.set (H.n+1) H.n (some o)⟩
theorem Hp.get_put (H:Hp) (r:Nat) (o:Option Obj) (m:Nat):(H.put r o).get m=if m=r then o else H.get m:=Tr.kW _ _ _ _ _ (Nat.lt_succ_self r)
theorem Hp.jd (H:Hp) (o:Obj) (m:Nat):(H.push o).get m=if m=H.n then some o else H.get m:=Tr.kW _ _ _ _ _ (Nat.lt_succ_self _)
abbrev Rs (α:Type):=Option (α×Hp×Nat×Nat)
def xe (b:Nat):Rs α->Rs α
 |some (a,H,R,W)=>some (a,H,R|||2^b,W)
 |none=>none
def xf (b:Nat):Rs α->Rs α
 |some (a,H,R,W)=>some (a,H,R,W|||2^b)
 |none=>none
theorem fK {b:Nat} {x:Rs α} {a:α} {H:Hp} (h:xe b x=some (a,H,R,W)):∃R0,x=some (a,H,R0,W)/\R=R0|||2^b:=by
 cases x with
 |none=>cases h
 |some y=>obtain⟨a1,H1,R1,W1⟩:=y;simp only[xe,Option.some.injEq,Prod.mk.injEq]at h;obtain⟨rfl,rfl,rfl,rfl⟩:=h;exact⟨_,rfl,rfl⟩
theorem gO {b:Nat} {x:Rs α} {a:α} {H:Hp} (h:xf b x=some (a,H,R,W)):∃W0,x=some (a,H,R,W0)/\W=W0|||2^b:=by
 cases x with
 |none=>cases h
 |some y=>obtain⟨a1,H1,R1,W1⟩:=y;simp only[xf,Option.some.injEq,Prod.mk.injEq]at h;obtain⟨rfl,rfl,rfl,rfl⟩:=h;exact⟨_,rfl,rfl⟩
def aA (P:Program):Sem α->Hp->Rs α
 |.pure a,H=>some (a,H,0,0)
 |.load _ a k,H=>match H.get a.block with
  |some (.cells c _ _)=>match a.spot with
   |none=>match c[a.off]? with
    |some v=>xe a.block (aA P (k v) H)
    |none=>none
   |some _=>none
  |_=>none
 |.store _ a v k,H=>bif de v then match H.get a.block with
    |some (.cells c e fz)=>match a.spot with
     |none=>bif Nat.blt a.off c.size&&!(Nat.ble fz.1 a.off&&Nat.blt a.off fz.2)then xf a.block (aA P k (H.put a.block (some (.cells (c.setIfInBounds a.off v) e fz))))else none
     |some _=>none
    |_=>none
  else none
 |.new o k,H=>xf H.n (aA P (k H.n) (H.push o))
 |.getObj r k,H=>match H.get r with
  |some (.cells ..)=>none
  |some o=>xe r (aA P (k o) H)
  |none=>none
 |.setObj r o k,H=>match H.get r with
  |some (.cells ..)=>none
  |some _=>xf r (aA P k (H.put r (some o)))
  |none=>none
 |.program k,H=>aA P (k P) H
 |.mark m k,H=>match m with
  |.noRoom=>aA P k H
  |_=>none
 |.shape ..,_|.freeze ..,_|.frozen ..,_|.choose ..,_|.sys ..,_|.halt _,_=>none
theorem q7 {P:Program}:∀(s:Sem α),dg P s->∀H,aA P s H=none:=by
 intro s;induction s with
 |pure a=>intro h;exact h.elim
 |load m a k ih=>
  intro h H;simp only[aA];split<;>try rfl
  split<;>try rfl
  split<;>try rfl
  rw[ih _ (h _)];rfl
 |store m a v k ih=>
  intro h H;simp only[aA];cases de v<;>simp only[cond_true,cond_false];split<;>try rfl
  split<;>try rfl
  rw[ih h];cases(Nat.blt _ _&&_)<;>rfl
 |new o k ih=>intro h H;simp only[aA];rw[ih _ (h _)];rfl
 |shape r k ih=>intro h H;rfl
 |freeze a n k ih=>intro h H;rfl
 |frozen a k ih=>intro h H;rfl
 |getObj r k ih=>
  intro h H;simp only[aA];split<;>try rfl
  rw[ih _ (h _)];rfl
 |setObj r o k ih=>
  intro h H;simp only[aA];split<;>try rfl
  rw[ih h];rfl
 |choose q k ih=>intro h H;rfl
 |sys c k ih=>intro h H;rfl
 |program k ih=>intro h H;exact ih P h H
 |mark m k ih=>
  intro h H;simp only[aA];split
  .exact ih h H
  .rfl
 |halt x=>intro h H;rfl
def Jg (P:Program) (e:TypeId):Nat:=((P.info? e).map (·.size)).getD 1
def Room (P:Program) (o o':Obj) (k:Nat):Prop:=∃c e fz c' eO,o=.cells c e fz/\o'=.cells c' e eO/\c'.size=c.size+k*Jg P e/\(c.size=0\/k+1<2^63)/\fz≠(0,0)
structure Rl (P:Program) (S:Nat->Bool) (K:Kz) (p:Pi) (H:Nat->Option Obj) (F:Nat->Prop) (w:World):Prop where
 blk:∀r,F r->∀o,H r=some o->∃r' o',p r r'/\w.heap[r']?=some o'/\OR S K p o o'/\(∀k,p.x r k->Room P o o' k)/\((∃k,p.x r k)\/gS o o')
 inj:∀r s r',F r->F s->(H r).isSome->(H s).isSome->p r r'->p s r'->r=s
 lt:∀r r',p r r'->r'<w.heap.size
 xm:∀r k,p.x r k->∃r',p r r'
 ok:nP P p
 fg:P.globals.size<=w.heap.size
 lx:p.l=true
structure Mv (W:Nat->Prop) (p:Pi) (n:Nat) (w:World) (q:Pi) (n1:Nat) (w1:World):Prop where
 le:Le p q
 nn:n<=n1
 new:∀r r',q r r'->p r r'\/(n<=r/\r<n1/\(w.heap.size<=r'\/∃s,W s/\p s r'))
 uR:∀r k,q.x r k->p.x r k\/(n<=r/\r<n1)
 size:w.heap.size<=w1.heap.size
 keep:∀r',r'<w.heap.size->(∀r,W r->¬p r r')->w1.heap[r']?=w.heap[r']?
theorem Mv.refl (W:Nat->Prop) (p:Pi) (n:Nat) (w:World):Mv W p n w p n w:=⟨Le.refl p,Nat.le_refl n,fun _ _ h=>.inl h,fun _ _ h=>.inl h,Nat.le_refl _,fun _ _ _=>rfl⟩
theorem Mv.trans {W1 W:Nat->Prop} {p:Pi} {n2:Nat} {w:World} (h:Mv W1 p n w q n1 w1) (k:Mv W2 q n1 w1 s n2 w2) (h1:∀r,W1 r->W r) (h2:∀r,W2 r->W r):Mv W p n w s n2 w2:=by
 have hn:=h.nn;have kn:=k.nn;refine⟨h.le.trans k.le,Nat.le_trans h.nn k.nn,fun r r' x=>?_,fun r j x=>?_,Nat.le_trans h.size k.size,fun r' oT hW=>?_⟩
 .rcases k.new r r' x with x|⟨a1,a2,a3⟩
  .rcases h.new r r' x with x|⟨b1,b2,b3⟩
   .exact .inl x
   .exact .inr ⟨b1,by omega,b3.imp id fun⟨u,c1,c2⟩=>⟨u,h1 u c1,c2⟩⟩
  .refine .inr ⟨by omega,a2,?_⟩;rcases a3 with a3|⟨u,c1,c2⟩
   .exact .inl (Nat.le_trans h.size a3)
   .rcases h.new u r' c2 with y|⟨_,_,y|⟨v,d1,d2⟩⟩
    .exact .inr ⟨u,h2 u c1,y⟩
    .exact .inl y
    .exact .inr ⟨v,h1 v d1,d2⟩
 .rcases k.uR r j x with x|⟨a1,a2⟩
  .rcases h.uR r j x with x|⟨b1,b2⟩
   .exact .inl x
   .exact .inr ⟨b1,by omega⟩
  .exact .inr ⟨by omega,a2⟩
 .rw[k.keep r' (Nat.lt_of_lt_of_le oT h.size) fun r hr x=>?_,h.keep r' oT fun r hr=>hW r (h1 r hr)];rcases h.new r r' x with y|⟨_,_,y|⟨v,d1,d2⟩⟩
  .exact hW r (h2 r hr) y
  .omega
  .exact hW v (h1 v d1) d2
theorem Mv.mono {W1 W:Nat->Prop} {p:Pi} {w:World} (h:Mv W1 p n w q n1 w1) (h1:∀r,W1 r->W r):Mv W p n w q n1 w1:=
 (Mv.refl (fun _=>False) p n w).trans h (fun _ x=>x.elim) h1
structure Ft (H:Hp) (R W:Nat) (H1:Hp):Prop where
 nn:H.n<=H1.n
 same:∀r,W.testBit r=false->H1.get r=H.get r
 wr:∀r,W.testBit r=true->(H.n<=r/\r<H1.n)\/(H.get r).isSome
 rd:∀r,R.testBit r=true->(H.n<=r/\r<H1.n)\/(H.get r).isSome
 nw:∀r,H.n<=r->r<H1.n->W.testBit r=true
theorem Ft.alive {H H1:Hp} (h:Ft H R W H1) (r:Nat) (x:(H1.get r).isSome):(H.n<=r/\r<H1.n)\/(H.get r).isSome:=by
 cases hw:W.testBit r with
 |false=>rw[h.same r hw]at x;exact .inr x
 |true=>exact h.wr r hw
theorem Ft.refl (H:Hp):Ft H 0 0 H:=⟨Nat.le_refl _,fun _ _=>rfl,fun r h=>by simp at h,fun r h=>by simp at h,fun r a b=>by omega⟩
theorem Ft.trans {H H1 H2:Hp} {R2 W2:Nat} (h:Ft H R1 W1 H1) (k:Ft H1 R2 W2 H2):Ft H (R1|||R2) (W1|||W2) H2:=by
 have hn:=h.nn;have kn:=k.nn;refine⟨Nat.le_trans h.nn k.nn,fun r x=>?_,fun r x=>?_,fun r x=>?_,fun r a b=>?_⟩
 .rw[Nat.testBit_or,Bool.or_eq_false_iff]at x;rw[k.same r x.2,h.same r x.1]
 .rw[Nat.testBit_or,Bool.or_eq_true]at x;rcases x with x|x
  .exact(h.wr r x).imp (fun⟨a,b⟩=>⟨a,by omega⟩) id
  .rcases k.wr r x with⟨a,b⟩|y
   .exact .inl ⟨by omega,b⟩
   .exact(h.alive r y).imp (fun⟨a,b⟩=>⟨a,by omega⟩) id
 .rw[Nat.testBit_or,Bool.or_eq_true]at x;rcases x with x|x
  .exact(h.rd r x).imp (fun⟨a,b⟩=>⟨a,by omega⟩) id
  .rcases k.rd r x with⟨a,b⟩|y
   .exact .inl ⟨by omega,b⟩
   .exact(h.alive r y).imp (fun⟨a,b⟩=>⟨a,by omega⟩) id
 .rw[Nat.testBit_or,Bool.or_eq_true];rcases Nat.lt_or_ge r H1.n with c|c
  .exact .inl (h.nw r a c)
  .exact .inr (k.nw r c b)
theorem tb (b r:Nat):(2^b).testBit r=true↔r=b:=by rw[Nat.testBit_two_pow];simp[eq_comm]
theorem Zw (b r:Nat):(2^b).testBit r=false↔r≠b:=by rw[<-Bool.not_eq_true,tb]
theorem Ft.read {H:Hp} {b:Nat} (h:(H.get b).isSome):Ft H (2^b) 0 H:=
 ⟨Nat.le_refl _,fun _ _=>rfl,fun r x=>by simp at x,fun r x=>.inr (by rw[tb]at x;subst x;exact h),fun r a b=>by omega⟩
theorem Ft.write {H:Hp} {b:Nat} (h:(H.get b).isSome) (o:Option Obj):Ft H 0 (2^b) (H.put b o):=
 ⟨Nat.le_refl _,fun r x=>by rw[Zw]at x;rw[Hp.get_put,if_neg x],fun r x=>.inr (by rw[tb]at x;subst x;exact h),fun r x=>by simp at x,fun r a b=>by simp[Hp.put]at b;omega⟩
theorem Ft.new (H:Hp) (o:Obj):Ft H 0 (2^H.n) (H.push o):=
 ⟨by simp[Hp.push],fun r x=>by rw[Zw]at x;rw[Hp.jd,if_neg x],fun r x=>.inl (by rw[tb]at x;subst x;simp[Hp.push]),fun r x=>by simp at x,fun r a b=>by rw[tb];simp[Hp.push]at b;omega⟩
theorem ba (P:Program):∀(s:Sem α) {H:Hp} {a:α} {H1:Hp} {R W:Nat},aA P s H=some (a,H1,R,W)->Ft H R W H1:=by
 intro s;induction s with
 |pure a=>intro H b H1 R W h;simp only[aA,Option.some.injEq,Prod.mk.injEq]at h;obtain⟨rfl,rfl,rfl,rfl⟩:=h;exact Ft.refl _
 |load m a k ih=>
  intro H b H1 R W h;simp only[aA]at h;split at h<;>try(cases h;done)
  rename_i c e fz hg;split at h<;>try(cases h;done)
  split at h<;>try(cases h;done)
  obtain⟨R0,h2,rfl⟩:=fK h;have:=(Ft.read (H:=H) (b:=a.block) (by rw[hg];rfl)).trans (ih _ h2);rw[Nat.zero_or,Nat.or_comm]at this;exact this
 |store m a v k ih=>
  intro H b H1 R W h;simp only[aA]at h;cases hc:de v<;>rw[hc]at h<;>simp only[cond_true,cond_false]at h
  .cases h
  split at h<;>try(cases h;done)
  rename_i c e fz hg;split at h<;>try(cases h;done)
  cases hb:(Nat.blt a.off c.size&&!(Nat.ble fz.1 a.off&&Nat.blt a.off fz.2))<;>rw[hb]at h<;>simp only[cond_true,cond_false]at h
  .cases h
  obtain⟨W0,h2,rfl⟩:=gO h;have:=(Ft.write (H:=H) (b:=a.block) (by rw[hg];rfl) _).trans (ih h2);rw[Nat.zero_or,Nat.or_comm]at this;exact this
 |new o k ih=>
  intro H b H1 R W h;simp only[aA]at h;obtain⟨W0,h2,rfl⟩:=gO h;have:=(Ft.new H o).trans (ih _ h2);rw[Nat.zero_or,Nat.or_comm]at this;exact this
 |getObj r k ih=>
  intro H b H1 R W h;simp only[aA]at h;split at h<;>try(cases h;done)
  rename_i o hg;obtain⟨R0,h2,rfl⟩:=fK h;have:=(Ft.read (H:=H) (b:=r) (by rw[hg];rfl)).trans (ih _ h2);rw[Nat.zero_or,Nat.or_comm]at this;exact this
 |setObj r o k ih=>
  intro H b H1 R W h;simp only[aA]at h;split at h<;>try(cases h;done)
  rename_i o hg;obtain⟨W0,h2,rfl⟩:=gO h;have:=(Ft.write (H:=H) (b:=r) (by rw[hg];rfl) _).trans (ih h2);rw[Nat.zero_or,Nat.or_comm]at this;exact this
 |program k ih=>intro H b H1 R W h;exact ih P h
 |mark m k ih=>
  intro H b H1 R W h;simp only[aA]at h;split at h
  .exact ih h
  .cases h
 |shape r k ih=>intro H b H1 R W h;cases h
 |freeze a n k ih=>intro H b H1 R W h;cases h
 |frozen a k ih=>intro H b H1 R W h;cases h
 |choose q k ih=>intro H b H1 R W h;cases h
 |sys c k ih=>intro H b H1 R W h;cases h
 |halt x=>intro H b H1 R W h;cases h
section
variable {P:Program} {F:Array Func} {S:Nat->Bool} {K:Kz} {p:Pi} {H:Nat->Option Obj} {Fp:Nat->Prop} {w:World}
theorem Rl.mono (h:Rl P S K p H Fp w) (hG:∀r,G r->Fp r):Rl P S K p H G w:=
 ⟨fun r x o e=>h.blk r (hG r x) o e,fun r s r' x y=>h.inj r s r' (hG r x) (hG s y),h.lt,h.xm,h.ok,h.fg,h.lx⟩
theorem Rl.at (h:Rl P S K p H Fp w) (hF:Fp r) (hp:p r r') (ho:H r=some o):∃o',w.heap[r']?=some o'/\OR S K p o o'/\(∀k,p.x r k->Room P o o' k)/\((∃k,p.x r k)\/gS o o'):=by
 obtain⟨r1,o',h1,h2,h3,h4⟩:=h.blk r hF o ho;rw[h.ok.one r r' r1 hp h1];exact⟨o',h2,h3,h4⟩
theorem OR.oe {c:Array Value} (h:OR S K p (.cells c e fz) o'):∃c' eO,o'=.cells c' e eO/\c.size<=c'.size/\(∀(i:Nat) (v v':Value),c[i]?=some v->c'[i]?=some v'->VR S p v v')/\∀i,i<c.size->eO.1<=i/\i<eO.2->fz.1<=i/\i<fz.2:=by
 cases h with
 |cells e fz hw g=>exact⟨_,_,rfl,Nat.le_of_eq g.1,g.2,fun _ _ h=>h⟩
 |bO _ e fz eO hl hz hs g=>exact⟨_,_,rfl,hl,g,fun i hi x=>hz.elim (fun h=>⟨by omega,by omega⟩) fun h=>absurd x (h.1 i (by omega))⟩
theorem Rl.cell (h:Rl P S K p H Fp w) (hF:Fp a.block) (ha:gD p a a') {c:Array Value} (hg:H a.block=some (.cells c e fz)) (hs:a.spot=none) (hv:c[a.off]?=some v):
 ∃v',w.cell? a'=some v'/\VR S p v v':=by
 obtain⟨o',h2,h3,_⟩:=h.at hF ha.1 hg;obtain⟨c',eO,rfl,hl,g,_⟩:=h3.oe;have az:=(Array.getElem?_eq_some_iff.1 hv).1;have e':c'[a.off]?=some (c'[a.off]'(by omega)):=Array.getElem?_eq_getElem (by omega);refine⟨_,?_,g _ _ _ hv e'⟩;unfold World.cell?;rw[h2];simp only;rw[<-ha.2.2,hs,<-ha.2.1];exact e'
theorem jy (hp:Array Obj) (i j:Nat) (f:Obj->Obj):(hp.modify i f)[j]?=if i=j then(hp[j]?).map f else hp[j]?:=by
 rw[Array.getElem?_modify]
theorem Rl.upd (h:Rl P S K p H Fp w) (hF:Fp r) (hp:p r r') (hg:H r=some o0) (pF:OR S K p o o1) (pm:∀k,p.x r k->Room P o o1 k) (lE:(∃k,p.x r k)\/gS o o1)
 (hH:∀m,H2 m=if m=r then some o else H m) (hs:w2.heap.size=w.heap.size) (E2:w2.heap[r']?=some o1) (bA:∀j,j≠r'->w2.heap[j]?=w.heap[j]?) (n:Nat):
 Rl P S K p H2 Fp w2/\Mv (fun m=>m=r) p n w p n w2:=by
 have al:∀m,(H2 m).isSome->(H m).isSome:=fun m x=>by
  rw[hH]at x;split at x
  .rename_i e;rw[e,hg];rfl
  .exact x
 refine⟨⟨fun m hm x hx=>?_,fun a b r' x y a1 b1=>h.inj a b r' x y (al a a1) (al b b1),fun a b x=>by rw[hs];exact h.lt a b x,h.xm,h.ok,by rw[hs];exact h.fg,h.lx⟩,⟨Le.refl p,Nat.le_refl n,fun _ _ x=>.inl x,fun _ _ x=>.inl x,Nat.le_of_eq hs.symm,fun j hj hk=>bA j fun e=>hk r rfl (e▸hp)⟩⟩;rw[hH]at hx;split at hx
 .rename_i e;subst e;simp only[Option.some.injEq]at hx;subst hx;exact⟨r',o1,hp,E2,pF,pm,lE⟩
 .rename_i hn;obtain⟨m',o2,b1,b2,b3,b4⟩:=h.blk m hm x hx;refine⟨m',o2,b1,?_,b3,b4⟩;rw[bA m' ?_]
  .exact b2
  .intro e;exact hn (h.inj m r m' hm hF (by rw[hx];rfl) (by rw[hg];rfl) b1 (e▸hp))
theorem Rl.setCell (h:Rl P S K p H Fp w) (hF:Fp a.block) (ha:gD p a a') {c:Array Value} (hg:H a.block=some (.cells c e fz)) (hs:a.spot=none) (az:a.off<c.size) (Pa:¬(fz.1<=a.off/\a.off<fz.2))
 {v':Value} (hv:VR S p v v') (hH:∀m,H2 m=if m=a.block then some (.cells (c.setIfInBounds a.off v) e fz)else H m) (n:Nat):
 (∃x,w.cell? a'=some x)/\w.frozen? a'=false/\Rl P S K p H2 Fp (w.setCell a' v')/\Mv (fun r=>r=a.block) p n w p n (w.setCell a' v'):=by
 obtain⟨o',h2,h3,h4⟩:=h.at hF ha.1 hg;have h30:=h3;obtain⟨c',eO,rfl,hl,g,hz⟩:=h3.oe;have su:a'.spot=none:=ha.2.2.symm.trans hs;have e0:a'.off=a.off:=ha.2.1.symm;refine⟨?_,?_,h.upd hF ha.1 hg (o:=.cells (c.setIfInBounds a.off v) e fz) (o1:=.cells (c'.setIfInBounds a.off v') e eO) ?_ (fun k hk=>?_) (h4.2.imp id fun EY _ _ _ _ _ _ x y=>by cases x;cases y;simpa using EY _ _ _ _ _ _ rfl rfl) hH (by simp[World.setCell]) ?_ (fun j hj=>?_) n⟩
 .refine⟨c'[a.off]'(by omega),?_⟩;unfold World.cell?;rw[h2];simp[su,e0]
 .unfold World.frozen?;rw[h2];simp only[e0];rw[<-Bool.not_eq_true];simp only[Bool.and_eq_true,decide_eq_true_eq];exact fun x=>Pa (hz _ az x)
 .cases h30 with
  |cells e fz hw gg=>exact .cells e fz hw (gg.set _ hv)
  |bO h0 e fz eO hl hz hs gg=>
   refine .bO h0 e fz eO (by simpa using hl) (by simpa using hz) (fun i x' hi zC=>?_) fun i x x' hx zC=>?_
   .have uv:c.size<=i:=by simpa using hi
    rw[Array.getElem?_setIfInBounds,if_neg (by omega)]at zC;exact hs i x' uv zC
   rw[Array.getElem?_setIfInBounds]at hx zC;by_cases oS:a.off=i
   .subst oS;simp only[if_true]at hx zC;rw[if_pos az]at hx;rw[if_pos (by omega)]at zC;cases hx;cases zC;exact hv
   .rw[if_neg oS]at hx zC;exact gg i x x' hx zC
 .obtain⟨_,_,_,_,_,e1,e2,e3⟩:=h4.1 k hk;cases e1;cases e2;exact⟨_,_,_,_,_,rfl,rfl,by simpa using e3.1,by simpa using e3.2.1,e3.2.2⟩
 .show(w.heap.modify _ _)[a'.block]?=_;rw[jy,if_pos rfl,h2];simp[su,e0]
 .show(w.heap.modify _ _)[j]?=_;rw[jy,if_neg (Ne.symm hj)]
theorem OR.xg (h:OR S K p o o') (hn:∀c e fz,o≠ .cells c e fz):∀c e fz,o'≠ .cells c e fz:=by
 cases h<;>first|(intro c e fz x;cases x;done)|exact absurd rfl (hn _ _ _)
theorem Rl.setObj (h:Rl P S K p H Fp w) (hF:Fp r) (hp:p r r') (hg:H r=some o0) (hn:∀c e fz,o0≠ .cells c e fz) (pF:OR S K p o o1) (lE:gS o o1)
 (hH:∀m,H2 m=if m=r then some o else H m) (n:Nat):
 Rl P S K p H2 Fp {w with heap:=w.heap.setIfInBounds r' o1}/\Mv (fun m=>m=r) p n w p n {w with heap:=w.heap.setIfInBounds r' o1}:=by
 obtain⟨o',h2,h3,h4⟩:=h.at hF hp hg;have az:=h.lt r r' hp;refine h.upd hF hp hg pF (fun k hk=>?_) (.inr lE) hH (by simp) (by simp[az]) (fun j hj=>by show(w.heap.setIfInBounds r' o1)[j]?=_;rw[Array.getElem?_setIfInBounds,if_neg (Ne.symm hj)]) n;obtain⟨c,e,fz,_,_,e1,_⟩:=h4.1 k hk;exact absurd e1 (hn c e fz)
def one (p:Pi) (n n':Nat):Pi:=⟨fun r r'=>p r r'\/(r=n/\r'=n'),p.x,p.l⟩
theorem one_le (p:Pi) (n n':Nat):Le p (one p n n'):=⟨fun _ _ h=>.inl h,fun _ _ h=>h,fun _ _ _ _ h=>h,rfl⟩
theorem Rl.push (h:Rl P S K p H Fp w) (hn:∀r',¬p n r') (hg:P.globals.size<=n) (pF:OR S K p o o1) (lE:gS o o1) (hH:∀m,H2 m=if m=n then some o else H m):
 Rl P S K (one p n w.heap.size) H2 (fun r=>Fp r\/r=n) {w with heap:=w.heap.push o1}/\Mv (fun _=>False) p n w (one p n w.heap.size) (n+1) {w with heap:=w.heap.push o1}:=by
 have hle:=one_le p n w.heap.size;have hx:∀k,¬p.x n k:=fun k hk=>let⟨r',h1⟩:=h.xm n k hk;hn r' h1
 have uS:∀j,j<w.heap.size->(w.heap.push o1)[j]?=w.heap[j]?:=fun j hj=>by rw[Array.getElem?_push,if_neg (by omega)]
 refine⟨⟨fun r hr x BA=>?_,fun r s r' hr hs a b x y=>?_,fun r r' x=>?_,fun r k x=>let⟨r',y⟩:=h.xm r k x;⟨r',.inl y⟩,⟨fun r r' s s' x y hr=>?_,fun r r' x=>?_,fun r r' s' x y=>?_,fun hl=>absurd (h.lx.symm.trans hl) (by decide)⟩,by have:=h.fg;show _<=(w.heap.push o1).size;simp;omega,h.lx⟩,⟨hle,by omega,fun r r' x=>?_,fun r k x=>.inl x,by show _<=(w.heap.push o1).size;simp,fun r' oT _=>uS r' oT⟩⟩
 .rw[hH]at BA;split at BA
  .rename_i e;subst e;simp only[Option.some.injEq]at BA;subst BA;exact⟨w.heap.size,o1,.inr ⟨rfl,rfl⟩,by show(w.heap.push o1)[_]?=_;simp,pF.mono hle,fun k hk=>absurd hk (hx k),.inr lE⟩
  .rename_i bA;obtain⟨r',o',b1,b2,b3,b4⟩:=h.blk r (hr.resolve_right bA) x BA;exact⟨r',o',.inl b1,by show(w.heap.push o1)[_]?=_;rw[uS r' (h.lt r r' b1)];exact b2,b3.mono hle,b4⟩
 .rcases x with x|⟨rfl,rfl⟩<;>rcases y with y|⟨rfl,e⟩
  .have h1:r≠n:=fun e=>hn r' (e▸x);have h2:s≠n:=fun e=>hn r' (e▸y);rw[hH,if_neg h1]at a;rw[hH,if_neg h2]at b;exact h.inj r s r' (hr.resolve_right h1) (hs.resolve_right h2) a b x y
  .have:=h.lt _ _ x;omega
  .have:=h.lt _ _ y;omega
  .rfl
 .show r'<(w.heap.push o1).size;rcases x with x|⟨_,rfl⟩
  .have:=h.lt r r' x;simp;omega
  .simp
 .rcases x with x|⟨rfl,rfl⟩
  .rcases y with y|⟨rfl,rfl⟩
   .exact h.ok.inj r r' s s' x y hr
   .have h1:=h.lt r r' x;exact⟨fun e=>absurd (hr h.lx) (by omega),fun e=>by omega⟩
  .exact absurd (hr h.lx) (by omega)
 .rcases x with x|⟨rfl,rfl⟩
  .exact h.ok.fix r r' x
  .have:=h.fg;omega
 .rcases x with x|⟨rfl,rfl⟩
  .rcases y with y|⟨e,_⟩
   .exact h.ok.one r r' s' x y
   .exact absurd x (e▸hn r')
  .rcases y with y|⟨_,rfl⟩
   .exact absurd y (hn s')
   .rfl
 .rcases x with x|⟨rfl,rfl⟩
  .exact .inl x
  .exact .inr ⟨Nat.le_refl _,by omega,.inl (Nat.le_refl _)⟩
end
section
variable {P:Program} {F:Array Func} {S:Nat->Bool} {K:Kz}
theorem jz {Q:Pi->α->β->Prop}:∀(s:Sem α) {s':Sem β} {p:Pi},tj P F S K 0 Q s s' p->∀{H:Hp} {a:α} {H1:Hp} {R1 W1:Nat} {Fp:Nat->Prop} {w:World},
 aA P s H=some (a,H1,R1,W1)->Rl P S K p H.get Fp w->P.globals.size<=H.n->(∀r,H.n<=r->r<H1.n->∀r',¬p r r')->(∀r,(R1.testBit r=true\/W1.testBit r=true)->(H.n<=r/\r<H1.n)\/Fp r)->
 ∃b w1 q,s'.run (ag P F) w=.ok b w1/\Q q a b/\Mv (fun r=>W1.testBit r=true) p H.n w q H1.n w1/\Rl P S K q H1.get (fun r=>Fp r\/(H.n<=r/\r<H1.n)) w1:=by
 intro s;induction s with
 |pure a=>
  intro s' p h H a1 H1 R1 W1 Fp w e hr hg hn hF;simp only[aA,Option.some.injEq,Prod.mk.injEq]at e;obtain⟨rfl,rfl,rfl,rfl⟩:=e;cases s'<;>first|exact⟨_,w,p,rfl,h,Mv.refl _ _ _ _,hr.mono fun r x=>x.resolve_right (by omega)⟩|exact h.elim
 |load m a k ih=>
  intro s' p h H a1 H1 R1 W1 Fp w e hr hg hn hF;cases s'<;>first|exact h.elim|skip
  rename_i m' a' k';obtain⟨rfl,rfl,ha,hk⟩:=h;have zc:=ba P _ e;simp only[aA]at e;split at e<;>try(cases e;done)
  rename_i c ty fz tz;split at e<;>try(cases e;done)
  rename_i lj;split at e<;>try(cases e;done)
  rename_i v hv;obtain⟨R0,e2,rfl⟩:=fK e;have E9:Fp a.block:=(hF a.block (.inl (by rw[Nat.testBit_or,(tb _ _).2 rfl,Bool.or_true]))).resolve_left fun x=>hn _ x.1 x.2 _ ha.1;obtain⟨v',h1,h2⟩:=hr.cell E9 ha tz lj hv;obtain⟨b,w1,q,c1,c2,c3,c4⟩:=ih v (hk v v' h2) e2 hr hg hn fun r x=>hF r (x.imp (fun y=>by rw[Nat.testBit_or,y,Bool.true_or]) id);exact⟨b,w1,q,by simp only[Sem.run,h1];exact c1,c2,c3,c4⟩
 |store m a v k ih=>
  intro s' p h H a1 H1 R1 W1 Fp w e hr hg hn hF;cases s'<;>first|exact h.elim|skip
  rename_i m' a' v' k';obtain⟨rfl,rfl,ha,hv,hk⟩:=h;have zc:=ba P _ e;simp only[aA]at e;cases Bf:de v<;>rw[Bf]at e<;>simp only[cond_true,cond_false]at e
  .cases e
  split at e<;>try(cases e;done)
  rename_i c ty fz tz;split at e<;>try(cases e;done)
  rename_i lj;cases hb:(Nat.blt a.off c.size&&!(Nat.ble fz.1 a.off&&Nat.blt a.off fz.2))<;>rw[hb]at e<;>simp only[cond_true,cond_false]at e
  .cases e
  obtain⟨W0,e2,rfl⟩:=gO e;simp only[Bool.and_eq_true,Bool.not_eq_true',Bool.and_eq_false_iff,Nat.blt_eq]at hb
  have Pa:¬(fz.1<=a.off/\a.off<fz.2):=by
   rintro⟨x,y⟩;rcases hb.2 with z|z
   .rw[<-Bool.not_eq_true,Nat.ble_eq]at z;exact z x
   .rw[<-Bool.not_eq_true,Nat.blt_eq]at z;exact z y
  have E9:Fp a.block:=(hF a.block (.inr (by rw[Nat.testBit_or,(tb _ _).2 rfl,Bool.or_true]))).resolve_left fun x=>hn _ x.1 x.2 _ ha.1;obtain⟨⟨x,h1⟩,h2,h3,h4⟩:=hr.setCell E9 ha tz lj hb.1 Pa hv (fun m=>Hp.get_put H a.block _ m) H.n;obtain⟨b,w1,q,c1,c2,c3,c4⟩:=ih hk e2 h3 hg hn fun r x=>hF r (x.imp id fun y=>by rw[Nat.testBit_or,y,Bool.true_or]);refine⟨b,w1,q,?_,c2,h4.trans c3 (fun r x=>by subst x;rw[Nat.testBit_or,(tb _ _).2 rfl,Bool.or_true]) (fun r x=>by rw[Nat.testBit_or,x,Bool.true_or]),c4⟩;have Mq:de v'=true:=hv.de Bf;cases v'<;>first|(cases Mq;done)|(simp only[Sem.run,h1,h2];exact c1)
 |new o k ih=>
  intro s' p h H a1 H1 R1 W1 Fp w e hr hg hn hF;cases s'<;>first|exact h.elim|skip
  rename_i o' k';obtain⟨ho,EY,hk⟩:=h;have zc:=ba P _ e;simp only[aA]at e;obtain⟨W0,e2,rfl⟩:=gO e;have Vy:=ba P _ e2;have hnn:H.n+1<=H1.n:=Vy.nn;obtain⟨h3,h4⟩:=hr.push (n:=H.n) (hn H.n (Nat.le_refl _) (by omega)) hg ho (EY hr.lx) (fun m=>Hp.jd H o m)
  obtain⟨b,w1,q,c1,c2,c3,c4⟩:=ih H.n (hk H.n w.heap.size _ (one_le _ _ _) h3.ok (.inr ⟨rfl,rfl⟩) (Nat.zero_le _) (fun k hx=>by
   obtain⟨r',oT⟩:=hr.xm _ k hx;exact hn H.n (Nat.le_refl _) (by omega) r' oT)) e2 h3 (by show _<=H.n+1;omega) (fun r x y r' z=>by
   have x:H.n+1<=r:=x;rcases z with z|⟨z,_⟩
   .exact hn r (by omega) y r' z
   .omega) (fun r x=>by
   rcases hF r (x.imp id fun y=>by rw[Nat.testBit_or,y,Bool.true_or])with⟨y,z⟩|y
   .by_cases e:r=H.n
    .exact .inr (.inr e)
    .exact .inl ⟨by show H.n+1<=r;omega,z⟩
   .exact .inr (.inl y))
  refine⟨b,w1,q,c1,c2,(h4.mono (W:=fun r=>r=H.n) fun _ x=>x.elim).trans c3 (fun r x=>by subst x;rw[Nat.testBit_or,(tb _ _).2 rfl,Bool.or_true]) (fun r x=>by rw[Nat.testBit_or,x,Bool.true_or]),c4.mono fun r x=>?_⟩;rcases x with x|⟨x,y⟩
  .exact .inl (.inl x)
  .by_cases e:r=H.n
   .exact .inl (.inr e)
   .exact .inr ⟨by show H.n+1<=r;omega,y⟩
 |getObj r k ih=>
  intro s' p h H a1 H1 R1 W1 Fp w e hr hg hn hF;cases s'<;>first|exact h.elim|skip
  rename_i r' k';obtain⟨hp,hk⟩:=h;simp only[aA]at e;split at e<;>try(cases e;done)
  rename_i o Pb tz;obtain⟨R0,e2,rfl⟩:=fK e;have E9:Fp r:=(hF r (.inl (by rw[Nat.testBit_or,(tb _ _).2 rfl,Bool.or_true]))).resolve_left fun x=>hn _ x.1 x.2 _ hp;obtain⟨o',h2,h3,_⟩:=hr.at E9 hp tz;have M4:=h3.xg fun c e fz x=>Pb c e fz x;obtain⟨b,w1,q,c1,c2,c3,c4⟩:=ih o (hk o o' h3) e2 hr hg hn fun r x=>hF r (x.imp (fun y=>by rw[Nat.testBit_or,y,Bool.true_or]) id);refine⟨b,w1,q,?_,c2,c3,c4⟩;simp only[Sem.run,h2];cases o'<;>first|exact absurd rfl (M4 _ _ _)|exact c1
 |setObj r o k ih=>
  intro s' p h H a1 H1 R1 W1 Fp w e hr hg hn hF;cases s'<;>first|exact h.elim|skip
  rename_i r' o' k';obtain⟨hp,ho,EY,hk⟩:=h;simp only[aA]at e;split at e<;>try(cases e;done)
  rename_i o0 Pb tz;obtain⟨W0,e2,rfl⟩:=gO e;have E9:Fp r:=(hF r (.inr (by rw[Nat.testBit_or,(tb _ _).2 rfl,Bool.or_true]))).resolve_left fun x=>hn _ x.1 x.2 _ hp;obtain⟨o1,h2,h3,_⟩:=hr.at E9 hp tz;have M4:=h3.xg fun c e fz x=>Pb c e fz x;obtain⟨h5,h6⟩:=hr.setObj E9 hp tz (fun c e fz x=>Pb c e fz x) ho (EY hr.lx) (fun m=>Hp.get_put H r _ m) H.n;obtain⟨b,w1,q,c1,c2,c3,c4⟩:=ih hk e2 h5 hg hn fun r x=>hF r (x.imp id fun y=>by rw[Nat.testBit_or,y,Bool.true_or]);refine⟨b,w1,q,?_,c2,h6.trans c3 (fun r x=>by subst x;rw[Nat.testBit_or,(tb _ _).2 rfl,Bool.or_true]) (fun r x=>by rw[Nat.testBit_or,x,Bool.true_or]),c4⟩;simp only[Sem.run,h2];cases o1<;>first|exact absurd rfl (M4 _ _ _)|exact c1
 |program k ih=>
  intro s' p h H a1 H1 R1 W1 Fp w e hr hg hn hF;rcases h with h|⟨k',rfl,h⟩
  .have e:aA P (k P) H=some (a1,H1,R1,W1):=e;rcases h with⟨_,h⟩|⟨h,_⟩
   .rw[q7 (k P) h]at e;cases e
   .rw[hr.lx]at h;cases h
  .exact ih P h e hr hg hn hF
 |mark m k ih=>
  intro s' p h H a1 H1 R1 W1 Fp w e hr hg hn hF;simp only[aA]at e;split at e
  .rcases h with⟨_,h⟩|(⟨_,h⟩|⟨h,_⟩)|⟨_,k',rfl,hk⟩
   .exact absurd rfl h
   .rw[q7 k h]at e;cases e
   .rw[hr.lx]at h;cases h
   .exact ih hk e hr hg hn hF
  .cases e
 |shape r k ih=>intro s' p h H a1 H1 R1 W1 Fp w e;cases e
 |freeze a n k ih=>intro s' p h H a1 H1 R1 W1 Fp w e;cases e
 |frozen a k ih=>intro s' p h H a1 H1 R1 W1 Fp w e;cases e
 |choose q k ih=>intro s' p h H a1 H1 R1 W1 Fp w e;cases e
 |sys c k ih=>intro s' p h H a1 H1 R1 W1 Fp w e;cases e
 |halt x=>intro s' p h H a1 H1 R1 W1 Fp w e;cases e
end
section
variable {P:Program} {F:Array Func} {S:Nat->Bool} {K:Kz} {p:Pi} {H:Nat->Option Obj} {Fp:Nat->Prop} {w:World}
theorem Rl.kill (h:Rl P S K p H Fp w) {s:Nat} (hH:∀m,H2 m=if m=s then none else H m):Rl P S K p H2 Fp w:=by
 have al:∀m,(H2 m).isSome->(H m).isSome/\m≠s:=fun m x=>by
  rw[hH]at x;split at x
  .cases x
  .rename_i e;exact⟨x,e⟩
 refine⟨fun r hr o ho=>?_,fun r s r' x y a b=>h.inj r s r' x y (al r a).1 (al s b).1,h.lt,h.xm,h.ok,h.fg,h.lx⟩;rw[hH]at ho;split at ho
 .cases ho
 .exact h.blk r hr o ho
def C8 (p:Pi) (n n' k:Nat):Pi:=⟨fun r r'=>p r r'\/(r=n/\r'=n'),fun r j=>p.x r j\/(r=n/\j=k),p.l⟩
theorem BB (p:Pi) (n n' k:Nat) (hn:∀r',¬p n r'):Le p (C8 p n n' k):=⟨fun _ _ h=>.inl h,fun _ _ h=>.inl h,fun r r' j a x=>x.resolve_right fun⟨e,_⟩=>hn r' (e▸a),rfl⟩
theorem Rl.Lq (h:Rl P S K p H Fp w) (hn:∀r',¬p n r') (hg:P.globals.size<=n) {k:Nat} (pF:OR S K p o o1) (hk:Room P o o1 k) (hH:∀m,H2 m=if m=n then some o else H m):
 Rl P S K (C8 p n w.heap.size k) H2 (fun r=>Fp r\/r=n) {w with heap:=w.heap.push o1}/\Mv (fun _=>False) p n w (C8 p n w.heap.size k) (n+1) {w with heap:=w.heap.push o1}:=by
 have hle:=BB p n w.heap.size k hn;have hx:∀j,¬p.x n j:=fun j hj=>let⟨r',h1⟩:=h.xm n j hj;hn r' h1
 have uS:∀j,j<w.heap.size->(w.heap.push o1)[j]?=w.heap[j]?:=fun j hj=>by rw[Array.getElem?_push,if_neg (by omega)]
 refine⟨⟨fun r hr o' ho=>?_,fun r s r' hr hs a b x y=>?_,fun r r' x=>?_,fun r j x=>?_,⟨fun r r' s s' x y hr=>?_,fun r r' x=>?_,fun r r' s' x y=>?_,fun hl=>absurd (h.lx.symm.trans hl) (by decide)⟩,by have:=h.fg;show _<=(w.heap.push o1).size;simp;omega,h.lx⟩,⟨hle,by omega,fun r r' x=>?_,fun r j x=>?_,by show _<=(w.heap.push o1).size;simp,fun r' oT _=>uS r' oT⟩⟩
 .rw[hH]at ho;split at ho
  .rename_i e;subst e;simp only[Option.some.injEq]at ho;subst ho
   exact⟨w.heap.size,o1,.inr ⟨rfl,rfl⟩,by show(w.heap.push o1)[_]?=_;simp,pF.mono hle,fun j hj=>by
    rcases hj with hj|⟨_,rfl⟩
    .exact absurd hj (hx j)
    .exact hk,.inl ⟨k,.inr ⟨rfl,rfl⟩⟩⟩
  .rename_i bA;obtain⟨r',o2,b1,b2,b3,b4,b5⟩:=h.blk r (hr.resolve_right bA) o' ho;exact⟨r',o2,.inl b1,by show(w.heap.push o1)[_]?=_;rw[uS r' (h.lt r r' b1)];exact b2,b3.mono hle,fun j hj=>b4 j (hj.resolve_right fun x=>bA x.1),b5.imp (fun⟨j,hj⟩=>⟨j,.inl hj⟩) id⟩
 .rcases x with x|⟨rfl,rfl⟩<;>rcases y with y|⟨rfl,e⟩
  .have h1:r≠n:=fun e=>hn r' (e▸x);have h2:s≠n:=fun e=>hn r' (e▸y);rw[hH,if_neg h1]at a;rw[hH,if_neg h2]at b;exact h.inj r s r' (hr.resolve_right h1) (hs.resolve_right h2) a b x y
  .have:=h.lt _ _ x;omega
  .have:=h.lt _ _ y;omega
  .rfl
 .show r'<(w.heap.push o1).size;rcases x with x|⟨_,rfl⟩
  .have:=h.lt r r' x;simp;omega
  .simp
 .rcases x with x|⟨rfl,_⟩
  .obtain⟨r',y⟩:=h.xm r j x;exact⟨r',.inl y⟩
  .exact⟨_,.inr ⟨rfl,rfl⟩⟩
 .rcases x with x|⟨rfl,rfl⟩
  .rcases y with y|⟨rfl,rfl⟩
   .exact h.ok.inj r r' s s' x y hr
   .have h1:=h.lt r r' x;exact⟨fun e=>absurd (hr h.lx) (by omega),fun e=>by omega⟩
  .exact absurd (hr h.lx) (by omega)
 .rcases x with x|⟨rfl,rfl⟩
  .exact h.ok.fix r r' x
  .have:=h.fg;omega
 .rcases x with x|⟨rfl,rfl⟩
  .rcases y with y|⟨e,_⟩
   .exact h.ok.one r r' s' x y
   .exact absurd x (e▸hn r')
  .rcases y with y|⟨_,rfl⟩
   .exact absurd y (hn s')
   .rfl
 .rcases x with x|⟨rfl,rfl⟩
  .exact .inl x
  .exact .inr ⟨Nat.le_refl _,by omega,.inl (Nat.le_refl _)⟩
 .rcases x with x|⟨rfl,_⟩
  .exact .inl x
  .exact .inr ⟨Nat.le_refl _,by omega⟩
theorem Rl.reuse (h:Rl P S K p H Fp w) {s:Nat} (hn:∀r',¬p n r') (hg:P.globals.size<=n) (Zn:P.globals.size<=s) (Jh:Fp s) (qV:p s r') (hs:(H s).isSome) {k:Nat} (pF:OR S K p o o1) (hk:Room P o o1 k)
 (hH:∀m,H2 m=if m=n then some o else if m=s then none else H m) (bP:w2.heap.size=w.heap.size) (E2:w2.heap[r']?=some o1) (bA:∀j,j≠r'->w2.heap[j]?=w.heap[j]?):
 Rl P S K (C8 p n r' k) H2 (fun r=>Fp r\/r=n) w2/\Mv (fun m=>m=s) p n w (C8 p n r' k) (n+1) w2:=by
 have hle:=BB p n r' k hn;have Bh:n≠s:=fun e=>hn r' (e▸qV)
 have old:∀r x,p r x->(H2 r).isSome->r≠n/\r≠s/\(H r).isSome:=fun r x hp al=>by
  have h1:r≠n:=fun e=>hn x (e▸hp);rw[hH,if_neg h1]at al;split at al
  .cases al
  .rename_i h2;exact⟨h1,h2,al⟩
 refine⟨⟨fun r hr o' ho=>?_,fun r t x hr ht a b y z=>?_,fun r x y=>?_,fun r j x=>?_,⟨fun a b c d x y hr=>?_,fun a b x=>?_,fun a b c x y=>?_,fun hl=>absurd (h.lx.symm.trans hl) (by decide)⟩,by rw[bP];exact h.fg,h.lx⟩,⟨hle,by omega,fun a b x=>?_,fun a j x=>?_,Nat.le_of_eq bP.symm,fun j hj hw=>bA j fun e=>hw s rfl (e▸qV)⟩⟩
 .rw[hH]at ho;split at ho
  .rename_i e;subst e;simp only[Option.some.injEq]at ho;subst ho;refine⟨r',o1,.inr ⟨rfl,rfl⟩,E2,pF.mono hle,fun j hj=>?_,.inl ⟨k,.inr ⟨rfl,rfl⟩⟩⟩;rcases hj with hj|⟨_,rfl⟩
   .obtain⟨x,y⟩:=h.xm r j hj;exact absurd y (hn x)
   .exact hk
  .rename_i e;split at ho
   .cases ho
   .rename_i e2;obtain⟨r1,o2,b1,b2,b3,b4,b5⟩:=h.blk r (hr.resolve_right e) o' ho;refine⟨r1,o2,.inl b1,?_,b3.mono hle,fun j hj=>?_,b5.imp (fun⟨j,hj⟩=>⟨j,.inl hj⟩) id⟩
    .rw[bA r1 ?_]
     .exact b2
     .intro e3;exact e2 (h.inj r s r1 (hr.resolve_right e) Jh (by rw[ho];rfl) hs b1 (e3▸qV))
    .rcases hj with hj|⟨rfl,_⟩
     .exact b4 j hj
     .exact absurd rfl e
 .rcases y with y|⟨rfl,rfl⟩<;>rcases z with z|⟨rfl,e⟩
  .obtain⟨a1,a2,a3⟩:=old r x y a;obtain⟨b1,b2,b3⟩:=old t x z b;exact h.inj r t x (hr.resolve_right a1) (ht.resolve_right b1) a3 b3 y z
  .obtain⟨a1,a2,a3⟩:=old r x y a;exact absurd (h.inj r s x (hr.resolve_right a1) Jh a3 hs y (e▸qV)) a2
  .obtain⟨a1,a2,a3⟩:=old t x z b;exact absurd (h.inj t s x (ht.resolve_right a1) Jh a3 hs z qV) a2
  .rfl
 .rw[bP];rcases y with y|⟨_,rfl⟩
  .exact h.lt r x y
  .exact h.lt s x qV
 .rcases x with x|⟨rfl,_⟩
  .obtain⟨y,z⟩:=h.xm r j x;exact⟨y,.inl z⟩
  .exact⟨_,.inr ⟨rfl,rfl⟩⟩
 .rcases x with x|⟨rfl,rfl⟩
  .rcases y with y|⟨rfl,rfl⟩
   .exact h.ok.inj a b c d x y hr
   .refine⟨fun e=>absurd (hr h.lx) (by omega),fun e=>?_⟩;have:=(h.ok.inj a b s d x qV hr).2 e;have:=hr h.lx;omega
  .exact absurd (hr h.lx) (by omega)
 .rcases x with x|⟨rfl,rfl⟩
  .exact h.ok.fix a b x
  .have:=h.ok.fix s b qV;omega
 .rcases x with x|⟨rfl,rfl⟩
  .rcases y with y|⟨e,_⟩
   .exact h.ok.one a b c x y
   .exact absurd x (e▸hn b)
  .rcases y with y|⟨_,rfl⟩
   .exact absurd y (hn c)
   .rfl
 .rcases x with x|⟨rfl,rfl⟩
  .exact .inl x
  .exact .inr ⟨Nat.le_refl _,by omega,.inr ⟨s,rfl,qV⟩⟩
 .rcases x with x|⟨rfl,_⟩
  .exact .inl x
  .exact .inr ⟨Nat.le_refl _,by omega⟩
theorem rb (Q:Program):∀(vs:List Value) (a:Addr) (i:Nat) (w:World) (c:Array Value) (e:TypeId) (fz:Nat×Nat),w.heap[a.block]?=some (.cells c e fz)->a.spot=none->a.off+i+vs.length<=c.size->
 (∀j,j<c.size->¬(fz.1<=j/\j<fz.2))->(∀v∈vs,de v=true)->
 ∃w2 c2,(Go.storeCells a vs i).run Q w=.ok () w2/\w2.heap.size=w.heap.size/\(∀j,j≠a.block->w2.heap[j]?=w.heap[j]?)/\w2.heap[a.block]?=some (.cells c2 e fz)/\c2.size=c.size/\
  (∀j,j<a.off+i->c2[j]?=c[j]?)/\(∀j,j<vs.length->c2[a.off+i+j]?=vs[j]?)/\∀j,a.off+i+vs.length<=j->c2[j]?=c[j]?:=by
 intro vs;induction vs with
 |nil=>intro a i w c e fz h1 h2 h3 h4 h5;exact⟨w,c,rfl,rfl,fun _ _=>rfl,h1,rfl,fun _ _=>rfl,fun j hj=>absurd hj (Nat.not_lt_zero j),fun _ _=>rfl⟩
 |cons v vs ih=>
  intro a i w c e fz h1 h2 h3 h4 h5;simp only[List.length_cons]at h3;have CZ:(a.add i).off=a.off+i:=by unfold Addr.add;split<;>simp_all
  have lj:=mI a i h2;have Pc:=eY a i
  have hc:w.cell? (a.add i)=some (c[a.off+i]'(by omega)):=by
   unfold World.cell?;rw[Pc,h1];simp only[lj,Option.isSome_none,Bool.false_eq_true,if_false,CZ];exact Array.getElem?_eq_getElem (by omega)
  have hf:w.frozen? (a.add i)=false:=by
   unfold World.frozen?;rw[Pc,h1];simp only[CZ];rw[<-Bool.not_eq_true];simp only[Bool.and_eq_true,decide_eq_true_eq];exact h4 _ (by omega)
  have j9:(w.setCell (a.add i) v).heap[a.block]?=some (.cells (c.setIfInBounds (a.off+i) v) e fz):=by
   show(w.heap.modify _ _)[a.block]?=_;rw[jy,if_pos Pc,h1];simp[lj,CZ]
  obtain⟨w2,c2,g1,g2,g3,g4,g5,g6,g7,g8⟩:=ih a (i+1) (w.setCell (a.add i) v) _ e fz j9 h2 (by simp;omega) (by simpa using h4) fun x hx=>h5 x (by simp[hx]);refine⟨w2,c2,?_,by rw[g2];simp[World.setCell],fun j hj=>?_,g4,by rw[g5];simp,fun j hj=>?_,fun j hj=>?_,fun j hj=>?_⟩
  .simp only[Go.storeCells];show(Sem.store .plain (a.add i) v _).run Q w=_;have hv:=h5 v (by simp);cases v<;>first|(cases hv;done)|(simp only[Sem.run,hc,hf];exact g1)
  .rw[g3 j hj];show(w.heap.modify _ _)[j]?=_;rw[jy,if_neg (by rw[Pc];exact Ne.symm hj)]
  .rw[g6 j (by omega),Array.getElem?_setIfInBounds,if_neg (by omega)]
  .cases j with
   |zero=>rw[Nat.add_zero,g6 (a.off+i) (by omega),Array.getElem?_setIfInBounds,if_pos rfl,if_pos (by omega)];rfl
   |succ j=>
    have:=g7 j (by simpa using hj);rw[show a.off+i+(j+1)=a.off+(i+1)+j by omega,this];rfl
  .rw[List.length_cons]at hj;rw[g8 j (by omega),Array.getElem?_setIfInBounds,if_neg (by omega)]
end
theorem zS {c:Nat} (h:c<n):Builtin.nextslicecap n c<=2*n+768:=by
 unfold Builtin.nextslicecap;split
 .omega
 .split
  .omega
  .have:∀(r c:Nat),c<n+(n+768)/4+1->Builtin.growBy n r c<=2*n+768:=by
    intro r;induction r with
    |zero=>intro c hc;simp only[Builtin.growBy];omega
    |succ r ih=>
     intro c hc;simp only[Builtin.growBy];split
     .omega
     .exact ih _ (by omega)
   exact this 4 c (by omega)
def RO (P:Program) (s:Sem α):Prop:=∀H a H1 R W,aA P s H=some (a,H1,R,W)->H1=H/\W=0
theorem RO.pure {P:Program} (a:α):RO P (Pure.pure a:Sem α):=fun H b H1 R W h=>by
 have h:some (a,H,0,0)=some (b,H1,R,W):=h;simp only[Option.some.injEq,Prod.mk.injEq]at h;exact⟨h.2.1.symm,h.2.2.2.symm⟩
theorem RO.none {P:Program} {s:Sem α} (h:∀H,aA P s H=.none):RO P s:=fun H a H1 R W e=>by rw[h]at e;cases e
theorem RO.load {P:Program} {k:Value->Sem α} (h:∀v,RO P (k v)):RO P (Sem.load .plain a k):=fun H b H1 R W e=>by
 simp only[aA]at e;split at e<;>try(cases e;done)
 split at e<;>try(cases e;done)
 split at e<;>try(cases e;done)
 obtain⟨R0,e2,_⟩:=fK e;exact h _ _ _ _ _ _ e2
theorem RO.loadCells (P:Program):∀(n:Nat) (a:Addr) (i:Nat) (acc:Array Value),RO P (Go.loadCellsFrom a i n acc)
 |0,_,_,_=>RO.pure _
 |n+1,a,i,acc=>by
  simp only[Go.loadCellsFrom];exact RO.load fun v=>RO.loadCells P n a (i+1) _
theorem RO.firstCells (P:Program) (s n:Nat) (x:Value):RO P (Builtin.firstCells s n x):=by
 cases x<;>first|exact RO.none fun _=>rfl|skip
 .exact RO.pure _
 .rename_i a l c;cases a with
  |none=>exact RO.pure _
  |some a=>exact RO.loadCells P _ a 0 _
def xh:Value->Option Nat
 |.slice _ n _=>some n
 |.string s=>some s.size
 |_=>none
theorem tI (h:xh x=some n):Builtin.lenOf x=Pure.pure n:=by
 cases x<;>simp only[xh,Option.some.injEq,reduceCtorEq]at h<;>(subst h;rfl)
def og (P:Program) (e:TypeId) (size:Nat) (b:Option Addr) (xi sc:Nat) (cs:Array Value) (H:Hp) (R:Nat):Rs Value:=
 match b with
 |none=>some (.slice (some ⟨H.n,0,none⟩) xi xi,H.push (.cells cs e (1,0)),R,2^H.n)
 |some a=>bif a.spot.isNone then bif Nat.beq sc 0 then some (.slice (some ⟨H.n,0,none⟩) xi xi,H.push (.cells cs e (1,0)),R,2^H.n)
  else match H.get a.block with
   |some (.cells c e' fz)=>bif Nat.beq a.off 0&&Nat.beq e' e&&Nat.beq c.size (sc*size)&&Nat.ble fz.1 1&&Nat.beq fz.2 0&&Nat.ble P.globals.size a.block&&Nat.blt 0 size then
     some (.slice (some ⟨H.n,0,none⟩) xi xi,(H.put a.block none).push (.cells cs e (1,0)),R,2^H.n|||2^a.block)else none
   |_=>none else none
def Fa (P:Program) (e:TypeId) (i:TypeInfo) (b:Option Addr) (sl sc n:Nat) (z:Value) (old new:Array Value) (H:Hp) (R:Nat):Rs Value:=
 bif Nat.blt sc (sl+n)&&Nat.ble ((2*(sl+n)+768)*i.bytes) (2^48)&&Nat.blt (sl+n) (2^62)&&Nat.beq z.cells.size i.size&&Nat.beq new.size (n*i.size)&&Nat.beq old.size (sl*i.size)&&new.all de then
  og P e i.size b (sl+n) sc (old++new) H R else none
def Fb (P:Program) (ts:Array TypeId) (xs:Array Value) (H:Hp):Rs Value:=
 match ts[0]? with
 |none=>none
 |some sT=>match(xs[0]?:Option Value)with
  |some (.slice b sl sc)=>match(xs[1]?:Option Value)with
   |none=>none
   |some x=>match P.underlying sT with
    |some (.slice e)=>match P.info? e with
     |none=>none
     |some i=>match xh x with
      |none=>none
      |some n=>match i.zero with
       |none=>none
       |some z=>match aA P (Builtin.firstCells i.size sl (.slice b sl sc)) H with
        |none=>none
        |some (old,_,R1,_)=>match aA P (Builtin.firstCells i.size n x) H with
         |none=>none
         |some (new,_,R2,_)=>Fa P e i b sl sc n z old new H (R1|||R2)
    |_=>none
  |_=>none
section
variable {P:Program} {F:Array Func} {S:Nat->Bool} {K:Kz} {p:Pi} {Fp:Nat->Prop} {w:World}
theorem cQ (Q:Program) (f:α->Sem β) {a:α}:∀(s:Sem α) (w:World),s.run Q w=.ok a w1->(s>>=f).run Q w=(f a).run Q w1:=by
 intro s;show∀(w:World),s.run Q w=.ok a w1->(s.bind f).run Q w=(f a).run Q w1;induction s with
 |pure x=>intro w e;simp only[Sem.run,Result.ok.injEq]at e;obtain⟨rfl,rfl⟩:=e;rfl
 |load m a k ih=>
  intro w e;simp only[Sem.bind,Sem.run]at e⊢;split
  .rename_i h;rw[h]at e;exact ih _ w e
  .rename_i h;rw[h]at e;simp only at e;split
   .rename_i h2;rw[h2]at e;exact ih _ w e
   .rename_i h2;rw[h2]at e;cases e
 |store m a v k ih=>
  intro w e;cases Bf:de v with
  |false=>cases v<;>first|(cases Bf;done)|(simp only[Sem.run]at e;cases e)
  |true=>
   have key:∀{γ:Type} (k:Sem γ),(Sem.store m a v k).run Q w=match w.cell? a with
    |some _=>if w.frozen? a then .halt (.unsupported (.unsafePointer "a write to bytes that a string shares")) w else k.run Q (w.setCell a v)
    |none=>match w.farStore Q a v (m== .atomic)with
     |.ok (w,_)=>k.run Q w
     |.error h=>.halt h w:=fun k=>by cases v<;>first|(cases Bf;done)|rfl
   simp only[Sem.bind];rw[key]at e⊢;split
   .rename_i h;rw[h]at e;simp only at e;split
    .rename_i h2;rw[if_pos h2]at e;cases e
    .rename_i h2;rw[if_neg h2]at e;exact ih _ e
   .rename_i h;rw[h]at e;simp only at e;split
    .rename_i h2;rw[h2]at e;exact ih _ e
    .rename_i h2;rw[h2]at e;cases e
 |new o k ih=>intro w e;exact ih _ _ e
 |shape r k ih=>intro w e;exact ih _ _ e
 |freeze a n k ih=>intro w e;exact ih _ e
 |frozen a k ih=>intro w e;exact ih _ _ e
 |getObj r k ih=>
  intro w e;simp only[Sem.bind,Sem.run]at e⊢;cases ho:w.heap[r]? with
  |none=>rw[ho]at e;cases e
  |some o'=>rw[ho]at e;cases o'<;>first|exact ih _ _ e|(cases e;done)
 |setObj r o k ih=>
  intro w e;simp only[Sem.bind,Sem.run]at e⊢;cases ho:w.heap[r]? with
  |none=>rw[ho]at e;cases e
  |some o'=>rw[ho]at e;cases o'<;>first|exact ih _ e|(cases e;done)
 |choose q k ih=>
  intro w e;simp only[Sem.bind,Sem.run]at e⊢;split at e
  .rename_i hq;simp only[hq,if_true];exact ih _ _ e
  .rename_i hq;simp only[hq,if_false,Bool.false_eq_true];exact ih _ _ e
 |sys c k ih=>intro w e;exact ih _ _ e
 |program k ih=>intro w e;exact ih _ _ e
 |mark m k ih=>intro w e;exact ih _ e
 |halt x=>intro w e;simp only[Sem.run]at e;cases e
theorem run_typeInfo (h:P.info? t=some i) (f:TypeInfo->Sem β) (w:World):(Go.typeInfo t>>=f).run (ag P F) w=(f i).run (ag P F) w:=by
 show(Sem.bind (match(ag P F).info? t with|some i=>Pure.pure i|none=>Go.stuck "no such type") f).run (ag P F) w=_;rw[jq,h];rfl
theorem run_underlying {i:TypeDesc} (h:P.underlying t=some i) (f:TypeDesc->Sem β) (w:World):(Go.underlying t>>=f).run (ag P F) w=(f i).run (ag P F) w:=by
 show(Sem.bind (match(ag P F).underlying t with|some i=>Pure.pure i|none=>Go.stuck "no such type") f).run (ag P F) w=_;rw[cS,h];rfl
theorem run_sizeOf (h:P.info? t=some i) (f:Nat->Sem β) (w:World):(Go.sizeOf t>>=f).run (ag P F) w=(f i.size).run (ag P F) w:=by
 show((Go.typeInfo t>>=fun i=>Pure.pure i.size)>>=f).run (ag P F) w=_;have:=cQ (ag P F) f (a:=i.size) (w1:=w) (Go.typeInfo t>>=fun i=>Pure.pure i.size) w (by rw[run_typeInfo h];rfl);exact this
theorem sK (h:P.info? t=some i) (hz:i.zero=some z) (f:Value->Sem β) (w:World):(Go.zeroValue t>>=f).run (ag P F) w=(f z).run (ag P F) w:=
 cQ (ag P F) f (a:=z) (w1:=w) (Go.zeroValue t) w (by unfold Go.zeroValue;rw[run_typeInfo h,hz];rfl)
theorem run_choose {q:Question} (hq:q.forced=false) (f:Nat->Sem β) (w:World):(Go.choose q>>=f).run (ag P F) w=(f (q.cut (w.tape w.drawn q))).run (ag P F) {w with drawn:=w.drawn+1}:=by
 show(Sem.choose q f).run _ _=_;simp only[Sem.run,hq,Bool.false_eq_true,if_false]
theorem run_askRoom (n:Nat) (f:Unit->Sem β) (w:World):(Go.askRoom n>>=f).run (ag P F) w=(f ()).run (ag P F) w:=by
 unfold Go.askRoom;split<;>rfl
theorem zT (ht:tq P ts=true) (t:TypeId) {sT:TypeId} {b:Option Addr} (h0:ts[0]?=some sT) (h1:xs[0]?=some (.slice b sl sc)) (h2:xs[1]?=some x)
 (hu:P.underlying sT=some (.slice e)) (hi:P.info? e=some i) (Vz:∀t1,ts[1]?=some t1->(P.underlying t1).isSome) (w:World):(Builtin.append_ ts t xs).run (ag P F) w=(dX e b sl sc i.size x).run (ag P F) w:=by
 unfold Builtin.append_;rw[h0,h1,h2];simp only;rw[run_underlying hu];simp only;rw[run_sizeOf hi];cases h3:ts[1]? with
 |none=>
  unfold au.dX au.lO au.eJ;cases b<;>simp only[pure_bind,Bool.false_eq_true,if_false,Bool.not_false,if_true,false_or]
 |some t1=>
  obtain⟨u,Zx⟩:=Option.isSome_iff_exists.1 (Vz t1 h3);simp only[tq,h3,Zx]at ht;simp only;rw[run_underlying Zx];have e0:(match u with|.int _=>true|_=>false)=false:=by cases u<;>first|(cases ht;done)|rfl
  unfold au.dX au.lO au.eJ;cases u<;>first|(cases ht;done)|skip
  all_goals(cases b<;>simp only[pure_bind,Bool.false_eq_true,if_false,Bool.not_false,if_true,false_or])
end
section
variable {P:Program} {F:Array Func} {S:Nat->Bool} {K:Kz} {p:Pi} {Fp:Nat->Prop} {w:World}
theorem Rl.heap {H:Nat->Option Obj} (h:Rl P S K p H Fp w) (e:w2.heap=w.heap):Rl P S K p H Fp w2:=
 ⟨fun r x o y=>by rw[e];exact h.blk r x o y,h.inj,fun r r' x=>by rw[e];exact h.lt r r' x,h.xm,h.ok,by rw[e];exact h.fg,h.lx⟩
theorem Mv.heap {W:Nat->Prop} (h:Mv W p n w q n1 w1) (e:w2.heap=w1.heap):Mv W p n w q n1 w2:=
 ⟨h.le,h.nn,h.new,h.uR,by rw[e];exact h.size,fun r a b=>by rw[e];exact h.keep r a b⟩
theorem Mv.Fc {W:Nat->Prop} (h:Mv W p n w q n1 w1) {w0:World} (e:w0.heap=w.heap):Mv W p n w0 q n1 w1:=
 ⟨h.le,h.nn,fun r r' x=>by rw[e];exact h.new r r' x,h.uR,by rw[e];exact h.size,fun r a b=>by rw[e]at a⊢;exact h.keep r a b⟩
def aO (s:Sem α):Prop:=∀Q w b w1,s.run Q w=.ok b w1->w1=w
theorem aO.loadCells:∀(n:Nat) (a:Addr) (i:Nat) (acc:Array Value),aO (Go.loadCellsFrom a i n acc)
 |0,_,_,_=>fun Q w b w1 h=>by
  have h:Result.ok _ w=.ok b w1:=h;simp only[Result.ok.injEq]at h;exact h.2.symm
 |n+1,a,i,acc=>fun Q w b w1 h=>by
  simp only[Go.loadCellsFrom]at h;have h:(Sem.load .plain (a.add i) fun v=>Go.loadCellsFrom a (i+1) n (acc.push v)).run Q w=.ok b w1:=h;simp only[Sem.run]at h;split at h
  .exact aO.loadCells n a (i+1) _ _ _ _ _ h
  .split at h
   .exact aO.loadCells n a (i+1) _ _ _ _ _ h
   .cases h
theorem aO.firstCells (s n:Nat) (x:Value):aO (Builtin.firstCells s n x):=by
 intro Q w b w1 h;have key:∀c:Array Value,Result.ok c w=.ok b w1->w1=w:=fun c h=>by simp only[Result.ok.injEq]at h;exact h.2.symm
 cases x with
 |string s=>exact key _ h
 |slice a l c=>
  cases a with
  |none=>exact key _ h
  |some a=>exact aO.loadCells _ a 0 _ Q w b w1 h
 |_=>cases h
theorem tJ {H:Hp} (hr:Rl P S K p H.get Fp w) (hg:P.globals.size<=H.n) (hx:VR S p x x') (hn:∀b c,x=.slice b 0 c->n=0) {cs:Array Value} {Ha:Hp} (e:aA P (Builtin.firstCells size n x) H=some (cs,Ha,R,W))
 (hF:∀r,R.testBit r=true->Fp r) (hw:w2.heap=w.heap):∃jn,(Builtin.firstCells size n x').run (ag P F) w2=.ok jn w2/\AR S p cs jn:=by
 obtain⟨rfl,rfl⟩:=RO.firstCells P size n x _ _ _ _ _ e;obtain⟨jn,w1,q,h1,h2,h3,_⟩:=jz (P:=P) (F:=F) (K:=K) (Builtin.firstCells size n x) (SR.firstCells (P:=P) (F:=F) (S:=S) (K:=K) (N:=0) size n hx hn (hr.heap hw).ok) e (hr.heap hw) hg (fun r a b=>by omega) (fun r h=>.inr (h.elim (hF r) fun h=>by simp at h));have:=aO.firstCells _ _ _ _ _ _ _ h1;subst this;refine⟨jn,h1,AR.mono ⟨fun r r' x=>?_,fun r k x=>?_,fun _ _ _ _ x=>h3.le.x _ _ x,h3.le.l.symm⟩ h2⟩
 .rcases h3.new r r' x with y|⟨a,b,_⟩
  .exact y
  .omega
 .rcases h3.uR r k x with y|⟨a,b⟩
  .exact y
  .omega
theorem xj (hx:VR S p x x') (h:xh x=some n):xh x'=some n:=by
 cases hx<;>first|exact h|(simp only[xh,reduceCtorEq]at h;done)
theorem xk:∀(n:Nat) (v:Value),plain n v=true->∀u∈v.cells,∃m,plain m u=true:=by
 intro n v h u hu;cases v with
 |agg xs=>
  cases n with
  |zero=>simp[plain]at h
  |succ n=>
   simp only[plain]at h;exact⟨n,Array.all_eq_true'.1 h u (by simpa [Value.cells]using hu)⟩
 |_=>simp[Value.cells]at hu;subst hu;exact⟨n,h⟩
theorem pN {z:Array Value} {X:Value->Prop} (h:∀u∈z,X u) (k:Nat) {j:Nat} {u:Value} (hj:(Builtin.zeroCells z k)[j]?=some u):X u:=by
 unfold Builtin.zeroCells at hj;rw[Array.getElem?_map]at hj;cases hr:(Array.range (k*z.size))[j]? with
 |none=>rw[hr]at hj;cases hj
 |some x=>
  rw[hr]at hj;simp only[Option.map_some,Option.some.injEq]at hj;subst hj;have az:=(Array.getElem?_eq_some_iff.1 hr).1;simp at az
  have hz:0<z.size:=by
   rcases Nat.eq_zero_or_pos z.size with h|h
   .rw[h]at az;omega
   .exact h
  have hm:x%z.size<z.size:=Nat.mod_lt _ hz;rw[getElem!_pos z (x%z.size) hm];exact h _ (Array.getElem_mem hm)
theorem uT (hi:P.info? e=some i) (hz:i.zero=some z) (VA:∀u∈z.cells,(∃m,plain m u=true)/\K.z e u) (Qv:z.cells.size=i.size) {b b':Option Addr} {sF:Nat} (hs:VR S p (.slice b sl sc) (.slice b' sl sF)) (hx:VR S p x x') (hlen:xh x=some n)
 (Qw:sc<sl+n) (pm:(2*(sl+n)+768)*i.bytes<=2^48) (Qx:sl+n<2^62) {old new:Array Value} (hold:old.size=sl*i.size) (iK:new.size=n*i.size) (Bf:∀v∈new,de v=true)
 {H:Hp} (hr:Rl P S K p H.get Fp w) (hg:P.globals.size<=H.n) (ho:∀w2:World,w2.heap=w.heap->∃jn,(Builtin.firstCells i.size sl (.slice b' sl sF)).run (ag P F) w2=.ok jn w2/\AR S p old jn)
 (hw:∀w2:World,w2.heap=w.heap->∃jn,(Builtin.firstCells i.size n x').run (ag P F) w2=.ok jn w2/\AR S p new jn) {H1:Hp} (he:og P e i.size b (sl+n) sc (old++new) H R=some (v,H1,R1,W1))
 (hn:∀r',¬p H.n r') (hF:∀r,W1.testBit r=true->(H.n<=r/\r<H1.n)\/Fp r)
 (Zy:∀a c e' fz,b=some a->H.get a.block=some (.cells c e' fz)->a.off=0->c.size=sc*i.size->a.spot=none->∀j,j<old.size->old[j]?=c[j]?):
 ∃v' w1 q,(dX e b' sl sF i.size x').run (ag P F) w=.ok v' w1/\VR S q v v'/\Mv (fun r=>W1.testBit r=true) p H.n w q H1.n w1/\Rl P S K q H1.get (fun r=>Fp r\/(H.n<=r/\r<H1.n)) w1:=by
 have M5:Jg P e=i.size:=by unfold Jg;rw[hi];rfl
 have grow:∀{H2:Nat->Option Obj},Rl P S K p H2 Fp w->sF<sl+n->(∀m,H1.get m=if m=H.n then some (.cells (old++new) e (1,0))else H2 m)->v=.slice (some ⟨H.n,0,none⟩) (sl+n) (sl+n)->H1.n=H.n+1->
  ∃v' w1 q,(dX e b' sl sF i.size x').run (ag P F) w=.ok v' w1/\VR S q v v'/\Mv (fun r=>W1.testBit r=true) p H.n w q H1.n w1/\Rl P S K q H1.get (fun r=>Fp r\/(H.n<=r/\r<H1.n)) w1:=by
  intro H2 nK az Qy hv xl;let w1:World:={w with drawn:=w.drawn+1}
  let k:=w.tape w.drawn (.appendCap (sl+n) sF e)%(2^63-(sl+n))
  obtain⟨Ji,qJ,qe⟩:=ho w1 rfl;obtain⟨uU,fV,wd⟩:=hw w1 rfl;let cells:=Ji++uU++Builtin.zeroCells z.cells k
  have j7:cells.size=(old++new).size+k*i.size:=by
   show(Ji++uU++Builtin.zeroCells z.cells k).size=_;unfold Builtin.zeroCells;simp only[Array.size_append,Array.size_map,Array.size_range,Qv,qe.1,wd.1]
  have pF:OR S K p (.cells (old++new) e (1,0)) (.cells cells e (0,0)):=by
   refine .bO hr.lx e (1,0) (0,0) (by rw[j7];omega) (.inr ⟨fun j _ h=>by omega,fun _=>rfl⟩) (fun j u' hj h2=>?_) fun j u u' h1 h2=>?_
   .have TR:=qe.append wd;have:cells[j]?=(Builtin.zeroCells z.cells k)[j-(Ji++uU).size]?:=Array.getElem?_append_right (by rw[<-TR.1];exact hj);rw[this]at h2;exact pN VA k h2
   have hj:j<(old++new).size:=(Array.getElem?_eq_some_iff.1 h1).1;have TR:=qe.append wd;have:cells[j]?=(Ji++uU)[j]?:=Array.getElem?_append_left (by rw[<-TR.1];exact hj);rw[this]at h2;exact TR.2 j u u' h1 h2
  obtain⟨g1,g2⟩:=(nK.heap (w2:=w1) rfl).Lq (n:=H.n) (k:=k) hn hg pF ⟨_,_,_,_,_,rfl,rfl,by rw[j7,M5],.inr (by have:=Nat.mod_lt (w.tape w.drawn (.appendCap (sl+n) sF e)) (show 0<2^63-(sl+n) by omega);show w.tape w.drawn (.appendCap (sl+n) sF e)%(2^63-(sl+n))+1<2^63;omega),by decide⟩ Qy;refine⟨.slice (some ⟨w.heap.size,0,none⟩) (sl+n) (sl+n+k),_,_,?_,?_,by rw[xl];exact(g2.Fc (w0:=w) rfl).mono fun _ h=>h.elim,g1.mono fun r h=>h.imp id fun⟨a,b⟩=>by omega⟩
  .unfold au.dX;rw[tI (xj hx hlen)];simp only[pure_bind];rw[if_neg (by omega),run_typeInfo hi]
   rw[if_neg (by rintro⟨h1,_⟩;have e9:IntKind.i64.max=9223372036854775807:=by decide
                 rw[e9]at h1;omega)]
   unfold au.lO;rw[run_typeInfo hi,if_neg ?_]
   .unfold au.eJ;rw[run_choose rfl,run_typeInfo hi,run_askRoom];rw[cQ (ag P F) _ _ _ qJ,cQ (ag P F) _ _ _ fV,sK hi hz];have e0:(Question.appendCap (sl+n) sF e).cut (w.tape w.drawn (.appendCap (sl+n) sF e))=sl+n+k:=rfl;rw[e0];have e1:sl+n+k-(sl+n)=k:=by omega
    rw[e1];rfl
   .have:=zS az;have:=Nat.mul_le_mul_right i.bytes this;omega
  .rw[hv];exact .cJ 0 (sl+n) hr.lx (.inr ⟨rfl,rfl⟩) (by omega) (.inr ⟨rfl,rfl⟩)
 obtain⟨_,qD⟩:=ke hs;unfold og at he;cases b with
 |none=>
  simp only[Option.some.injEq,Prod.mk.injEq]at he;obtain⟨rfl,rfl,rfl,rfl⟩:=he;refine grow (H2:=H.get) hr ?_ (fun m=>Hp.jd H _ m) rfl rfl;rcases qD with⟨_,_,e⟩|⟨a,_,e,_⟩|⟨_,_,a,_,e,_⟩
  .omega
  .cases e
  .cases e
 |some a=>
  simp only at he;cases lj:a.spot with
  |some y=>rw[lj]at he;cases he
  |none=>
  rw[lj]at he;simp only[Option.isNone_none,cond_true]at he;by_cases Jj:sc=0
  .subst Jj;simp only[Nat.beq_refl,cond_true,Option.some.injEq,Prod.mk.injEq]at he;obtain⟨rfl,rfl,rfl,rfl⟩:=he;refine grow (H2:=H.get) hr ?_ (fun m=>Hp.jd H _ m) rfl rfl;rcases qD with⟨_,_,e⟩|⟨a2,_,e,_,_,e2|⟨_,h0,_⟩⟩|⟨_,_,a2,_,e,_,⟨_,e2⟩|⟨e2,_⟩⟩
   .omega
   .omega
   .omega
   .cases e;rw[lj]at e2;cases e2
   .rw[hr.lx]at e2;cases e2
  .rw[gu Jj]at he;simp only[cond_false]at he;split at he<;>try(cases he;done)
   rename_i c e' fz tz;cases hb:(Nat.beq a.off 0&&Nat.beq e' e&&Nat.beq c.size (sc*i.size)&&Nat.ble fz.1 1&&Nat.beq fz.2 0&&Nat.ble P.globals.size a.block&&Nat.blt 0 i.size)<;>rw[hb]at he<;>simp only[cond_true,cond_false]at he
   .cases he
   simp only[Bool.and_eq_true]at hb;obtain⟨⟨⟨⟨⟨⟨b1,b2⟩,b3⟩,b4⟩,b5⟩,b6⟩,b7⟩:=hb;have VB:i.size≠0:=fun e=>by rw[e]at b7;cases b7
   have b1:=Nat.eq_of_beq_eq_true b1;have b2:=Nat.eq_of_beq_eq_true b2;have b3:=Nat.eq_of_beq_eq_true b3;have b5:=Nat.eq_of_beq_eq_true b5;have b6:=Nat.le_of_ble_eq_true b6;subst b2;simp only[Option.some.injEq,Prod.mk.injEq]at he;obtain⟨rfl,rfl,rfl,rfl⟩:=he
   have bA:a.block≠H.n:=fun e=>by
    rcases qD with⟨e1,_⟩|⟨a2,a2',e1,_,h3,_⟩|⟨_,_,a2,_,e1,_,⟨_,e2⟩|⟨e2,_⟩⟩
    .cases e1
    .cases e1;exact hn _ (e▸h3.1)
    .cases e1;rw[lj]at e2;cases e2
    .rw[hr.lx]at e2;cases e2
   have E9:Fp a.block:=(hF a.block (by rw[Nat.testBit_or,(tb _ _).2 rfl,Bool.or_true])).resolve_left fun⟨x,y⟩=>by
    have y:a.block<H.n+1:=y;omega
   have Qy:∀m,((H.put a.block none).push (.cells (old++new) e' (1,0))).get m=if m=H.n then some (.cells (old++new) e' (1,0))else if m=a.block then none else H.get m:=fun m=>by
    rw[Hp.jd];show(if m=H.n then _ else _)=_;rw[Hp.get_put]
   have Qz:Rl P S K p (fun m=>if m=a.block then none else H.get m) Fp w:=hr.kill fun m=>rfl;rcases qD with⟨e1,_⟩|⟨a2,a',e1,rfl,ha,qA⟩|⟨_,_,a2,_,e1,_,⟨_,e2⟩|⟨e2,_⟩⟩
   .cases e1
   .cases e1;rcases Nat.lt_or_ge sF (sl+n)with az|uu
    .exact grow Qz az Qy rfl rfl
    ·
     obtain⟨_,h0,_,k0,oU,rfl⟩:=qA.resolve_left (by omega);obtain⟨o',g1,g2,g3⟩:=hr.at E9 ha.1 tz;obtain⟨c0,e0,fz0,c',eO,e5,rfl,bP,sL⟩:=g3.1 k0 oU;cases e5;rw[M5,b3,<-Nat.add_mul]at bP;have CK:a'.spot=none:=ha.2.2.symm.trans lj;have Lr:a'.off=0:=ha.2.1.symm.trans b1
     have QB:(∀j,j<c'.size->¬(eO.1<=j/\j<eO.2))/\(S 999999=true->eO=(0,0)):=by
      cases g2 with
      |cells e fz hw g=>
       have:=hw hr.lx;exact⟨fun j _ h=>by omega,fun _=>Prod.ext (by omega) b5⟩
      |bO _ e fz eO hl hz hs g=>
       rcases hz with⟨_,hz⟩|hz
       .have VC:sc*i.size=0:=by omega
        have wS:i.size=0:=by
         rcases Nat.mul_eq_zero.1 VC with h|h
         .exact absurd h Jj
         .exact h
        exact absurd wS VB
       .exact hz
     have QC:=QB.1;obtain⟨cc,fz2,e6,Pd,Lc,_⟩:=g2.oe;cases e6;obtain⟨uU,fV,wd⟩:=hw w rfl;have Ls:(a'.add (sl*i.size)).off=sl*i.size:=by unfold Addr.add;split<;>simp_all
     have hle:sl*i.size+n*i.size<=c'.size:=by rw[bP,<-Nat.add_mul];exact Nat.mul_le_mul_right _ uu
     obtain⟨w2,c2,s1,s2,s3,s4,s5,s6,s7,s8⟩:=rb (ag P F) uU.toList (a'.add (sl*i.size)) 0 w c' e' eO (by rw[eY];exact g1) (mI _ _ CK) (by rw[Ls];simp only[Array.length_toList,<-wd.1,iK];omega) QC (fun u hu=>by
      obtain⟨j,hj,hju⟩:=List.getElem_of_mem hu;have we:j<uU.size:=by simpa using hj
      have od:j<new.size:=by rw[wd.1];exact we
      have hrel:=wd.2 j new[j] uU[j] (Array.getElem?_eq_getElem od) (Array.getElem?_eq_getElem we);have:u=uU[j]:=by rw[<-hju];simp
      rw[this,<-hrel.de];exact Bf _ (Array.getElem_mem od))
     rw[Ls,Nat.add_zero]at s6 s7 s8;rw[eY]at s3 s4;have zcD:sl*i.size+n*i.size=(sl+n)*i.size:=(Nat.add_mul ..).symm;have hk:(sl+n)*i.size+(sc+k0-(sl+n))*i.size=(sc+k0)*i.size:=by rw[<-Nat.add_mul];congr 1;omega
     have pF:OR S K p (.cells (old++new) e' (1,0)) (.cells c2 e' eO):=by
      refine .bO hr.lx e' (1,0) eO (by rw[s5,Array.size_append,hold,iK];omega) (.inr ⟨by rw[s5];exact QC,QB.2⟩) (fun j u' hj h2=>?_) fun j u u' h1 h2=>?_
      .rw[Array.size_append,hold,iK]at hj;rw[s8 j (by simp only[Array.length_toList,<-wd.1,iK];omega)]at h2
       have hjc:c.size<=j:=by
        rw[b3];exact Nat.le_trans (Nat.mul_le_mul_right _ (Nat.le_of_lt Qw)) (by omega)
       cases g2 with
       |cells e fz hw g=>
        have:=(Array.getElem?_eq_some_iff.1 h2).1;rw[<-g.1]at this;omega
       |bO _ e fz eO hl hz hs g=>exact hs j u' hjc h2
      rw[Array.getElem?_append]at h1;by_cases hj:j<old.size
      .rw[if_pos hj]at h1;rw[s6 j (by omega)]at h2;rw[Zy a c e' fz rfl tz b1 b3 lj j hj]at h1;exact Lc j u u' h1 h2
      .rw[if_neg hj]at h1;have az:=(Array.getElem?_eq_some_iff.1 h1).1;have:=s7 (j-old.size) (by simp only[Array.length_toList,<-wd.1];exact az);rw[show sl*i.size+(j-old.size)=j by omega]at this;rw[this]at h2;exact wd.2 _ u u' h1 (by simpa using h2)
     obtain⟨r1,r2⟩:=hr.reuse (n:=H.n) (s:=a.block) (r':=a'.block) (k:=sc+k0-(sl+n)) hn hg b6 E9 ha.1 (by rw[tz];rfl) pF ⟨_,_,_,_,_,rfl,rfl,by rw[s5,M5,Array.size_append,hold,iK,bP];omega,.inr (by
      rcases sL.1 with sL|sL
      .rw[b3]at sL;rcases Nat.mul_eq_zero.1 sL with h|h
       .exact absurd h Jj
       .exact absurd h VB
      .omega),by decide⟩ Qy s2 s4 s3
     refine⟨.slice (some a') (sl+n) (sc+k0),w2,_,?_,?_,r2.mono fun r h=>by subst h;rw[Nat.testBit_or,(tb _ _).2 rfl,Bool.or_true],r1.mono fun r h=>h.imp id fun⟨x,y⟩=>by
      have y:r<H.n+1:=y;omega⟩
     .unfold au.dX;rw[tI (xj hx hlen)];simp only[pure_bind];rw[if_pos uu,cQ (ag P F) _ _ _ fV];rw[cQ (ag P F) _ _ _ s1];rfl
     .have ea:a'=⟨a'.block,0,none⟩:=by
       obtain⟨x,y,z⟩:=a';simp only at Lr CK;subst Lr;subst CK;rfl
      have hv:VR S (C8 p H.n a'.block (sc+k0-(sl+n))) (.slice (some ⟨H.n,0,none⟩) (sl+n) (sl+n)) (.slice (some ⟨a'.block,0,none⟩) (sl+n) ((sl+n)+(sc+k0-(sl+n)))):=.cJ 0 (sl+n) hr.lx (.inr ⟨rfl,rfl⟩) (by omega) (.inr ⟨rfl,rfl⟩);have e8:(sl+n)+(sc+k0-(sl+n))=sc+k0:=by omega
      rw[e8]at hv;rw[ea];exact hv
   .cases e1;rw[lj]at e2;cases e2
   .rw[hr.lx]at e2;cases e2
end
section
variable {P:Program} {F:Array Func} {S:Nat->Bool} {K:Kz} {p:Pi} {Fp:Nat->Prop} {w:World}
theorem lF (P:Program) {H:Hp} {c:Array Value} (hg:H.get a.block=some (.cells c e fz)):∀(n i:Nat) (acc:Array Value) {cs:Array Value} {H1:Hp} {R W:Nat},aA P (Go.loadCellsFrom a i n acc) H=some (cs,H1,R,W)->
 ∃l:Array Value,cs=acc++l/\l.size=n/\∀j,j<n->l[j]?=c[(a.add (i+j)).off]?
 |0,i,acc,cs,H1,R,W,h=>by
  have h:some (acc,H,0,0)=some (cs,H1,R,W):=h;simp only[Option.some.injEq,Prod.mk.injEq]at h;exact⟨#[],by simp[h.1],rfl,fun j hj=>absurd hj (Nat.not_lt_zero j)⟩
 |n+1,i,acc,cs,H1,R,W,h=>by
  simp only[Go.loadCellsFrom]at h;have h:aA P (Sem.load .plain (a.add i) fun v=>Go.loadCellsFrom a (i+1) n (acc.push v)) H=some (cs,H1,R,W):=h;simp only[aA]at h;rw[eY,hg]at h;simp only at h;split at h<;>try(cases h;done)
  split at h<;>try(cases h;done)
  rename_i v hv;obtain⟨R0,h2,_⟩:=fK h;obtain⟨l,h3,h4,h5⟩:=lF P hg n (i+1) _ h2;refine⟨#[v]++l,by rw[h3];simp,by simp[h4];omega,fun j hj=>?_⟩;cases j with
  |zero=>rw[Array.getElem?_append_left (by simp),Nat.add_zero];exact hv.symm
  |succ j=>
   have:=h5 j (by omega);rw[show i+(j+1)=i+1+j by omega,<-this];simp[Array.getElem?_append]
def Pe (P:Program) (K:Kz):Prop:=∀e i z,P.info? e=some i->i.zero=some z->∀u∈z.cells,K.z e u
theorem zU (VA:aV P) (hZ:Pe P K) (ht:tq P ts=true) (Vz:∀t1,ts[1]?=some t1->(P.underlying t1).isSome) (t:TypeId) {cB:Array Value} (h:AR S p xs cB) {H:Hp} {H1:Hp} (e:Fb P ts xs H=some (v,H1,R1,W1))
 (hr:Rl P S K p H.get Fp w) (hg:P.globals.size<=H.n) (hn:∀r,H.n<=r->r<H1.n->∀r',¬p r r') (hF:∀r,(R1.testBit r=true\/W1.testBit r=true)->(H.n<=r/\r<H1.n)\/Fp r):
 ∃v' w1 q,(Builtin.append_ ts t cB).run (ag P F) w=.ok v' w1/\VR S q v v'/\Mv (fun r=>W1.testBit r=true) p H.n w q H1.n w1/\Rl P S K q H1.get (fun r=>Fp r\/(H.n<=r/\r<H1.n)) w1:=by
 unfold Fb at e;split at e<;>try(cases e;done)
 rename_i sT h0;split at e<;>try(cases e;done)
 rename_i b sl sc h1;split at e<;>try(cases e;done)
 rename_i x h2;split at e<;>try(cases e;done)
 rename_i el hu;split at e<;>try(cases e;done)
 rename_i i hi;split at e<;>try(cases e;done)
 rename_i n hlen;split at e<;>try(cases e;done)
 rename_i z hz;split at e<;>try(cases e;done)
 rename_i old Ha Ra Wa ea;split at e<;>try(cases e;done)
 rename_i new Hb Rb Wb eb;unfold Fa at e;cases hb:(Nat.blt sc (sl+n)&&Nat.ble ((2*(sl+n)+768)*i.bytes) (2^48)&&Nat.blt (sl+n) (2^62)&&Nat.beq z.cells.size i.size&&Nat.beq new.size (n*i.size)&&Nat.beq old.size (sl*i.size)&&new.all de)<;>rw[hb]at e<;>simp only[cond_true,cond_false]at e
 .cases e
 simp only[Bool.and_eq_true,Nat.blt_eq]at hb;obtain⟨⟨⟨⟨⟨⟨b1,b2⟩,b3⟩,b4⟩,b5⟩,b6⟩,b7⟩:=hb;have b2:=Nat.le_of_ble_eq_true b2;have b4:=Nat.eq_of_beq_eq_true b4;have b5:=Nat.eq_of_beq_eq_true b5;have b6:=Nat.eq_of_beq_eq_true b6;obtain⟨s',wH,hs⟩:=h.get h1;obtain⟨x',qC,hx⟩:=h.get h2;have VD:∃b' sF,s'=.slice b' sl sF:=by cases hs<;>exact⟨_,_,rfl⟩
 obtain⟨b',sF,rfl⟩:=VD
 have iK:H1.n=H.n+1/\R1=Ra|||Rb:=by
  unfold og at e;split at e
  .simp only[Option.some.injEq,Prod.mk.injEq]at e;obtain⟨rfl,rfl,rfl,rfl⟩:=e;exact⟨rfl,rfl⟩
  .rename_i a;cases lj:a.spot.isNone<;>rw[lj]at e<;>simp only[cond_true,cond_false]at e
   .cases e
   cases Jj:Nat.beq sc 0<;>rw[Jj]at e<;>simp only[cond_true,cond_false]at e
   .split at e<;>try(cases e;done)
    rename_i c e' fz _;cases IV:(Nat.beq a.off 0&&Nat.beq e' el&&Nat.beq c.size (sc*i.size)&&Nat.ble fz.1 1&&Nat.beq fz.2 0&&Nat.ble P.globals.size a.block&&Nat.blt 0 i.size)<;>rw[IV]at e<;>simp only[cond_true,cond_false]at e
    .cases e
    simp only[Option.some.injEq,Prod.mk.injEq]at e;obtain⟨rfl,rfl,rfl,rfl⟩:=e;exact⟨rfl,rfl⟩
   .simp only[Option.some.injEq,Prod.mk.injEq]at e;obtain⟨rfl,rfl,rfl,rfl⟩:=e;exact⟨rfl,rfl⟩
 obtain⟨xl,rfl⟩:=iK
 have Qd:∀{size n:Nat} {x:Value} {cs:Array Value} {Ha:Hp} {R W:Nat},aA P (Builtin.firstCells size n x) H=some (cs,Ha,R,W)->(∀r,R.testBit r=true->(Ra|||Rb).testBit r=true)->(∀r,R.testBit r=true->(H.get r).isSome->∃r',p r r')->∀r,R.testBit r=true->Fp r:=by
  intro size n x cs Ha R W e1 Jk hp r qf;obtain⟨rfl,rfl⟩:=RO.firstCells P size n x _ _ _ _ _ e1;have zc:=ba P _ e1;rcases hF r (.inl (Jk r qf))with⟨x,y⟩|y
  .rcases zc.rd r qf with⟨u,v⟩|u
   .omega
   .obtain⟨r',oT⟩:=hp r qf u;exact absurd oT (hn r x y r')
  .exact y
 have known:∀{size n:Nat} {x x':Value} {cs:Array Value} {Ha:Hp} {R W:Nat},VR S p x x'->aA P (Builtin.firstCells size n x) H=some (cs,Ha,R,W)->∀r,R.testBit r=true->∃r',p r r':=by
  intro size n x x' cs Ha R W hx e1 r QF
  have key:∀(n i:Nat) (a:Addr) (acc cs:Array Value) (Ha:Hp) (R W:Nat),aA P (Go.loadCellsFrom a i n acc) H=some (cs,Ha,R,W)->R.testBit r=true->r=a.block:=by
   intro n;induction n with
   |zero=>
    intro i a acc cs Ha R W e hb;have e:some (acc,H,0,0)=some (cs,Ha,R,W):=e;simp only[Option.some.injEq,Prod.mk.injEq]at e;obtain⟨_,_,rfl,_⟩:=e;simp at hb
   |succ n ih=>
    intro i a acc cs Ha R W e hb;simp only[Go.loadCellsFrom]at e;have e:aA P (Sem.load .plain (a.add i) fun v=>Go.loadCellsFrom a (i+1) n (acc.push v)) H=some (cs,Ha,R,W):=e;simp only[aA]at e;split at e<;>try(cases e;done)
    split at e<;>try(cases e;done)
    split at e<;>try(cases e;done)
    obtain⟨R0,e2,rfl⟩:=fK e;rw[Nat.testBit_or,Bool.or_eq_true,tb,eY]at hb;rcases hb with hb|hb
    .exact ih _ _ _ _ _ _ _ e2 hb
    .exact hb
  cases hx with
  |slice o sp l c g hX=>rw[key _ 0 _ _ _ _ _ _ e1 QF];exact⟨_,g⟩
  |cJ o l _ g h0 hx=>rw[key _ 0 _ _ _ _ _ _ e1 QF];exact⟨_,g⟩
  |eN o o' c' _ g=>rw[key _ 0 _ _ _ _ _ _ e1 QF];exact⟨_,g⟩
  |dk hl=>rw[hr.lx]at hl;cases hl
  |cI l c=>
   have e1:some (#[],H,0,0)=some (cs,Ha,R,W):=e1;simp only[Option.some.injEq,Prod.mk.injEq]at e1;obtain⟨_,_,rfl,_⟩:=e1;simp at QF
  |string s=>
   have e1:some (_,H,0,0)=some (cs,Ha,R,W):=e1;simp only[Option.some.injEq,Prod.mk.injEq]at e1;obtain⟨_,_,rfl,_⟩:=e1;simp at QF
  |_=>cases e1
 have F1:=Qd ea (fun r h=>by rw[Nat.testBit_or,h,Bool.true_or]) fun r h _=>known hs ea r h;have F2:=Qd eb (fun r h=>by rw[Nat.testBit_or,h,Bool.or_true]) fun r h _=>known hx eb r h;rw[zT ht t h0 wH qC hu hi Vz]
 refine uT hi hz (fun u hu=>⟨xk _ _ (VA _ _ _ hi hz) u hu,hZ _ _ _ hi hz u hu⟩) b4 hs hx hlen b1 b2 b3 b6 b5 (fun u hu=>Array.all_eq_true'.1 b7 u hu) hr hg (fun w2 h2=>tJ hr hg hs (fun b c e=>by cases e;rfl) ea F1 h2) (fun w2 h2=>tJ hr hg hx (fun b c e=>by subst e;simp only[xh,Option.some.injEq]at hlen;exact hlen.symm) eb F2 h2) e
  (fun r'=>hn H.n (Nat.le_refl _) (by omega) r') (fun r h=>hF r (.inr h)) ?_
 intro a c e' fz hba tz CZ j7 lj j hj;subst hba;obtain⟨l,h3,h4,h5⟩:=lF P tz _ 0 #[] ea;rw[h3,Array.empty_append];have od:j<sl*i.size:=by omega
 rw[h5 j od];have:(a.add (0+j)).off=j:=by unfold Addr.add;split<;>simp_all
 rw[this]
end
def iB (P:Program) (S:Nat->Bool) (o:Op):Bool:=
 match o with
 |.slice .. |.convert ..=>!S 999999&&o.operands.all (fX P S)
 |.call ⟨.builtin .append,_,ts⟩=>mK P S o&&(match ts[1]? with|some t=>(P.underlying t).isSome|none=>true)
 |o=>mK P S o
def M6:Value->Bool
 |.slice ..=>true
 |_=>false
def Fd (mx:Option Operand) (x:Value):Rs Next->Rs Next
 |some (.value (.slice (some a) l 0),H1,R,W)=>bif mx.isNone&&M6 x then(match l,a.spot with|0,none=>some (.value (.slice (some ⟨a.block,a.off,some 0⟩) 0 0),H1,R,W)|_,_=>none)else some (.value (.slice (some a) l 0),H1,R,W)
 |x=>x
def xp (P:Program) (e:TypeId):Bool:=match P.info? e with
 |some i=>match i.zero with
  |some (.int .u8 (.ofNat 0))=>true
  |_=>false
 |none=>false
theorem zV {P:Program} (h:xp P e=true):∃i,P.info? e=some i/\i.zero=some (.int .u8 0):=by
 unfold xp at h;split at h<;>try(cases h;done)
 rename_i i hi;split at h<;>try(cases h;done)
 rename_i hz;exact⟨i,hi,hz⟩
def zW (P:Program) (s d:TypeId) (x:Value) (H:Hp):Option (Rs Next):=
 match P.underlying s with
 |some .string=>match P.underlying d with
  |some (.slice e)=>match P.underlying e with
   |some (.int .u8)=>match x with
    |.string bs=>some (bif Nat.beq (Jg P e) 1&&xp P e&&Nat.blt bs.size 4611686018427387904 then some (.value (.slice (some ⟨H.n,0,bif Nat.beq bs.size 0 then some 0 else none⟩) bs.size bs.size),H.push (.cells (bs.data.map fun b=>.int .u8 b.toNat) e (1,0)),0,2^H.n)else none)
    |_=>some none
   |_=>some none
  |_=>none
 |_=>none
def kv (P:Program) (r:Operand->Value) (o:Oper) (H:Hp):Rs Next:=
 bif jN r o.op then match o.op with
 |.slice _ x _ _ mx=>Fd mx (r x) (aA P (execOp r o) H)
 |.call ⟨.builtin .append,as,ts⟩=>match Fb P ts (as.map r) H with
  |some (v,H1,R,W)=>some (.value v,H1,R,W)
  |none=>aA P (execOp r o) H
 |.convert s d x=>match zW P s d (r x) H with
  |some y=>y
  |none=>bif nU P s d then aA P (execOp r o) H else none
 |_=>aA P (execOp r o) H
 else none
section
variable {P:Program} {F:Array Func} {S:Nat->Bool} {K:Kz} {p:Pi} {Fp:Nat->Prop} {w:World}
theorem xq (a:Array Obj) (o:Obj) (f:Obj->Obj):(a.push o).modify a.size f=a.push (f o):=by
 apply Array.ext_getElem?;intro i;rw[Array.getElem?_modify,Array.getElem?_push,Array.getElem?_push];by_cases h:i=a.size
 .subst h;simp
 .rw[if_neg h,if_neg h,if_neg (Ne.symm h)]
theorem uV {s d:TypeId} {bs:ByteArray} (h1:P.underlying s=some .string) (h2:P.underlying d=some (.slice e)) (h3:P.underlying e=some (.int .u8)) (hz:Jg P e=1) (h8:K.z e (.int .u8 0)) (Bh:S 999999=false) (Zz:bs.size<4611686018427387904) {H:Hp}
 (hr:Rl P S K p H.get Fp w) (hg:P.globals.size<=H.n) (hn:∀r',¬p H.n r') (hv:v=.slice (some ⟨H.n,0,bif Nat.beq bs.size 0 then some 0 else none⟩) bs.size bs.size) {H1:Hp} (hH:H1=H.push (.cells (bs.data.map fun b=>.int .u8 b.toNat) e (1,0))):
 ∃v' w1 q,(Go.convert s d (.string bs)).run (ag P F) w=.ok v' w1/\VR S q v v'/\Mv (fun r=>(2^H.n).testBit r=true) p H.n w q H1.n w1/\Rl P S K q H1.get (fun r=>Fp r\/(H.n<=r/\r<H1.n)) w1:=by
 subst hH;let w1:World:={w with drawn:=w.drawn+1}
 let k:=w.tape w.drawn (.appendCap bs.size 0 e)%(2^63-bs.size)
 let el:Array Value:=bs.data.map fun b=>.int .u8 b.toNat
 let cells:=el++Array.replicate k (.int .u8 0)
 have j7:cells.size=el.size+k*Jg P e:=by simp[cells,hz]
 have M7:el.size=bs.size:=by simp[el]
 have pF:OR S K p (.cells el e (1,0)) (.cells cells e (cells.size,cells.size+1)):=by
  refine .bO hr.lx e _ _ (by omega) (.inr ⟨fun j hj h=>by simp only at h;omega,fun h=>by rw[Bh]at h;cases h⟩) (fun j u' hj b=>?_) fun j u u' a b=>?_
  .have:cells[j]?=(Array.replicate k (Value.int .u8 0))[j-el.size]?:=Array.getElem?_append_right hj;rw[this,Array.getElem?_replicate]at b;split at b
   .simp only[Option.some.injEq]at b;subst b;exact⟨⟨0,rfl⟩,h8⟩
   .cases b
  have hj:=(Array.getElem?_eq_some_iff.1 a).1;have:cells[j]?=el[j]?:=Array.getElem?_append_left hj;rw[this]at b;have:u'=u:=by rw[a]at b;exact(Option.some.inj b).symm
  subst this;have a2:(bs.data.map fun b=>Value.int .u8 b.toNat)[j]?=some u':=a;rw[Array.getElem?_map]at a2;cases hx:bs.data[j]? with
  |none=>rw[hx]at a2;cases a2
  |some y=>
   rw[hx]at a2;simp only[Option.map_some,Option.some.injEq]at a2;rw[<-a2];exact .int _ _
 obtain⟨g1,g2⟩:=(hr.heap (w2:=w1) rfl).Lq (n:=H.n) (k:=k) hn hg pF ⟨_,_,_,_,_,rfl,rfl,j7,(Nat.eq_zero_or_pos bs.size).imp (fun h=>by rw[M7];exact h) fun h=>by
  have:=Nat.mod_lt (w.tape w.drawn (.appendCap bs.size 0 e)) (show 0<2^63-bs.size by omega);show w.tape w.drawn (.appendCap bs.size 0 e)%(2^63-bs.size)+1<2^63;omega,by decide⟩ (fun m=>Hp.jd H _ m)
 have aP:∃w2,(Go.convert s d (.string bs)).run (ag P F) w=.ok (.slice (some ⟨w.heap.size,0,none⟩) bs.size (bs.size+k)) w2/\w2.heap=w.heap.push (.cells cells e (cells.size,cells.size+1)):=by
  refine⟨{w1 with heap:=w.heap.push (.cells cells e (cells.size,cells.size+1))},?_,rfl⟩;unfold Go.convert;rw[run_underlying h1,run_underlying h2];simp only;rw[run_underlying h3];simp only;unfold Conv.stringToBytes;rw[run_choose rfl];have e0:(Question.appendCap bs.size 0 e).cut (w.tape w.drawn (.appendCap bs.size 0 e))=bs.size+k:=rfl;rw[e0];have e1:bs.size+k-bs.size=k:=by omega
  rw[e1];simp only[Go.newRow,Go.newObj,Go.markStringish,Go.shape,Go.freeze,bind,Sem.bind,Pure.pure,Sem.run,World.shape?,World.freeze,cells,el];simp;show Result.ok _ (World.freeze _ _ 1)=_;unfold World.freeze;simp only[Nat.one_ne_zero,if_false];rw[xq];rfl
 obtain⟨w2,c1,c2⟩:=aP;refine⟨_,w2,_,c1,?_,(g2.Fc (w0:=w) rfl|>.mono fun _ h=>h.elim).heap c2,(g1.heap c2).mono fun r h=>h.imp id fun⟨a,b⟩=>?_⟩
 .rw[hv];by_cases h0:bs.size=0
  .rw[h0];exact .eN 0 0 _ hr.lx (.inr ⟨rfl,rfl⟩)
  .rw[gu h0];exact .cJ 0 bs.size hr.lx (.inr ⟨rfl,rfl⟩) (by omega) (.inr ⟨rfl,rfl⟩)
 .have b:r<H.n+1:=b;omega
structure Ok (P:Program) (F:Array Func) (S:Nat->Bool):Prop where
 nj:S JK=false
 gF:aV P
 dm:aF P
 lP:nV P F S
theorem tK {mx:Option Operand} {y:Rs Next} {H1:Hp} (e:Fd mx x y=some (nx,H1,R1,W1)):
 ∃M8,y=some (M8,H1,R1,W1)/\((mx.isNone&&M6 x)=false/\nx=M8\/(∀a l,M8≠ .value (.slice (some a) l 0))/\nx=M8\/∃a,a.spot=none/\M8=.value (.slice (some a) 0 0)/\nx=.value (.slice (some ⟨a.block,a.off,some 0⟩) 0 0)):=by
 unfold Fd at e;split at e
 .rename_i a l H2 R2 W2;cases hb:(mx.isNone&&M6 x)<;>rw[hb]at e<;>simp only[cond_true,cond_false]at e
  .simp only[Option.some.injEq,Prod.mk.injEq]at e;obtain⟨rfl,rfl,rfl,rfl⟩:=e;exact⟨_,rfl,.inl ⟨rfl,rfl⟩⟩
  .split at e
   .simp only[Option.some.injEq,Prod.mk.injEq]at e;obtain⟨rfl,rfl,rfl,rfl⟩:=e;rename_i lj;exact⟨_,rfl,.inr (.inr ⟨a,lj,rfl,rfl⟩)⟩
   .cases e
 .rename_i bA;refine⟨nx,e,.inr (.inl ⟨fun a l h=>?_,rfl⟩)⟩;subst h;exact bA _ _ _ _ _ e
theorem lW (hk:Ok P F S) (hZ:Pe P K) {r r':Operand->Value} (h:pK P S p r r') (o:Oper) (ho:iB P S o.op=true) {H:Hp} {H1:Hp} (e:kv P r o H=some (nx,H1,R1,W1))
 (hr:Rl P S K p H.get Fp w) (hg:P.globals.size<=H.n) (hn:∀r,H.n<=r->r<H1.n->∀r',¬p r r') (hF:∀r,(R1.testBit r=true\/W1.testBit r=true)->(H.n<=r/\r<H1.n)\/Fp r):
 ∃sw w1 q,(execOp r' o).run (ag P F) w=.ok sw w1/\NX S K q nx sw/\Mv (fun r=>W1.testBit r=true) p H.n w q H1.n w1/\Rl P S K q H1.get (fun r=>Fp r\/(H.n<=r/\r<H1.n)) w1:=by
 have plain:mK P S o.op=true->K8 o.op=true->jN r o.op=true->aA P (execOp r o) H=some (nx,H1,R1,W1)->∃sw w1 q,(execOp r' o).run (ag P F) w=.ok sw w1/\NX S K q nx sw/\Mv (fun r=>W1.testBit r=true) p H.n w q H1.n w1/\Rl P S K q H1.get (fun r=>Fp r\/(H.n<=r/\r<H1.n)) w1:=fun h1 hs h2 h3=>
  jz (P:=P) (F:=F) _ (SR.execOp (P:=P) (F:=F) (S:=S) (K:=K) (N:=0) (fun _=>hk.nj) hk.gF hk.dm hk.lP h o h1 (fun _=>hs) (fun _=>h2) hr.ok) h3 hr hg hn hF
 unfold kv at e;cases hE:jN r o.op<;>rw[hE]at e<;>simp only[cond_true,cond_false]at e
 .cases e
 split at e
 ·
  rename_i t x lo hi mx bD;rw[bD]at ho hE;simp only[iB,Bool.and_eq_true,Bool.not_eq_true']at ho;obtain⟨Bh,ho⟩:=ho
  have bI:∀y∈o.op.operands,fX P S y=true:=by
   rw[bD];intro y hy;obtain⟨j,hj,he⟩:=Array.mem_iff_getElem.1 hy;have:=Array.all_eq_true.1 ho j hj;rw[he]at this;exact this
  obtain⟨M8,e1,i6⟩:=tK e;obtain⟨sw,w1,q,c1,c2,c3,c4⟩:=jz (P:=P) (F:=F) _ (SR.Bm (fun _=>Bh) (P:=P) (F:=F) (S:=S) (K:=K) (N:=0) h o bD bI (fun _=>hE) hr.ok) e1 hr hg hn hF;refine⟨sw,w1,q,c1,?_,c3,c4⟩;rcases c2 with c2|⟨_,VE,v,v',rfl,rfl,⟨b,l,c,hx⟩,a,a',l2,c',rfl,rfl,ha,lj⟩
  .rcases i6 with⟨_,rfl⟩|⟨_,rfl⟩|⟨a,M9,rfl,rfl⟩
   .exact c2
   .exact c2
   .cases c2 with
    |value hv=>
     cases hv with
     |slice o sp l c g hX=>
      simp only at M9;subst M9;exact .value (.eN _ _ _ c4.lx g)
     |cJ o l _ g h0 hx=>exact absurd h0 (Nat.lt_irrefl 0)
     |eN o o' c' _ g=>cases M9
     |dk hl=>rw[c4.lx]at hl;cases hl
  .rcases i6 with⟨hb,rfl⟩|⟨bA,rfl⟩|⟨a2,_,e2,rfl⟩
   .rw[VE,hx]at hb;cases hb
   .exact absurd rfl (bA _ _)
   .simp only[Next.value.injEq,Value.slice.injEq,Option.some.injEq]at e2;obtain⟨rfl,rfl,_⟩:=e2;obtain⟨b1,b2,b3⟩:=a';simp only at lj ha;subst lj;exact .value (.eN _ _ _ c4.lx ha)
 ·
  rename_i as ts bD;rw[bD]at ho;simp only[iB,Bool.and_eq_true]at ho;rw[<-bD]at ho;split at e
  .rename_i v H2 R2 W2 ea;simp only[Option.some.injEq,Prod.mk.injEq]at e;obtain⟨rfl,rfl,rfl,rfl⟩:=e;have qJ:=ho.1;rw[bD]at qJ;simp only[mK,qE,Bool.and_eq_true]at qJ
   have ha:AR S p (as.map r) (as.map r'):=h.many fun x hx=>by
    have hm:x∈(Op.call ⟨.builtin .append,as,ts⟩).operands:=by simp[Op.operands,Call.operands,hx]
    obtain⟨j,hj,he⟩:=Array.mem_iff_getElem.1 hm;have:=Array.all_eq_true.1 qJ.1 j hj;rw[he]at this;exact this
   obtain⟨v',w1,q,c1,c2,c3,c4⟩:=zU (P:=P) (F:=F) hk.gF hZ qJ.2 (fun t1 h1=>by have:=ho.2;rw[h1]at this;exact this) o.type ha ea hr hg hn hF;refine⟨.value v',w1,q,?_,.value c2,c3,c4⟩;unfold execOp;rw[bD];show((resolve r' ⟨.builtin .append,as,ts⟩ o.type>>=fun d=>invoke d.target d.args):Sem Next).run (ag P F) w=_;have c3:=cQ (ag P F) (fun v=>(Pure.pure (Next.value v):Sem Next)) _ w c1;exact c3
  .exact plain ho.1 (by rw[bD];rfl) hE e
 ·
  rename_i s d x bD;rw[bD]at ho;simp only[iB,Op.operands,Bool.and_eq_true,Bool.not_eq_true']at ho;obtain⟨Bh,ho⟩:=ho;have hx:VR S p (r x) (r' x):=h.at (by simpa using ho)
  split at e
  .rename_i y hy;subst e;unfold zW at hy;split at hy<;>try(cases hy;done)
   rename_i h1;split at hy<;>try(cases hy;done)
   rename_i el h2;split at hy<;>try(cases hy;done)
   rename_i h3;split at hy<;>try(cases hy;done)
   rename_i bs Zz;simp only[Option.some.injEq]at hy;cases hz:(Nat.beq (Jg P el) 1&&xp P el&&Nat.blt bs.size 4611686018427387904)<;>rw[hz]at hy<;>simp only[cond_true,cond_false]at hy
   .cases hy
   simp only[Bool.and_eq_true]at hz;obtain⟨i8,hi8,hz8⟩:=zV hz.1.2;simp only[Option.some.injEq,Prod.mk.injEq]at hy;obtain⟨rfl,rfl,rfl,rfl⟩:=hy
   have VF:r' x=.string bs:=by
    rw[Zz]at hx;generalize r' x=z at hx;cases hx;rfl
   obtain⟨v',w1,q,c1,c2,c3,c4⟩:=uV (P:=P) (F:=F) h1 h2 h3 (Nat.eq_of_beq_eq_true hz.1.1) (hZ _ _ _ hi8 hz8 _ (by simp[Value.cells])) Bh (Nat.le_of_ble_eq_true hz.2) hr hg (fun r'=>hn _ (Nat.le_refl _) (by simp[Hp.push]) r') (v:=.slice (some ⟨H.n,0,bif Nat.beq bs.size 0 then some 0 else none⟩) bs.size bs.size) rfl (H1:=H.push (.cells (bs.data.map fun b=>.int .u8 b.toNat) el (1,0))) rfl;refine⟨.value v',w1,q,?_,.value c2,c3,c4⟩;unfold execOp;rw[bD];show((convert s d (r' x)>>=fun v=>(Pure.pure (Next.value v):Sem Next))).run (ag P F) w=_;rw[VF];exact cQ (ag P F) (fun v=>(Pure.pure (Next.value v):Sem Next)) _ w c1
  .cases hc:nU P s d<;>rw[hc]at e<;>simp only[cond_true,cond_false]at e
   .cases e
   .refine plain ?_ (by rw[bD];rfl) hE e;rw[bD];simp only[mK,hc,Bool.and_true];exact ho
 .rename_i h1 h2 h3;refine plain ?_ (by cases hh:o.op<;>first|rfl|exact absurd hh (h1 _ _ _ _ _)) hE e;unfold iB at ho;split at ho
  .rename_i bD;exact absurd bD (h1 _ _ _ _ _)
  .rename_i bD;exact absurd bD (h3 _ _ _)
  .rename_i bD;exact absurd bD (h2 _ _)
  .exact ho
end
theorem C9 {P:Program} {b:Option Addr} {xi:Nat} {cs:Array Value} {H:Hp} {R0:Nat} {H1:Hp} (h0:Ft H R0 0 H) (h:og P e size b xi sc cs H R0=some (v,H1,R,W)):Ft H R W H1:=by
 have iK:Ft H R0 (2^H.n) (H.push (.cells cs e (1,0))):=by
  have:=h0.trans (Ft.new H (.cells cs e (1,0)));rw[Nat.or_zero,Nat.zero_or]at this;exact this
 unfold og at h;split at h
 .simp only[Option.some.injEq,Prod.mk.injEq]at h;obtain⟨rfl,rfl,rfl,rfl⟩:=h;exact iK
 .rename_i a;cases hs:a.spot.isNone<;>rw[hs]at h<;>simp only[cond_true,cond_false]at h
  .cases h
  cases hz:Nat.beq sc 0<;>rw[hz]at h<;>simp only[cond_true,cond_false]at h
  .split at h<;>try(cases h;done)
   rename_i c e' fz hg;cases hb:(Nat.beq a.off 0&&Nat.beq e' e&&Nat.beq c.size (sc*size)&&Nat.ble fz.1 1&&Nat.beq fz.2 0&&Nat.ble P.globals.size a.block&&Nat.blt 0 size)<;>rw[hb]at h<;>simp only[cond_true,cond_false]at h
   .cases h
   simp only[Option.some.injEq,Prod.mk.injEq]at h;obtain⟨rfl,rfl,rfl,rfl⟩:=h;have:=(h0.trans (Ft.write (H:=H) (b:=a.block) (by rw[hg];rfl) none)).trans (Ft.new (H.put a.block none) (.cells cs e (1,0)));rw[Nat.or_zero,Nat.or_zero,Nat.zero_or,Nat.or_comm]at this;rw[Nat.or_comm]at this;rw[Nat.or_comm (2^H.n)];exact this
  .simp only[Option.some.injEq,Prod.mk.injEq]at h;obtain⟨rfl,rfl,rfl,rfl⟩:=h;exact iK
theorem Jl {P:Program} {H:Hp} {H1:Hp} (h:Fb P ts xs H=some (v,H1,R,W)):Ft H R W H1:=by
 unfold Fb at h;split at h<;>try(cases h;done)
 split at h<;>try(cases h;done)
 split at h<;>try(cases h;done)
 split at h<;>try(cases h;done)
 split at h<;>try(cases h;done)
 split at h<;>try(cases h;done)
 split at h<;>try(cases h;done)
 split at h<;>try(cases h;done)
 rename_i e1;split at h<;>try(cases h;done)
 rename_i e2;unfold Fa at h;have a1:=ba P _ e1;have a2:=ba P _ e2;obtain⟨rfl,rfl⟩:=RO.firstCells P _ _ _ _ _ _ _ _ e1;obtain⟨rfl,rfl⟩:=RO.firstCells P _ _ _ _ _ _ _ _ e2;revert h;generalize(Nat.blt _ _&&_&&_&&_&&_&&_&&_)=c;intro h;cases c<;>simp only[cond_true,cond_false]at h
 .cases h
 .exact C9 (by have:=a1.trans a2;rwa [Nat.or_zero]at this) h
theorem qg {P:Program} {r:Operand->Value} {o:Oper} {H:Hp} {H1:Hp} (e:kv P r o H=some (nx,H1,R,W)):Ft H R W H1:=by
 unfold kv at e;cases hE:jN r o.op<;>rw[hE]at e<;>simp only[cond_true,cond_false]at e
 .cases e
 split at e
 .obtain⟨M8,e1,_⟩:=tK e;exact ba P _ e1
 .split at e
  .rename_i ea;simp only[Option.some.injEq,Prod.mk.injEq]at e;obtain⟨rfl,rfl,rfl,rfl⟩:=e;exact Jl ea
  .exact ba P _ e
 .split at e
  .rename_i y hy;subst e;unfold zW at hy;split at hy<;>try(cases hy;done)
   split at hy<;>try(cases hy;done)
   split at hy<;>try(cases hy;done)
   split at hy<;>try(cases hy;done)
   simp only[Option.some.injEq]at hy;revert hy;generalize(Nat.beq (Jg P _) 1&&xp P _&&Nat.blt _ 4611686018427387904)=c;intro hy;cases c<;>simp only[cond_true,cond_false]at hy
   .cases hy
   simp only[Option.some.injEq,Prod.mk.injEq]at hy;obtain⟨rfl,rfl,rfl,rfl⟩:=hy;exact Ft.new _ _
  .revert e;generalize nU P _ _=c;intro e;cases c<;>simp only[cond_true,cond_false]at e
   .cases e
   .exact ba P _ e
 .exact ba P _ e
section
variable {P:Program} {S:Nat->Bool} {K:Kz}
theorem Rl.congr {p:Pi} {Fp:Nat->Prop} {w:World} (h:Rl P S K p H1 Fp w) (e:∀r,Fp r->H2 r=H1 r):Rl P S K p H2 Fp w:=
 ⟨fun r x o y=>h.blk r x o (by rw[<-e r x];exact y),fun r s r' x y a b=>h.inj r s r' x y (by rw[<-e r x];exact a) (by rw[<-e s y];exact b),h.lt,h.xm,h.ok,h.fg,h.lx⟩
theorem Rl.sub {p:Pi} {Fp:Nat->Prop} {w:World} (h:Rl P S K p H1 Fp w) (e:∀r o,H2 r=some o->H1 r=some o):Rl P S K p H2 Fp w:=
 ⟨fun r x o y=>h.blk r x o (e r o y),fun r s r' x y a b=>h.inj r s r' x y (by obtain⟨o,ho⟩:=Option.isSome_iff_exists.1 a;rw[e r o ho];rfl) (by obtain⟨o,ho⟩:=Option.isSome_iff_exists.1 b;rw[e s o ho];rfl),h.lt,h.xm,h.ok,h.fg,h.lx⟩
theorem Mv.wide {W:Nat->Prop} {p:Pi} {m1:Nat} {w:World} (h:Mv W p n w q n1 w1) (a:m<=n) (b:n1<=m1):Mv W p m w q m1 w1:=by
 have:=h.nn;exact⟨h.le,by omega,fun r r' x=>(h.new r r' x).imp id fun⟨c,d,e⟩=>⟨by omega,by omega,e⟩,fun r k x=>(h.uR r k x).imp id fun⟨c,d⟩=>⟨by omega,by omega⟩,h.size,h.keep⟩
theorem Mv.Fe {W1 W:Nat->Prop} {p:Pi} {w:World} (h:Mv W1 p n w q n1 w1) (k:Mv W2 q n w1 s n1 w2) (h1:∀r,W1 r->W r) (h2:∀r,W2 r->W r):Mv W p n w s n1 w2:=by
 refine⟨h.le.trans k.le,h.nn,fun r r' x=>?_,fun r j x=>?_,Nat.le_trans h.size k.size,fun r' oT hW=>?_⟩
 .rcases k.new r r' x with x|⟨a1,a2,a3⟩
  .rcases h.new r r' x with x|⟨b1,b2,b3⟩
   .exact .inl x
   .exact .inr ⟨b1,b2,b3.imp id fun⟨u,c1,c2⟩=>⟨u,h1 u c1,c2⟩⟩
  .refine .inr ⟨a1,a2,?_⟩;rcases a3 with a3|⟨u,c1,c2⟩
   .exact .inl (Nat.le_trans h.size a3)
   .rcases h.new u r' c2 with y|⟨_,_,y|⟨v,d1,d2⟩⟩
    .exact .inr ⟨u,h2 u c1,y⟩
    .exact .inl y
    .exact .inr ⟨v,h1 v d1,d2⟩
 .rcases k.uR r j x with x|x
  .exact h.uR r j x
  .exact .inr x
 .rw[k.keep r' (Nat.lt_of_lt_of_le oT h.size) fun r hr x=>?_,h.keep r' oT fun r hr=>hW r (h1 r hr)];rcases h.new r r' x with y|⟨_,_,y|⟨v,d1,d2⟩⟩
  .exact hW r (h2 r hr) y
  .omega
  .exact hW v (h1 v d1) d2
theorem Rl.join {p:Pi} {h0 h1 h2:Nat->Option Obj} {F W:Nat->Prop} {w:World} (h:Rl P S K p h0 F w) (m:Mv W p n w q n1 w1) (k:Rl P S K q h1 G w1)
 (hG:∀r,W r->G r) (hF:∀r,W r->F r) (hnw:∀r,n<=r->r<n1->W r) (hn:∀r,n<=r->r<n1->∀r',¬p r r') (hW:∀r,W r->(n<=r/\r<n1)\/(h0 r).isSome) (e1:∀r,W r->h2 r=h1 r) (e0:∀r,¬W r->h2 r=h0 r):
 Rl P S K q h2 F w1:=by
 have old:∀r r',¬W r->q r r'->p r r':=fun r r' hr hq=>by
  rcases m.new r r' hq with x|⟨a,b,_⟩
  .exact x
  .exact absurd (hnw r a b) hr
 have alive:∀s r',W s->p s r'->(h0 s).isSome:=fun s r' hs hp=>by
  rcases hW s hs with⟨a,b⟩|x
  .exact absurd hp (hn s a b r')
  .exact x
 have mixed:∀r s r',W r->¬W s->F s->(h0 s).isSome->q r r'->q s r'->r=s:=fun r s r' hr hs Jh ZA hqr hqs=>by
  have ps:=old s r' hs hqs;rcases m.new r r' hqr with x|⟨_,_,x|⟨u,hu,ZB⟩⟩
  .exact h.inj r s r' (hF r hr) Jh (alive r r' hr x) ZA x ps
  .have:=h.lt s r' ps;omega
  .have:=h.inj u s r' (hF u hu) Jh (alive u r' hu ZB) ZA ZB ps;exact absurd (this▸hu) hs
 refine⟨fun r Ii o ho=>?_,fun r s r' Ii Jh a b x y=>?_,k.lt,k.xm,k.ok,k.fg,k.lx⟩
 .by_cases hr:W r
  .exact k.blk r (hG r hr) o (by rw[<-e1 r hr];exact ho)
  .rw[e0 r hr]at ho;obtain⟨r',o',a1,a2,a3,a4,a5⟩:=h.blk r Ii o ho;refine⟨r',o',m.le _ _ a1,?_,a3.mono m.le,fun j hj=>a4 j ?_,a5.imp (fun⟨j,hj⟩=>⟨j,m.le.x _ _ hj⟩) id⟩
   .rw[m.keep r' (h.lt r r' a1) fun s hs hp=>hr ?_]
    .exact a2
    .have:=h.inj s r r' (hF s hs) Ii (alive s r' hs hp) (by rw[ho];rfl) hp a1;exact this▸hs
   .rcases m.uR r j hj with x|⟨a,b⟩
    .exact x
    .exact absurd a1 (hn r a b r')
 .by_cases hr:W r<;>by_cases hs:W s
  .exact k.inj r s r' (hG r hr) (hG s hs) (by rw[<-e1 r hr];exact a) (by rw[<-e1 s hs];exact b) x y
  .rw[e0 s hs]at b;exact mixed r s r' hr hs Jh b x y
  .rw[e0 r hr]at a;exact(mixed s r r' hs hr Ii a y x).symm
  .rw[e0 r hr]at a;rw[e0 s hs]at b;exact h.inj r s r' Ii Jh a b (old r r' hr x) (old s r' hs y)
end
def aY (b:Frame) (tm:Array Value) (ds:List Deferred) (todo:List Item):Frame:={b with tmps:=tm,todo:=todo,defers:=ds,mode:=.run}
section
variable {P:Program} {b:Frame} {tm:Array Value} {ds:List Deferred} {k:List Item} {cs:List Frame} {w:World}
theorem bc {QG:Frame} {jn:List Frame} {w':World} (hm:fr.mode=.run) (h:(stepG.exec P true true fr cs none w).bare=.go {frame:=QG,callers:=jn,status:=.running,dying:=none} w'):
 step P (lone fr cs w)=.next (lone QG jn w'):=by
 refine step_lone_go ?_;rw[<-h];obtain⟨fn,tmps,todo,ds,mode,kind,ro⟩:=fr;simp only at hm;subst hm;rfl
theorem qh:step P (lone (aY b tm ds (.code .skip::k)) cs w)=.next (lone (aY b tm ds k) cs w):=bc rfl rfl
theorem Ff {l:Nat}:step P (lone (aY b tm ds (.code (.label l)::k)) cs w)=.next (lone (aY b tm ds k) cs w):=bc rfl rfl
theorem zX:step P (lone (aY b tm ds (.inBlock id::k)) cs w)=.next (lone (aY b tm ds k) cs w):=bc rfl rfl
theorem zY:step P (lone (aY b tm ds (.inScope c::k)) cs w)=.next (lone (aY b tm ds k) cs w):=bc rfl rfl
theorem dq {x:Code}:step P (lone (aY b tm ds (.code (.seq x y)::k)) cs w)=.next (lone (aY b tm ds (.code x:: .code y::k)) cs w):=bc rfl rfl
theorem mX:step P (lone (aY b tm ds (.code (.block id c)::k)) cs w)=.next (lone (aY b tm ds (.code c:: .inBlock id::k)) cs w):=bc rfl rfl
theorem uW:step P (lone (aY b tm ds (.code (.loop c)::k)) cs w)=.next (lone (aY b tm ds (.code c:: .inLoop c::k)) cs w):=bc rfl rfl
theorem Da:step P (lone (aY b tm ds (.inLoop c::k)) cs w)=.next (lone (aY b tm ds (.code c:: .inLoop c::k)) cs w):=bc rfl rfl
theorem Fg:step P (lone (aY b tm ds (.code (.scope c)::k)) cs w)=.next (lone (aY b tm ds (.code c:: .inScope c::k)) cs w):=bc rfl rfl
theorem kX {c:Operand} {x:Code} {t:Bool} (h:(aY b tm ds (.code (.cond c x y)::k)).eval c=.bool t):
 step P (lone (aY b tm ds (.code (.cond c x y)::k)) cs w)=.next (lone (aY b tm ds (.code (if t then x else y)::k)) cs w):=by
 refine bc rfl ?_;unfold stepG.exec;simp only[aY]at h⊢;rw[h];rfl
theorem Jm (h:exitTo id k=some k'):step P (lone (aY b tm ds (.code (.exit id)::k)) cs w)=.next (lone (aY b tm ds k') cs w):=by
 refine bc rfl ?_;rw[Go.au.dv true rfl,h];rfl
theorem Jn (h:gotoIn id k=some k'):step P (lone (aY b tm ds (.code (.goto id)::k)) cs w)=.next (lone (aY b tm ds k') cs w):=by
 refine bc rfl ?_;rw[Go.au.dw true rfl,h];rfl
theorem gP:step P (lone (aY b tm ds (.code (.region id ops false)::k)) cs w)=.next (lone (aY b tm ds (.inRegion ops (List.range ops.size)::k)) cs w):=bc rfl rfl
theorem BC:∃t w1,w1.heap=w.heap/\step P (lone (aY b tm ds (.code (.region id ops true)::k)) cs w)=.next (lone (aY b tm ds (.inRegion ops (Region.schedule (P.follows .mixedOrders) ops t)::k)) cs w1):=by
 refine⟨(Question.order b.fn id).cut (w.tape w.drawn (.order b.fn id)),{w with drawn:=w.drawn+1},rfl,bc rfl ?_⟩;unfold stepG.exec;simp[aY,choose,Sem.run,pure,Question.forced]
theorem dr:step P (lone (aY b tm ds (.inRegion ops []::k)) cs w)=.next (lone (aY b tm ds k) cs w):=bc rfl rfl
theorem uX (b:Frame) (tm:Array Value) (ds:List Deferred) (k:List Item) (x:Operand):(aY b tm ds k).eval x=match x with
 |.tmp t=>tm.getD t undef
 |.const v=>v
 |.global g=>.pointer (some ⟨g,0,none⟩)
 |.func f=>.func (.func f) #[] #[]:=by cases x<;>rfl
def gX (tm:Array Value) (dst:Option Tmp) (v:Value):Array Value:=match dst with
 |some d=>tm.setIfInBounds d v
 |none=>tm
theorem je {i:Nat} (v:Value) {o:Oper} (ho:ops[i]?=some o):
 (aY b tm ds (.inRegion ops (i::rest)::k)).finish v=aY b (gX tm o.dst v) ds (.inRegion ops rest::k):=by
 unfold Frame.finish aY gX;simp only[ho,Option.bind_some];cases o.dst<;>rfl
def mY:Op->Bool
 |.defer _=>false
 |_=>true
theorem uY {i:Nat} {o:Oper} (ho:ops[i]?=some o) (hw:Region.wanted o (yielded ops tm)=true) (hd:mY o.op=true):
 stepG.exec P true true (aY b tm ds (.inRegion ops (i::rest)::k)) cs none w=stepG.apply P true (aY b tm ds (.inRegion ops (i::rest)::k)) cs none (execOp (aY b tm ds (.inRegion ops (i::rest)::k)).eval o) w:=by
 have e1:(Option.map (fun x=>Region.wanted x (yielded ops tm)) ops[i]?).getD false=true:=by rw[ho];exact hw
 unfold stepG.exec;simp only[aY,e1,if_true];unfold stepG.oper;simp only[Frame.oper?,ho];cases b.roundOf with
 |none=>rfl
 |some l=>cases h:o.op<;>first|rfl|(rw[h]at hd;cases hd)
theorem lG {i:Nat} {o:Oper} (ho:ops[i]?=some o) (hw:Region.wanted o (yielded ops tm)=false):
 step P (lone (aY b tm ds (.inRegion ops (i::rest)::k)) cs w)=.next (lone (aY b (gX tm o.dst undef) ds (.inRegion ops rest::k)) cs w):=by
 refine bc rfl ?_;have e1:(Option.map (fun x=>Region.wanted x (yielded ops tm)) ops[i]?).getD false=false:=by rw[ho];exact hw
 rw[<-je undef ho];unfold stepG.exec;simp only[aY,e1,Bool.false_eq_true,if_false];rfl
def oh (P:Program):Next->Option Frame
 |.enter f args=>some (Frame.enter P f args .normal)
 |.round l f tmps a c=>some (Frame.round l f tmps a c .normal)
 |_=>none
def Jo:List Item->Bool
 |.call .. ::_=>false
 |.extern .. ::_=>false
 |_=>true
theorem gY (hc:Jo fr.todo=true) {s:Sem Next} (hr:s.run P w=.ok nx w1):
 (∀v,nx=.value v->(stepG.apply P true fr cs none s w).bare=.go {frame:=fr.finish v,callers:=cs,status:=.running,dying:=none} w1)/\
 (nx=.skip->(stepG.apply P true fr cs none s w).bare=.go {frame:=fr.finish undef,callers:=cs,status:=.running,dying:=none} w1)/\
 (∀g,oh P nx=some g->(stepG.apply P true fr cs none s w).bare=.go {frame:=g,callers:=fr::cs,status:=.running,dying:=none} w1):=by
 have hk:∀(ds:List Deferred),(match fr.todo with|.call _ true _ _::_=>CallKind.wrapped|_=>.normal)=.normal:=by
  intro _;generalize fr.todo=t at hc;cases t with
  |nil=>rfl
  |cons i t=>cases i<;>first|rfl|cases hc
 have hk:=hk [];refine⟨fun v e=>?_,fun e=>?_,fun g e=>?_⟩
 .subst e;unfold stepG.apply;simp only[Sem.runT_eq,hr,if_true,GStep.bare_after];rfl
 .subst e;unfold stepG.apply;simp only[Sem.runT_eq,hr,if_true,GStep.bare_after];rfl
 .obtain⟨fn,tmps,todo,ds,mode,kind,ro⟩:=fr;simp only at hk hc;cases nx<;>simp only[oh,Option.some.injEq,reduceCtorEq]at e
  .subst e;unfold stepG.apply;simp only[Sem.runT_eq,hr,if_true,GStep.bare_after];cases todo with
   |nil=>rfl
   |cons i t=>cases i<;>first|rfl|cases hc
  .subst e;unfold stepG.apply;simp only[Sem.runT_eq,hr,if_true,GStep.bare_after];cases todo with
   |nil=>rfl
   |cons i t=>cases i<;>first|rfl|cases hc
def QH (P:Program) (nx:Next) (fr:Frame) (cs:List Frame) (w:World) (Q:Value->World->Prop):Prop:=
 ∃g v w1,oh P nx=some g/\Steps P (lone g (fr::cs) w) (lone (fr.finish v) cs w1)/\Q v w1
end
end Go.au
