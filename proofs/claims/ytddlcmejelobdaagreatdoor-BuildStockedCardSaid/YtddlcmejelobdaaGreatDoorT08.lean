/- A part. Conditions: none. -/
import Derived.Test.YtddlcmejelobdaaGreatDoorT02
set_option linter.all false
namespace Go.aq
variable {G W2:Nat->Prop} {H1 H2:Nat->Option Obj} {R R1 W W1 id m n n1 r r' sc size sl:Nat} {a a':Addr} {c y:Code} {e t:TypeId} {fr:Frame} {fz:Nat×Nat} {i:TypeInfo} {k':List Item} {nx:Next} {o o' o0 o1:Obj} {ops:Array Oper} {q s:Pi} {rest:List Nat} {ts:Array TypeId} {v x x' z:Value} {w1 w2:World} {xs:Array Value} {α β:Type}
inductive Tr where
 |leaf
 |node (v:Option Obj) (l r:Tr)
def Tr.get:Tr->Nat->Option Obj
 |.leaf,_=>none
 |.node v l r,n=>bif Nat.beq n 0 then v else bif Nat.beq (n%2) 1 then l.get (n/2)else r.get (n/2-1)
def Tr.set:Nat->Tr->Nat->Option Obj->Tr
 |0,t,_,_=>t
 |f+1,.leaf,n,o=>bif Nat.beq n 0 then .node o .leaf .leaf else bif Nat.beq (n%2) 1 then .node none (Tr.set f .leaf (n/2) o) .leaf else .node none .leaf (Tr.set f .leaf (n/2-1) o)
 |f+1,.node v l r,n,o=>bif Nat.beq n 0 then .node o l r else bif Nat.beq (n%2) 1 then .node v (Tr.set f l (n/2) o) r else .node v l (Tr.set f r (n/2-1) o)
theorem YX (h:n=0):Nat.beq n 0=true:=by subst h;rfl
theorem gW (h:n≠m):Nat.beq n m=false:=by
 cases hx:Nat.beq n m with
 |false=>rfl
 |true=>exact absurd (Nat.eq_of_beq_eq_true hx) h
theorem Fb (h:n=m):Nat.beq n m=true:=by subst h;exact Nat.beq_refl n
theorem Tr.lL:∀(f:Nat) (t:Tr) (n:Nat) (o:Option Obj) (m:Nat),n<f->(t.set f n o).get m=if m=n then o else t.get m
 |0,_,_,_,_,h=>absurd h (Nat.not_lt_zero _)
 |f+1,t,n,o,m,h=>by
  have ih:=Tr.lL f;by_cases n0:n=0
  .subst n0;cases t<;>simp only[Tr.set,YX,cond_true]
   .by_cases hm:m=0
    .subst hm;simp[Tr.get]
    .simp only[Tr.get,gW hm,cond_false,hm,if_false];cases Nat.beq (m%2) 1<;>rfl
   .by_cases hm:m=0
    .subst hm;simp[Tr.get]
    .simp only[Tr.get,gW hm,cond_false,hm,if_false]
  .by_cases n1:n%2=1
   .have e1:=ih (.leaf) (n/2) o (m/2) (by omega);cases t with
    |leaf=>
     simp only[Tr.set,gW n0,cond_false,Fb n1,cond_true];by_cases hm:m=0
     .subst hm;have:¬0=n:=by omega
      simp[Tr.get,this]
     .by_cases m1:m%2=1
      .simp only[Tr.get,gW hm,cond_false,Fb m1,cond_true,ih _ (n/2) o (m/2) (by omega)];by_cases e:m=n
       .simp[e]
       .have:¬m/2=n/2:=by omega
        simp[e,this]
      .have:¬m=n:=by intro e;subst e;exact m1 n1
       simp only[Tr.get,gW hm,cond_false,gW m1,this,if_false]
    |node v l r=>
     simp only[Tr.set,gW n0,cond_false,Fb n1,cond_true];by_cases hm:m=0
     .subst hm;have:¬0=n:=by omega
      simp[Tr.get,this]
     .by_cases m1:m%2=1
      .simp only[Tr.get,gW hm,cond_false,Fb m1,cond_true,ih _ (n/2) o (m/2) (by omega)];by_cases e:m=n
       .simp[e]
       .have:¬m/2=n/2:=by omega
        simp[e,this]
      .have:¬m=n:=by intro e;subst e;exact m1 n1
       simp only[Tr.get,gW hm,cond_false,gW m1,this,if_false]
   .cases t with
    |leaf=>
     simp only[Tr.set,gW n0,cond_false,gW n1];by_cases hm:m=0
     .subst hm;have:¬0=n:=by omega
      simp[Tr.get,this]
     .by_cases m1:m%2=1
      .have:¬m=n:=by intro e;subst e;exact n1 m1
       simp only[Tr.get,gW hm,cond_false,Fb m1,cond_true,this,if_false]
      .simp only[Tr.get,gW hm,cond_false,gW m1,ih _ (n/2-1) o (m/2-1) (by omega)];by_cases e:m=n
       .simp[e]
       .have:¬m/2-1=n/2-1:=by omega
        simp[e,this]
    |node v l r=>
     simp only[Tr.set,gW n0,cond_false,gW n1];by_cases hm:m=0
     .subst hm;have:¬0=n:=by omega
      simp[Tr.get,this]
     .by_cases m1:m%2=1
      .have:¬m=n:=by intro e;subst e;exact n1 m1
       simp only[Tr.get,gW hm,cond_false,Fb m1,cond_true,this,if_false]
      .simp only[Tr.get,gW hm,cond_false,gW m1,ih _ (n/2-1) o (m/2-1) (by omega)];by_cases e:m=n
       .simp[e]
       .have:¬m/2-1=n/2-1:=by omega
        simp[e,this]
structure Hp where
 n:Nat
 t:Tr
def Hp.get (H:Hp) (r:Nat):Option Obj:=H.t.get r
def Hp.put (H:Hp) (r:Nat) (o:Option Obj):Hp:=⟨H.n,H.t.set (r+1) r o⟩
def Hp.push (H:Hp) (o:Obj):Hp:=⟨H.n+1,H.t.set (H.n+1) H.n (some o)⟩
theorem Hp.get_put (H:Hp) (r:Nat) (o:Option Obj) (m:Nat):(H.put r o).get m=if m=r then o else H.get m:=Tr.lL _ _ _ _ _ (Nat.lt_succ_self r)
theorem Hp.jB (H:Hp) (o:Obj) (m:Nat):(H.push o).get m=if m=H.n then some o else H.get m:=Tr.lL _ _ _ _ _ (Nat.lt_succ_self _)
abbrev Rs (α:Type):=Option (α×Hp×Nat×Nat)
def yG (b:Nat):Rs α->Rs α
 |some (a,H,R,W)=>some (a,H,R|||2^b,W)
 |none=>none
def yH (b:Nat):Rs α->Rs α
 |some (a,H,R,W)=>some (a,H,R,W|||2^b)
 |none=>none
theorem fV {b:Nat} {x:Rs α} {a:α} {H:Hp} (h:yG b x=some (a,H,R,W)):∃R0,x=some (a,H,R0,W)/\R=R0|||2^b:=by
 cases x with
 |none=>cases h
 |some y=>obtain⟨a1,H1,R1,W1⟩:=y;simp only[yG,Option.some.injEq,Prod.mk.injEq]at h;obtain⟨rfl,rfl,rfl,rfl⟩:=h;exact⟨_,rfl,rfl⟩
theorem ik {b:Nat} {x:Rs α} {a:α} {H:Hp} (h:yH b x=some (a,H,R,W)):∃W0,x=some (a,H,R,W0)/\W=W0|||2^b:=by
 cases x with
 |none=>cases h
 |some y=>obtain⟨a1,H1,R1,W1⟩:=y;simp only[yH,Option.some.injEq,Prod.mk.injEq]at h;obtain⟨rfl,rfl,rfl,rfl⟩:=h;exact⟨_,rfl,rfl⟩
def aA (P:Program):Sem α->Hp->Rs α
 |.pure a,H=>some (a,H,0,0)
 |.load _ a k,H=>match H.get a.block with
  |some (.cells c _ _)=>match a.spot with
   |none=>match c[a.off]? with
    |some v=>yG a.block (aA P (k v) H)
    |none=>none
   |some _=>none
  |_=>none
 |.store _ a v k,H=>bif dv v then match H.get a.block with
    |some (.cells c e fz)=>match a.spot with
     |none=>bif Nat.blt a.off c.size&&!(Nat.ble fz.1 a.off&&Nat.blt a.off fz.2)then yH a.block (aA P k (H.put a.block (some (.cells (c.setIfInBounds a.off v) e fz))))else none
     |some _=>none
    |_=>none
  else none
 |.new o k,H=>yH H.n (aA P (k H.n) (H.push o))
 |.getObj r k,H=>match H.get r with
  |some (.cells ..)=>none
  |some o=>yG r (aA P (k o) H)
  |none=>none
 |.setObj r o k,H=>match H.get r with
  |some (.cells ..)=>none
  |some _=>yH r (aA P k (H.put r (some o)))
  |none=>none
 |.program k,H=>aA P (k P) H
 |.mark m k,H=>match m with
  |.noRoom=>aA P k H
  |_=>none
 |.shape ..,_|.freeze ..,_|.frozen ..,_|.choose ..,_|.sys ..,_|.halt _,_=>none
theorem rR {P:Program}:∀(s:Sem α),dw P s->∀H,aA P s H=none:=by
 intro s;induction s with
 |pure a=>intro h;exact h.elim
 |load m a k ih=>
  intro h H;simp only[aA];split<;>try rfl
  split<;>try rfl
  split<;>try rfl
  rw[ih _ (h _)];rfl
 |store m a v k ih=>
  intro h H;simp only[aA];cases dv v<;>simp only[cond_true,cond_false];split<;>try rfl
  split<;>try rfl
  rw[ih h];cases(Nat.blt _ _&&_)<;>rfl
 |new o k ih=>intro h H;simp only[aA];rw[ih _ (h _)];rfl
 |shape r k ih=>intro h H;rfl
 |freeze a n k ih=>intro h H;rfl
 |frozen a k ih=>intro h H;rfl
 |getObj r k ih=>
  intro h H;simp only[aA];split<;>try rfl
  rw[ih _ (h _)];rfl
 |setObj r o k ih=>
  intro h H;simp only[aA];split<;>try rfl
  rw[ih h];rfl
 |choose q k ih=>intro h H;rfl
 |sys c k ih=>intro h H;rfl
 |program k ih=>intro h H;exact ih P h H
 |mark m k ih=>
  intro h H;simp only[aA];split
  .exact ih h H
  .rfl
 |halt x=>intro h H;rfl
def LE (P:Program) (e:TypeId):Nat:=((P.info? e).map (·.size)).getD 1
def Room (P:Program) (o o':Obj) (k:Nat):Prop:=∃c e fz c' eS,o=.cells c e fz/\o'=.cells c' e eS/\c'.size=c.size+k*LE P e/\(c.size=0\/k+1<2^63)/\fz≠(0,0)
structure Rl (P:Program) (S:Nat->Bool) (K:Kz) (p:Pi) (H:Nat->Option Obj) (F:Nat->Prop) (w:World):Prop where
 blk:∀r,F r->∀o,H r=some o->∃r' o',p r r'/\w.heap[r']?=some o'/\OR S K p o o'/\(∀k,p.x r k->Room P o o' k)/\((∃k,p.x r k)\/iu o o')
 inj:∀r s r',F r->F s->(H r).isSome->(H s).isSome->p r r'->p s r'->r=s
 lt:∀r r',p r r'->r'<w.heap.size
 xm:∀r k,p.x r k->∃r',p r r'
 ok:nr P p
 fC:P.globals.size<=w.heap.size
 lx:p.l=true
structure Mv (W:Nat->Prop) (p:Pi) (n:Nat) (w:World) (q:Pi) (n1:Nat) (w1:World):Prop where
 le:Le p q
 nn:n<=n1
 new:∀r r',q r r'->p r r'\/(n<=r/\r<n1/\(w.heap.size<=r'\/∃s,W s/\p s r'))
 wd:∀r k,q.x r k->p.x r k\/(n<=r/\r<n1)
 size:w.heap.size<=w1.heap.size
 keep:∀r',r'<w.heap.size->(∀r,W r->¬p r r')->w1.heap[r']?=w.heap[r']?
theorem Mv.refl (W:Nat->Prop) (p:Pi) (n:Nat) (w:World):Mv W p n w p n w:=⟨Le.refl p,Nat.le_refl n,fun _ _ h=>.inl h,fun _ _ h=>.inl h,Nat.le_refl _,fun _ _ _=>rfl⟩
theorem Mv.trans {W1 W:Nat->Prop} {p:Pi} {n2:Nat} {w:World} (h:Mv W1 p n w q n1 w1) (k:Mv W2 q n1 w1 s n2 w2) (h1:∀r,W1 r->W r) (h2:∀r,W2 r->W r):Mv W p n w s n2 w2:=by
 have hn:=h.nn;have kn:=k.nn;refine⟨h.le.trans k.le,Nat.le_trans h.nn k.nn,fun r r' x=>?_,fun r j x=>?_,Nat.le_trans h.size k.size,fun r' nt hW=>?_⟩
 .rcases k.new r r' x with x|⟨a1,a2,a3⟩
  .rcases h.new r r' x with x|⟨b1,b2,b3⟩
   .exact .inl x
   .exact .inr ⟨b1,by omega,b3.imp id fun⟨u,c1,c2⟩=>⟨u,h1 u c1,c2⟩⟩
  .refine .inr ⟨by omega,a2,?_⟩;rcases a3 with a3|⟨u,c1,c2⟩
   .exact .inl (Nat.le_trans h.size a3)
   .rcases h.new u r' c2 with y|⟨_,_,y|⟨v,d1,d2⟩⟩
    .exact .inr ⟨u,h2 u c1,y⟩
    .exact .inl y
    .exact .inr ⟨v,h1 v d1,d2⟩
 .rcases k.wd r j x with x|⟨a1,a2⟩
  .rcases h.wd r j x with x|⟨b1,b2⟩
   .exact .inl x
   .exact .inr ⟨b1,by omega⟩
  .exact .inr ⟨by omega,a2⟩
 .rw[k.keep r' (Nat.lt_of_lt_of_le nt h.size) fun r hr x=>?_,h.keep r' nt fun r hr=>hW r (h1 r hr)];rcases h.new r r' x with y|⟨_,_,y|⟨v,d1,d2⟩⟩
  .exact hW r (h2 r hr) y
  .omega
  .exact hW v (h1 v d1) d2
theorem Mv.mono {W1 W:Nat->Prop} {p:Pi} {w:World} (h:Mv W1 p n w q n1 w1) (h1:∀r,W1 r->W r):Mv W p n w q n1 w1:=
 (Mv.refl (fun _=>False) p n w).trans h (fun _ x=>x.elim) h1
structure Ft (H:Hp) (R W:Nat) (H1:Hp):Prop where
 nn:H.n<=H1.n
 same:∀r,W.testBit r=false->H1.get r=H.get r
 wr:∀r,W.testBit r=true->(H.n<=r/\r<H1.n)\/(H.get r).isSome
 rd:∀r,R.testBit r=true->(H.n<=r/\r<H1.n)\/(H.get r).isSome
 nw:∀r,H.n<=r->r<H1.n->W.testBit r=true
theorem Ft.alive {H H1:Hp} (h:Ft H R W H1) (r:Nat) (x:(H1.get r).isSome):(H.n<=r/\r<H1.n)\/(H.get r).isSome:=by
 cases hw:W.testBit r with
 |false=>rw[h.same r hw]at x;exact .inr x
 |true=>exact h.wr r hw
theorem Ft.refl (H:Hp):Ft H 0 0 H:=⟨Nat.le_refl _,fun _ _=>rfl,fun r h=>by simp at h,fun r h=>by simp at h,fun r a b=>by omega⟩
theorem Ft.trans {H H1 H2:Hp} {R2 W2:Nat} (h:Ft H R1 W1 H1) (k:Ft H1 R2 W2 H2):Ft H (R1|||R2) (W1|||W2) H2:=by
 have hn:=h.nn;have kn:=k.nn;refine⟨Nat.le_trans h.nn k.nn,fun r x=>?_,fun r x=>?_,fun r x=>?_,fun r a b=>?_⟩
 .rw[Nat.testBit_or,Bool.or_eq_false_iff]at x;rw[k.same r x.2,h.same r x.1]
 .rw[Nat.testBit_or,Bool.or_eq_true]at x;rcases x with x|x
  .exact(h.wr r x).imp (fun⟨a,b⟩=>⟨a,by omega⟩) id
  .rcases k.wr r x with⟨a,b⟩|y
   .exact .inl ⟨by omega,b⟩
   .exact(h.alive r y).imp (fun⟨a,b⟩=>⟨a,by omega⟩) id
 .rw[Nat.testBit_or,Bool.or_eq_true]at x;rcases x with x|x
  .exact(h.rd r x).imp (fun⟨a,b⟩=>⟨a,by omega⟩) id
  .rcases k.rd r x with⟨a,b⟩|y
   .exact .inl ⟨by omega,b⟩
   .exact(h.alive r y).imp (fun⟨a,b⟩=>⟨a,by omega⟩) id
 .rw[Nat.testBit_or,Bool.or_eq_true];rcases Nat.lt_or_ge r H1.n with c|c
  .exact .inl (h.nw r a c)
  .exact .inr (k.nw r c b)
theorem tb (b r:Nat):(2^b).testBit r=true↔r=b:=by rw[Nat.testBit_two_pow];simp[eq_comm]
theorem tbf (b r:Nat):(2^b).testBit r=false↔r≠b:=by rw[<-Bool.not_eq_true,tb]
theorem Ft.read {H:Hp} {b:Nat} (h:(H.get b).isSome):Ft H (2^b) 0 H:=
 ⟨Nat.le_refl _,fun _ _=>rfl,fun r x=>by simp at x,fun r x=>.inr (by rw[tb]at x;subst x;exact h),fun r a b=>by omega⟩
theorem Ft.write {H:Hp} {b:Nat} (h:(H.get b).isSome) (o:Option Obj):Ft H 0 (2^b) (H.put b o):=
 ⟨Nat.le_refl _,fun r x=>by rw[tbf]at x;rw[Hp.get_put,if_neg x],fun r x=>.inr (by rw[tb]at x;subst x;exact h),fun r x=>by simp at x,fun r a b=>by simp[Hp.put]at b;omega⟩
theorem Ft.new (H:Hp) (o:Obj):Ft H 0 (2^H.n) (H.push o):=
 ⟨by simp[Hp.push],fun r x=>by rw[tbf]at x;rw[Hp.jB,if_neg x],fun r x=>.inl (by rw[tb]at x;subst x;simp[Hp.push]),fun r x=>by simp at x,fun r a b=>by rw[tb];simp[Hp.push]at b;omega⟩
theorem bk (P:Program):∀(s:Sem α) {H:Hp} {a:α} {H1:Hp} {R W:Nat},aA P s H=some (a,H1,R,W)->Ft H R W H1:=by
 intro s;induction s with
 |pure a=>intro H b H1 R W h;simp only[aA,Option.some.injEq,Prod.mk.injEq]at h;obtain⟨rfl,rfl,rfl,rfl⟩:=h;exact Ft.refl _
 |load m a k ih=>
  intro H b H1 R W h;simp only[aA]at h;split at h<;>try(cases h;done)
  rename_i c e fz hg;split at h<;>try(cases h;done)
  split at h<;>try(cases h;done)
  obtain⟨R0,h2,rfl⟩:=fV h;have:=(Ft.read (H:=H) (b:=a.block) (by rw[hg];rfl)).trans (ih _ h2);rw[Nat.zero_or,Nat.or_comm]at this;exact this
 |store m a v k ih=>
  intro H b H1 R W h;simp only[aA]at h;cases hc:dv v<;>rw[hc]at h<;>simp only[cond_true,cond_false]at h
  .cases h
  split at h<;>try(cases h;done)
  rename_i c e fz hg;split at h<;>try(cases h;done)
  cases hb:(Nat.blt a.off c.size&&!(Nat.ble fz.1 a.off&&Nat.blt a.off fz.2))<;>rw[hb]at h<;>simp only[cond_true,cond_false]at h
  .cases h
  obtain⟨W0,h2,rfl⟩:=ik h;have:=(Ft.write (H:=H) (b:=a.block) (by rw[hg];rfl) _).trans (ih h2);rw[Nat.zero_or,Nat.or_comm]at this;exact this
 |new o k ih=>
  intro H b H1 R W h;simp only[aA]at h;obtain⟨W0,h2,rfl⟩:=ik h;have:=(Ft.new H o).trans (ih _ h2);rw[Nat.zero_or,Nat.or_comm]at this;exact this
 |getObj r k ih=>
  intro H b H1 R W h;simp only[aA]at h;split at h<;>try(cases h;done)
  rename_i o hg;obtain⟨R0,h2,rfl⟩:=fV h;have:=(Ft.read (H:=H) (b:=r) (by rw[hg];rfl)).trans (ih _ h2);rw[Nat.zero_or,Nat.or_comm]at this;exact this
 |setObj r o k ih=>
  intro H b H1 R W h;simp only[aA]at h;split at h<;>try(cases h;done)
  rename_i o hg;obtain⟨W0,h2,rfl⟩:=ik h;have:=(Ft.write (H:=H) (b:=r) (by rw[hg];rfl) _).trans (ih h2);rw[Nat.zero_or,Nat.or_comm]at this;exact this
 |program k ih=>intro H b H1 R W h;exact ih P h
 |mark m k ih=>
  intro H b H1 R W h;simp only[aA]at h;split at h
  .exact ih h
  .cases h
 |shape r k ih=>intro H b H1 R W h;cases h
 |freeze a n k ih=>intro H b H1 R W h;cases h
 |frozen a k ih=>intro H b H1 R W h;cases h
 |choose q k ih=>intro H b H1 R W h;cases h
 |sys c k ih=>intro H b H1 R W h;cases h
 |halt x=>intro H b H1 R W h;cases h
section
variable {P:Program} {F:Array Func} {S:Nat->Bool} {K:Kz} {p:Pi} {H:Nat->Option Obj} {Fp:Nat->Prop} {w:World}
theorem Rl.mono (h:Rl P S K p H Fp w) (hG:∀r,G r->Fp r):Rl P S K p H G w:=
 ⟨fun r x o e=>h.blk r (hG r x) o e,fun r s r' x y=>h.inj r s r' (hG r x) (hG s y),h.lt,h.xm,h.ok,h.fC,h.lx⟩
theorem Rl.at (h:Rl P S K p H Fp w) (hF:Fp r) (hp:p r r') (ho:H r=some o):∃o',w.heap[r']?=some o'/\OR S K p o o'/\(∀k,p.x r k->Room P o o' k)/\((∃k,p.x r k)\/iu o o'):=by
 obtain⟨r1,o',h1,h2,h3,h4⟩:=h.blk r hF o ho;rw[h.ok.one r r' r1 hp h1];exact⟨o',h2,h3,h4⟩
theorem OR.oY {c:Array Value} (h:OR S K p (.cells c e fz) o'):∃c' eS,o'=.cells c' e eS/\c.size<=c'.size/\(∀(i:Nat) (v v':Value),c[i]?=some v->c'[i]?=some v'->VR S p v v')/\∀i,i<c.size->eS.1<=i/\i<eS.2->fz.1<=i/\i<fz.2:=by
 cases h with
 |cells e fz hw g=>exact⟨_,_,rfl,Nat.le_of_eq g.1,g.2,fun _ _ h=>h⟩
 |cg _ e fz eS hl hz hs g=>exact⟨_,_,rfl,hl,g,fun i hi x=>hz.elim (fun h=>⟨by omega,by omega⟩) fun h=>absurd x (h.1 i (by omega))⟩
theorem Rl.cell (h:Rl P S K p H Fp w) (hF:Fp a.block) (ha:hU p a a') {c:Array Value} (hg:H a.block=some (.cells c e fz)) (hs:a.spot=none) (hv:c[a.off]?=some v):
 ∃v',w.cell? a'=some v'/\VR S p v v':=by
 obtain⟨o',h2,h3,_⟩:=h.at hF ha.1 hg;obtain⟨c',eS,rfl,hl,g,_⟩:=h3.oY;have ar:=(Array.getElem?_eq_some_iff.1 hv).1;have e':c'[a.off]?=some (c'[a.off]'(by omega)):=Array.getElem?_eq_getElem (by omega);refine⟨_,?_,g _ _ _ hv e'⟩;unfold World.cell?;rw[h2];simp only;rw[<-ha.2.2,hs,<-ha.2.1];exact e'
theorem jU (hp:Array Obj) (i j:Nat) (f:Obj->Obj):(hp.modify i f)[j]?=if i=j then(hp[j]?).map f else hp[j]?:=by
 rw[Array.getElem?_modify]
theorem Rl.upd (h:Rl P S K p H Fp w) (hF:Fp r) (hp:p r r') (hg:H r=some o0) (qo:OR S K p o o1) (yI:∀k,p.x r k->Room P o o1 k) (mw:(∃k,p.x r k)\/iu o o1)
 (hH:∀m,H2 m=if m=r then some o else H m) (hs:w2.heap.size=w.heap.size) (vZ:w2.heap[r']?=some o1) (bC:∀j,j≠r'->w2.heap[j]?=w.heap[j]?) (n:Nat):
 Rl P S K p H2 Fp w2/\Mv (fun m=>m=r) p n w p n w2:=by
 have al:∀m,(H2 m).isSome->(H m).isSome:=fun m x=>by
  rw[hH]at x;split at x
  .rename_i e;rw[e,hg];rfl
  .exact x
 refine⟨⟨fun m hm x hx=>?_,fun a b r' x y a1 b1=>h.inj a b r' x y (al a a1) (al b b1),fun a b x=>by rw[hs];exact h.lt a b x,h.xm,h.ok,by rw[hs];exact h.fC,h.lx⟩,⟨Le.refl p,Nat.le_refl n,fun _ _ x=>.inl x,fun _ _ x=>.inl x,Nat.le_of_eq hs.symm,fun j hj hk=>bC j fun e=>hk r rfl (e▸hp)⟩⟩;rw[hH]at hx;split at hx
 .rename_i e;subst e;simp only[Option.some.injEq]at hx;subst hx;exact⟨r',o1,hp,vZ,qo,yI,mw⟩
 .rename_i hn;obtain⟨m',o2,b1,b2,b3,b4⟩:=h.blk m hm x hx;refine⟨m',o2,b1,?_,b3,b4⟩;rw[bC m' ?_]
  .exact b2
  .intro e;exact hn (h.inj m r m' hm hF (by rw[hx];rfl) (by rw[hg];rfl) b1 (e▸hp))
theorem Rl.setCell (h:Rl P S K p H Fp w) (hF:Fp a.block) (ha:hU p a a') {c:Array Value} (hg:H a.block=some (.cells c e fz)) (hs:a.spot=none) (ar:a.off<c.size) (SB:¬(fz.1<=a.off/\a.off<fz.2))
 {v':Value} (hv:VR S p v v') (hH:∀m,H2 m=if m=a.block then some (.cells (c.setIfInBounds a.off v) e fz)else H m) (n:Nat):
 (∃x,w.cell? a'=some x)/\w.frozen? a'=false/\Rl P S K p H2 Fp (w.setCell a' v')/\Mv (fun r=>r=a.block) p n w p n (w.setCell a' v'):=by
 obtain⟨o',h2,h3,h4⟩:=h.at hF ha.1 hg;have h30:=h3;obtain⟨c',eS,rfl,hl,g,hz⟩:=h3.oY;have tf:a'.spot=none:=ha.2.2.symm.trans hs;have e0:a'.off=a.off:=ha.2.1.symm;refine⟨?_,?_,h.upd hF ha.1 hg (o:=.cells (c.setIfInBounds a.off v) e fz) (o1:=.cells (c'.setIfInBounds a.off v') e eS) ?_ (fun k hk=>?_) (h4.2.imp id fun PG _ _ _ _ _ _ x y=>by cases x;cases y;simpa using PG _ _ _ _ _ _ rfl rfl) hH (by simp[World.setCell]) ?_ (fun j hj=>?_) n⟩
 .refine⟨c'[a.off]'(by omega),?_⟩;unfold World.cell?;rw[h2];simp[tf,e0]
 .unfold World.frozen?;rw[h2];simp only[e0];rw[<-Bool.not_eq_true];simp only[Bool.and_eq_true,decide_eq_true_eq];exact fun x=>SB (hz _ ar x)
 .cases h30 with
  |cells e fz hw gg=>exact .cells e fz hw (gg.set _ hv)
  |cg h0 e fz eS hl hz hs gg=>
   refine .cg h0 e fz eS (by simpa using hl) (by simpa using hz) (fun i x' hi uk=>?_) fun i x x' hx uk=>?_
   .have nA:c.size<=i:=by simpa using hi
    rw[Array.getElem?_setIfInBounds,if_neg (by omega)]at uk;exact hs i x' nA uk
   rw[Array.getElem?_setIfInBounds]at hx uk;by_cases qH:a.off=i
   .subst qH;simp only[if_true]at hx uk;rw[if_pos ar]at hx;rw[if_pos (by omega)]at uk;cases hx;cases uk;exact hv
   .rw[if_neg qH]at hx uk;exact gg i x x' hx uk
 .obtain⟨_,_,_,_,_,e1,e2,e3⟩:=h4.1 k hk;cases e1;cases e2;exact⟨_,_,_,_,_,rfl,rfl,by simpa using e3.1,by simpa using e3.2.1,e3.2.2⟩
 .show(w.heap.modify _ _)[a'.block]?=_;rw[jU,if_pos rfl,h2];simp[tf,e0]
 .show(w.heap.modify _ _)[j]?=_;rw[jU,if_neg (Ne.symm hj)]
theorem OR.yJ (h:OR S K p o o') (hn:∀c e fz,o≠ .cells c e fz):∀c e fz,o'≠ .cells c e fz:=by
 cases h<;>first|(intro c e fz x;cases x;done)|exact absurd rfl (hn _ _ _)
theorem Rl.setObj (h:Rl P S K p H Fp w) (hF:Fp r) (hp:p r r') (hg:H r=some o0) (hn:∀c e fz,o0≠ .cells c e fz) (qo:OR S K p o o1) (mw:iu o o1)
 (hH:∀m,H2 m=if m=r then some o else H m) (n:Nat):
 Rl P S K p H2 Fp {w with heap:=w.heap.setIfInBounds r' o1}/\Mv (fun m=>m=r) p n w p n {w with heap:=w.heap.setIfInBounds r' o1}:=by
 obtain⟨o',h2,h3,h4⟩:=h.at hF hp hg;have ar:=h.lt r r' hp;refine h.upd hF hp hg qo (fun k hk=>?_) (.inr mw) hH (by simp) (by simp[ar]) (fun j hj=>by show(w.heap.setIfInBounds r' o1)[j]?=_;rw[Array.getElem?_setIfInBounds,if_neg (Ne.symm hj)]) n;obtain⟨c,e,fz,_,_,e1,_⟩:=h4.1 k hk;exact absurd e1 (hn c e fz)
def one (p:Pi) (n n':Nat):Pi:=⟨fun r r'=>p r r'\/(r=n/\r'=n'),p.x,p.l⟩
theorem one_le (p:Pi) (n n':Nat):Le p (one p n n'):=⟨fun _ _ h=>.inl h,fun _ _ h=>h,fun _ _ _ _ h=>h,rfl⟩
theorem Rl.push (h:Rl P S K p H Fp w) (hn:∀r',¬p n r') (hg:P.globals.size<=n) (qo:OR S K p o o1) (mw:iu o o1) (hH:∀m,H2 m=if m=n then some o else H m):
 Rl P S K (one p n w.heap.size) H2 (fun r=>Fp r\/r=n) {w with heap:=w.heap.push o1}/\Mv (fun _=>False) p n w (one p n w.heap.size) (n+1) {w with heap:=w.heap.push o1}:=by
 have hle:=one_le p n w.heap.size;have hx:∀k,¬p.x n k:=fun k hk=>let⟨r',h1⟩:=h.xm n k hk;hn r' h1
 have Ic:∀j,j<w.heap.size->(w.heap.push o1)[j]?=w.heap[j]?:=fun j hj=>by rw[Array.getElem?_push,if_neg (by omega)]
 refine⟨⟨fun r hr x N7=>?_,fun r s r' hr hs a b x y=>?_,fun r r' x=>?_,fun r k x=>let⟨r',y⟩:=h.xm r k x;⟨r',.inl y⟩,⟨fun r r' s s' x y hr=>?_,fun r r' x=>?_,fun r r' s' x y=>?_,fun hl=>absurd (h.lx.symm.trans hl) (by decide)⟩,by have:=h.fC;show _<=(w.heap.push o1).size;simp;omega,h.lx⟩,⟨hle,by omega,fun r r' x=>?_,fun r k x=>.inl x,by show _<=(w.heap.push o1).size;simp,fun r' nt _=>Ic r' nt⟩⟩
 .rw[hH]at N7;split at N7
  .rename_i e;subst e;simp only[Option.some.injEq]at N7;subst N7;exact⟨w.heap.size,o1,.inr ⟨rfl,rfl⟩,by show(w.heap.push o1)[_]?=_;simp,qo.mono hle,fun k hk=>absurd hk (hx k),.inr mw⟩
  .rename_i bC;obtain⟨r',o',b1,b2,b3,b4⟩:=h.blk r (hr.resolve_right bC) x N7;exact⟨r',o',.inl b1,by show(w.heap.push o1)[_]?=_;rw[Ic r' (h.lt r r' b1)];exact b2,b3.mono hle,b4⟩
 .rcases x with x|⟨rfl,rfl⟩<;>rcases y with y|⟨rfl,e⟩
  .have h1:r≠n:=fun e=>hn r' (e▸x);have h2:s≠n:=fun e=>hn r' (e▸y);rw[hH,if_neg h1]at a;rw[hH,if_neg h2]at b;exact h.inj r s r' (hr.resolve_right h1) (hs.resolve_right h2) a b x y
  .have:=h.lt _ _ x;omega
  .have:=h.lt _ _ y;omega
  .rfl
 .show r'<(w.heap.push o1).size;rcases x with x|⟨_,rfl⟩
  .have:=h.lt r r' x;simp;omega
  .simp
 .rcases x with x|⟨rfl,rfl⟩
  .rcases y with y|⟨rfl,rfl⟩
   .exact h.ok.inj r r' s s' x y hr
   .have h1:=h.lt r r' x;exact⟨fun e=>absurd (hr h.lx) (by omega),fun e=>by omega⟩
  .exact absurd (hr h.lx) (by omega)
 .rcases x with x|⟨rfl,rfl⟩
  .exact h.ok.fix r r' x
  .have:=h.fC;omega
 .rcases x with x|⟨rfl,rfl⟩
  .rcases y with y|⟨e,_⟩
   .exact h.ok.one r r' s' x y
   .exact absurd x (e▸hn r')
  .rcases y with y|⟨_,rfl⟩
   .exact absurd y (hn s')
   .rfl
 .rcases x with x|⟨rfl,rfl⟩
  .exact .inl x
  .exact .inr ⟨Nat.le_refl _,by omega,.inl (Nat.le_refl _)⟩
end
section
variable {P:Program} {F:Array Func} {S:Nat->Bool} {K:Kz}
theorem jV {Q:Pi->α->β->Prop}:∀(s:Sem α) {s':Sem β} {p:Pi},qI P F S K 0 Q s s' p->∀{H:Hp} {a:α} {H1:Hp} {R1 W1:Nat} {Fp:Nat->Prop} {w:World},
 aA P s H=some (a,H1,R1,W1)->Rl P S K p H.get Fp w->P.globals.size<=H.n->(∀r,H.n<=r->r<H1.n->∀r',¬p r r')->(∀r,(R1.testBit r=true\/W1.testBit r=true)->(H.n<=r/\r<H1.n)\/Fp r)->
 ∃b w1 q,s'.run (ac P F) w=.ok b w1/\Q q a b/\Mv (fun r=>W1.testBit r=true) p H.n w q H1.n w1/\Rl P S K q H1.get (fun r=>Fp r\/(H.n<=r/\r<H1.n)) w1:=by
 intro s;induction s with
 |pure a=>
  intro s' p h H a1 H1 R1 W1 Fp w e hr hg hn hF;simp only[aA,Option.some.injEq,Prod.mk.injEq]at e;obtain⟨rfl,rfl,rfl,rfl⟩:=e;cases s'<;>first|exact⟨_,w,p,rfl,h,Mv.refl _ _ _ _,hr.mono fun r x=>x.resolve_right (by omega)⟩|exact h.elim
 |load m a k ih=>
  intro s' p h H a1 H1 R1 W1 Fp w e hr hg hn hF;cases s'<;>first|exact h.elim|skip
  rename_i m' a' k';obtain⟨rfl,rfl,ha,hk⟩:=h;have AB:=bk P _ e;simp only[aA]at e;split at e<;>try(cases e;done)
  rename_i c ty fz ym;split at e<;>try(cases e;done)
  rename_i lY;split at e<;>try(cases e;done)
  rename_i v hv;obtain⟨R0,e2,rfl⟩:=fV e;have Id:Fp a.block:=(hF a.block (.inl (by rw[Nat.testBit_or,(tb _ _).2 rfl,Bool.or_true]))).resolve_left fun x=>hn _ x.1 x.2 _ ha.1;obtain⟨v',h1,h2⟩:=hr.cell Id ha ym lY hv;obtain⟨b,w1,q,c1,c2,c3,c4⟩:=ih v (hk v v' h2) e2 hr hg hn fun r x=>hF r (x.imp (fun y=>by rw[Nat.testBit_or,y,Bool.true_or]) id);exact⟨b,w1,q,by simp only[Sem.run,h1];exact c1,c2,c3,c4⟩
 |store m a v k ih=>
  intro s' p h H a1 H1 R1 W1 Fp w e hr hg hn hF;cases s'<;>first|exact h.elim|skip
  rename_i m' a' v' k';obtain⟨rfl,rfl,ha,hv,hk⟩:=h;have AB:=bk P _ e;simp only[aA]at e;cases C8:dv v<;>rw[C8]at e<;>simp only[cond_true,cond_false]at e
  .cases e
  split at e<;>try(cases e;done)
  rename_i c ty fz ym;split at e<;>try(cases e;done)
  rename_i lY;cases hb:(Nat.blt a.off c.size&&!(Nat.ble fz.1 a.off&&Nat.blt a.off fz.2))<;>rw[hb]at e<;>simp only[cond_true,cond_false]at e
  .cases e
  obtain⟨W0,e2,rfl⟩:=ik e;simp only[Bool.and_eq_true,Bool.not_eq_true',Bool.and_eq_false_iff,Nat.blt_eq]at hb
  have SB:¬(fz.1<=a.off/\a.off<fz.2):=by
   rintro⟨x,y⟩;rcases hb.2 with z|z
   .rw[<-Bool.not_eq_true,Nat.ble_eq]at z;exact z x
   .rw[<-Bool.not_eq_true,Nat.blt_eq]at z;exact z y
  have Id:Fp a.block:=(hF a.block (.inr (by rw[Nat.testBit_or,(tb _ _).2 rfl,Bool.or_true]))).resolve_left fun x=>hn _ x.1 x.2 _ ha.1;obtain⟨⟨x,h1⟩,h2,h3,h4⟩:=hr.setCell Id ha ym lY hb.1 SB hv (fun m=>Hp.get_put H a.block _ m) H.n;obtain⟨b,w1,q,c1,c2,c3,c4⟩:=ih hk e2 h3 hg hn fun r x=>hF r (x.imp id fun y=>by rw[Nat.testBit_or,y,Bool.true_or]);refine⟨b,w1,q,?_,c2,h4.trans c3 (fun r x=>by subst x;rw[Nat.testBit_or,(tb _ _).2 rfl,Bool.or_true]) (fun r x=>by rw[Nat.testBit_or,x,Bool.true_or]),c4⟩;have O8:dv v'=true:=hv.dv C8;cases v'<;>first|(cases O8;done)|(simp only[Sem.run,h1,h2];exact c1)
 |new o k ih=>
  intro s' p h H a1 H1 R1 W1 Fp w e hr hg hn hF;cases s'<;>first|exact h.elim|skip
  rename_i o' k';obtain⟨ho,PG,hk⟩:=h;have AB:=bk P _ e;simp only[aA]at e;obtain⟨W0,e2,rfl⟩:=ik e;have YY:=bk P _ e2;have Xe:H.n+1<=H1.n:=YY.nn;obtain⟨h3,h4⟩:=hr.push (n:=H.n) (hn H.n (Nat.le_refl _) (by omega)) hg ho (PG hr.lx) (fun m=>Hp.jB H o m)
  obtain⟨b,w1,q,c1,c2,c3,c4⟩:=ih H.n (hk H.n w.heap.size _ (one_le _ _ _) h3.ok (.inr ⟨rfl,rfl⟩) (Nat.zero_le _) (fun k hx=>by
   obtain⟨r',nt⟩:=hr.xm _ k hx;exact hn H.n (Nat.le_refl _) (by omega) r' nt)) e2 h3 (by show _<=H.n+1;omega) (fun r x y r' z=>by
   have x:H.n+1<=r:=x;rcases z with z|⟨z,_⟩
   .exact hn r (by omega) y r' z
   .omega) (fun r x=>by
   rcases hF r (x.imp id fun y=>by rw[Nat.testBit_or,y,Bool.true_or])with⟨y,z⟩|y
   .by_cases e:r=H.n
    .exact .inr (.inr e)
    .exact .inl ⟨by show H.n+1<=r;omega,z⟩
   .exact .inr (.inl y))
  refine⟨b,w1,q,c1,c2,(h4.mono (W:=fun r=>r=H.n) fun _ x=>x.elim).trans c3 (fun r x=>by subst x;rw[Nat.testBit_or,(tb _ _).2 rfl,Bool.or_true]) (fun r x=>by rw[Nat.testBit_or,x,Bool.true_or]),c4.mono fun r x=>?_⟩;rcases x with x|⟨x,y⟩
  .exact .inl (.inl x)
  .by_cases e:r=H.n
   .exact .inl (.inr e)
   .exact .inr ⟨by show H.n+1<=r;omega,y⟩
 |getObj r k ih=>
  intro s' p h H a1 H1 R1 W1 Fp w e hr hg hn hF;cases s'<;>first|exact h.elim|skip
  rename_i r' k';obtain⟨hp,hk⟩:=h;simp only[aA]at e;split at e<;>try(cases e;done)
  rename_i o N8 ym;obtain⟨R0,e2,rfl⟩:=fV e;have Id:Fp r:=(hF r (.inl (by rw[Nat.testBit_or,(tb _ _).2 rfl,Bool.or_true]))).resolve_left fun x=>hn _ x.1 x.2 _ hp;obtain⟨o',h2,h3,_⟩:=hr.at Id hp ym;have PS:=h3.yJ fun c e fz x=>N8 c e fz x;obtain⟨b,w1,q,c1,c2,c3,c4⟩:=ih o (hk o o' h3) e2 hr hg hn fun r x=>hF r (x.imp (fun y=>by rw[Nat.testBit_or,y,Bool.true_or]) id);refine⟨b,w1,q,?_,c2,c3,c4⟩;simp only[Sem.run,h2];cases o'<;>first|exact absurd rfl (PS _ _ _)|exact c1
 |setObj r o k ih=>
  intro s' p h H a1 H1 R1 W1 Fp w e hr hg hn hF;cases s'<;>first|exact h.elim|skip
  rename_i r' o' k';obtain⟨hp,ho,PG,hk⟩:=h;simp only[aA]at e;split at e<;>try(cases e;done)
  rename_i o0 N8 ym;obtain⟨W0,e2,rfl⟩:=ik e;have Id:Fp r:=(hF r (.inr (by rw[Nat.testBit_or,(tb _ _).2 rfl,Bool.or_true]))).resolve_left fun x=>hn _ x.1 x.2 _ hp;obtain⟨o1,h2,h3,_⟩:=hr.at Id hp ym;have PS:=h3.yJ fun c e fz x=>N8 c e fz x;obtain⟨h5,h6⟩:=hr.setObj Id hp ym (fun c e fz x=>N8 c e fz x) ho (PG hr.lx) (fun m=>Hp.get_put H r _ m) H.n;obtain⟨b,w1,q,c1,c2,c3,c4⟩:=ih hk e2 h5 hg hn fun r x=>hF r (x.imp id fun y=>by rw[Nat.testBit_or,y,Bool.true_or]);refine⟨b,w1,q,?_,c2,h6.trans c3 (fun r x=>by subst x;rw[Nat.testBit_or,(tb _ _).2 rfl,Bool.or_true]) (fun r x=>by rw[Nat.testBit_or,x,Bool.true_or]),c4⟩;simp only[Sem.run,h2];cases o1<;>first|exact absurd rfl (PS _ _ _)|exact c1
 |program k ih=>
  intro s' p h H a1 H1 R1 W1 Fp w e hr hg hn hF;rcases h with h|⟨k',rfl,h⟩
  .have e:aA P (k P) H=some (a1,H1,R1,W1):=e;rcases h with⟨_,h⟩|⟨h,_⟩
   .rw[rR (k P) h]at e;cases e
   .rw[hr.lx]at h;cases h
  .exact ih P h e hr hg hn hF
 |mark m k ih=>
  intro s' p h H a1 H1 R1 W1 Fp w e hr hg hn hF;simp only[aA]at e;split at e
  .rcases h with⟨_,h⟩|(⟨_,h⟩|⟨h,_⟩)|⟨_,k',rfl,hk⟩
   .exact absurd rfl h
   .rw[rR k h]at e;cases e
   .rw[hr.lx]at h;cases h
   .exact ih hk e hr hg hn hF
  .cases e
 |shape r k ih=>intro s' p h H a1 H1 R1 W1 Fp w e;cases e
 |freeze a n k ih=>intro s' p h H a1 H1 R1 W1 Fp w e;cases e
 |frozen a k ih=>intro s' p h H a1 H1 R1 W1 Fp w e;cases e
 |choose q k ih=>intro s' p h H a1 H1 R1 W1 Fp w e;cases e
 |sys c k ih=>intro s' p h H a1 H1 R1 W1 Fp w e;cases e
 |halt x=>intro s' p h H a1 H1 R1 W1 Fp w e;cases e
end
section
variable {P:Program} {F:Array Func} {S:Nat->Bool} {K:Kz} {p:Pi} {H:Nat->Option Obj} {Fp:Nat->Prop} {w:World}
theorem Rl.kill (h:Rl P S K p H Fp w) {s:Nat} (hH:∀m,H2 m=if m=s then none else H m):Rl P S K p H2 Fp w:=by
 have al:∀m,(H2 m).isSome->(H m).isSome/\m≠s:=fun m x=>by
  rw[hH]at x;split at x
  .cases x
  .rename_i e;exact⟨x,e⟩
 refine⟨fun r hr o ho=>?_,fun r s r' x y a b=>h.inj r s r' x y (al r a).1 (al s b).1,h.lt,h.xm,h.ok,h.fC,h.lx⟩;rw[hH]at ho;split at ho
 .cases ho
 .exact h.blk r hr o ho
def Fc (p:Pi) (n n' k:Nat):Pi:=⟨fun r r'=>p r r'\/(r=n/\r'=n'),fun r j=>p.x r j\/(r=n/\j=k),p.l⟩
theorem Du (p:Pi) (n n' k:Nat) (hn:∀r',¬p n r'):Le p (Fc p n n' k):=⟨fun _ _ h=>.inl h,fun _ _ h=>.inl h,fun r r' j a x=>x.resolve_right fun⟨e,_⟩=>hn r' (e▸a),rfl⟩
theorem Rl.N9 (h:Rl P S K p H Fp w) (hn:∀r',¬p n r') (hg:P.globals.size<=n) {k:Nat} (qo:OR S K p o o1) (hk:Room P o o1 k) (hH:∀m,H2 m=if m=n then some o else H m):
 Rl P S K (Fc p n w.heap.size k) H2 (fun r=>Fp r\/r=n) {w with heap:=w.heap.push o1}/\Mv (fun _=>False) p n w (Fc p n w.heap.size k) (n+1) {w with heap:=w.heap.push o1}:=by
 have hle:=Du p n w.heap.size k hn;have hx:∀j,¬p.x n j:=fun j hj=>let⟨r',h1⟩:=h.xm n j hj;hn r' h1
 have Ic:∀j,j<w.heap.size->(w.heap.push o1)[j]?=w.heap[j]?:=fun j hj=>by rw[Array.getElem?_push,if_neg (by omega)]
 refine⟨⟨fun r hr o' ho=>?_,fun r s r' hr hs a b x y=>?_,fun r r' x=>?_,fun r j x=>?_,⟨fun r r' s s' x y hr=>?_,fun r r' x=>?_,fun r r' s' x y=>?_,fun hl=>absurd (h.lx.symm.trans hl) (by decide)⟩,by have:=h.fC;show _<=(w.heap.push o1).size;simp;omega,h.lx⟩,⟨hle,by omega,fun r r' x=>?_,fun r j x=>?_,by show _<=(w.heap.push o1).size;simp,fun r' nt _=>Ic r' nt⟩⟩
 .rw[hH]at ho;split at ho
  .rename_i e;subst e;simp only[Option.some.injEq]at ho;subst ho
   exact⟨w.heap.size,o1,.inr ⟨rfl,rfl⟩,by show(w.heap.push o1)[_]?=_;simp,qo.mono hle,fun j hj=>by
    rcases hj with hj|⟨_,rfl⟩
    .exact absurd hj (hx j)
    .exact hk,.inl ⟨k,.inr ⟨rfl,rfl⟩⟩⟩
  .rename_i bC;obtain⟨r',o2,b1,b2,b3,b4,b5⟩:=h.blk r (hr.resolve_right bC) o' ho;exact⟨r',o2,.inl b1,by show(w.heap.push o1)[_]?=_;rw[Ic r' (h.lt r r' b1)];exact b2,b3.mono hle,fun j hj=>b4 j (hj.resolve_right fun x=>bC x.1),b5.imp (fun⟨j,hj⟩=>⟨j,.inl hj⟩) id⟩
 .rcases x with x|⟨rfl,rfl⟩<;>rcases y with y|⟨rfl,e⟩
  .have h1:r≠n:=fun e=>hn r' (e▸x);have h2:s≠n:=fun e=>hn r' (e▸y);rw[hH,if_neg h1]at a;rw[hH,if_neg h2]at b;exact h.inj r s r' (hr.resolve_right h1) (hs.resolve_right h2) a b x y
  .have:=h.lt _ _ x;omega
  .have:=h.lt _ _ y;omega
  .rfl
 .show r'<(w.heap.push o1).size;rcases x with x|⟨_,rfl⟩
  .have:=h.lt r r' x;simp;omega
  .simp
 .rcases x with x|⟨rfl,_⟩
  .obtain⟨r',y⟩:=h.xm r j x;exact⟨r',.inl y⟩
  .exact⟨_,.inr ⟨rfl,rfl⟩⟩
 .rcases x with x|⟨rfl,rfl⟩
  .rcases y with y|⟨rfl,rfl⟩
   .exact h.ok.inj r r' s s' x y hr
   .have h1:=h.lt r r' x;exact⟨fun e=>absurd (hr h.lx) (by omega),fun e=>by omega⟩
  .exact absurd (hr h.lx) (by omega)
 .rcases x with x|⟨rfl,rfl⟩
  .exact h.ok.fix r r' x
  .have:=h.fC;omega
 .rcases x with x|⟨rfl,rfl⟩
  .rcases y with y|⟨e,_⟩
   .exact h.ok.one r r' s' x y
   .exact absurd x (e▸hn r')
  .rcases y with y|⟨_,rfl⟩
   .exact absurd y (hn s')
   .rfl
 .rcases x with x|⟨rfl,rfl⟩
  .exact .inl x
  .exact .inr ⟨Nat.le_refl _,by omega,.inl (Nat.le_refl _)⟩
 .rcases x with x|⟨rfl,_⟩
  .exact .inl x
  .exact .inr ⟨Nat.le_refl _,by omega⟩
theorem Rl.reuse (h:Rl P S K p H Fp w) {s:Nat} (hn:∀r',¬p n r') (hg:P.globals.size<=n) (hgs:P.globals.size<=s) (LF:Fp s) (Bc:p s r') (hs:(H s).isSome) {k:Nat} (qo:OR S K p o o1) (hk:Room P o o1 k)
 (hH:∀m,H2 m=if m=n then some o else if m=s then none else H m) (bQ:w2.heap.size=w.heap.size) (vZ:w2.heap[r']?=some o1) (bC:∀j,j≠r'->w2.heap[j]?=w.heap[j]?):
 Rl P S K (Fc p n r' k) H2 (fun r=>Fp r\/r=n) w2/\Mv (fun m=>m=s) p n w (Fc p n r' k) (n+1) w2:=by
 have hle:=Du p n r' k hn;have Db:n≠s:=fun e=>hn r' (e▸Bc)
 have old:∀r x,p r x->(H2 r).isSome->r≠n/\r≠s/\(H r).isSome:=fun r x hp al=>by
  have h1:r≠n:=fun e=>hn x (e▸hp);rw[hH,if_neg h1]at al;split at al
  .cases al
  .rename_i h2;exact⟨h1,h2,al⟩
 refine⟨⟨fun r hr o' ho=>?_,fun r t x hr ht a b y z=>?_,fun r x y=>?_,fun r j x=>?_,⟨fun a b c d x y hr=>?_,fun a b x=>?_,fun a b c x y=>?_,fun hl=>absurd (h.lx.symm.trans hl) (by decide)⟩,by rw[bQ];exact h.fC,h.lx⟩,⟨hle,by omega,fun a b x=>?_,fun a j x=>?_,Nat.le_of_eq bQ.symm,fun j hj hw=>bC j fun e=>hw s rfl (e▸Bc)⟩⟩
 .rw[hH]at ho;split at ho
  .rename_i e;subst e;simp only[Option.some.injEq]at ho;subst ho;refine⟨r',o1,.inr ⟨rfl,rfl⟩,vZ,qo.mono hle,fun j hj=>?_,.inl ⟨k,.inr ⟨rfl,rfl⟩⟩⟩;rcases hj with hj|⟨_,rfl⟩
   .obtain⟨x,y⟩:=h.xm r j hj;exact absurd y (hn x)
   .exact hk
  .rename_i e;split at ho
   .cases ho
   .rename_i e2;obtain⟨r1,o2,b1,b2,b3,b4,b5⟩:=h.blk r (hr.resolve_right e) o' ho;refine⟨r1,o2,.inl b1,?_,b3.mono hle,fun j hj=>?_,b5.imp (fun⟨j,hj⟩=>⟨j,.inl hj⟩) id⟩
    .rw[bC r1 ?_]
     .exact b2
     .intro e3;exact e2 (h.inj r s r1 (hr.resolve_right e) LF (by rw[ho];rfl) hs b1 (e3▸Bc))
    .rcases hj with hj|⟨rfl,_⟩
     .exact b4 j hj
     .exact absurd rfl e
 .rcases y with y|⟨rfl,rfl⟩<;>rcases z with z|⟨rfl,e⟩
  .obtain⟨a1,a2,a3⟩:=old r x y a;obtain⟨b1,b2,b3⟩:=old t x z b;exact h.inj r t x (hr.resolve_right a1) (ht.resolve_right b1) a3 b3 y z
  .obtain⟨a1,a2,a3⟩:=old r x y a;exact absurd (h.inj r s x (hr.resolve_right a1) LF a3 hs y (e▸Bc)) a2
  .obtain⟨a1,a2,a3⟩:=old t x z b;exact absurd (h.inj t s x (ht.resolve_right a1) LF a3 hs z Bc) a2
  .rfl
 .rw[bQ];rcases y with y|⟨_,rfl⟩
  .exact h.lt r x y
  .exact h.lt s x Bc
 .rcases x with x|⟨rfl,_⟩
  .obtain⟨y,z⟩:=h.xm r j x;exact⟨y,.inl z⟩
  .exact⟨_,.inr ⟨rfl,rfl⟩⟩
 .rcases x with x|⟨rfl,rfl⟩
  .rcases y with y|⟨rfl,rfl⟩
   .exact h.ok.inj a b c d x y hr
   .refine⟨fun e=>absurd (hr h.lx) (by omega),fun e=>?_⟩;have:=(h.ok.inj a b s d x Bc hr).2 e;have:=hr h.lx;omega
  .exact absurd (hr h.lx) (by omega)
 .rcases x with x|⟨rfl,rfl⟩
  .exact h.ok.fix a b x
  .have:=h.ok.fix s b Bc;omega
 .rcases x with x|⟨rfl,rfl⟩
  .rcases y with y|⟨e,_⟩
   .exact h.ok.one a b c x y
   .exact absurd x (e▸hn b)
  .rcases y with y|⟨_,rfl⟩
   .exact absurd y (hn c)
   .rfl
 .rcases x with x|⟨rfl,rfl⟩
  .exact .inl x
  .exact .inr ⟨Nat.le_refl _,by omega,.inr ⟨s,rfl,Bc⟩⟩
 .rcases x with x|⟨rfl,_⟩
  .exact .inl x
  .exact .inr ⟨Nat.le_refl _,by omega⟩
theorem rS (Q:Program):∀(vs:List Value) (a:Addr) (i:Nat) (w:World) (c:Array Value) (e:TypeId) (fz:Nat×Nat),w.heap[a.block]?=some (.cells c e fz)->a.spot=none->a.off+i+vs.length<=c.size->
 (∀j,j<c.size->¬(fz.1<=j/\j<fz.2))->(∀v∈vs,dv v=true)->
 ∃w2 c2,(Go.storeCells a vs i).run Q w=.ok () w2/\w2.heap.size=w.heap.size/\(∀j,j≠a.block->w2.heap[j]?=w.heap[j]?)/\w2.heap[a.block]?=some (.cells c2 e fz)/\c2.size=c.size/\
  (∀j,j<a.off+i->c2[j]?=c[j]?)/\(∀j,j<vs.length->c2[a.off+i+j]?=vs[j]?)/\∀j,a.off+i+vs.length<=j->c2[j]?=c[j]?:=by
 intro vs;induction vs with
 |nil=>intro a i w c e fz h1 h2 h3 h4 h5;exact⟨w,c,rfl,rfl,fun _ _=>rfl,h1,rfl,fun _ _=>rfl,fun j hj=>absurd hj (Nat.not_lt_zero j),fun _ _=>rfl⟩
 |cons v vs ih=>
  intro a i w c e fz h1 h2 h3 h4 h5;simp only[List.length_cons]at h3;have E6:(a.add i).off=a.off+i:=by unfold Addr.add;split<;>simp_all
  have lY:=nB a i h2;have SC:=fq a i
  have hc:w.cell? (a.add i)=some (c[a.off+i]'(by omega)):=by
   unfold World.cell?;rw[SC,h1];simp only[lY,Option.isSome_none,Bool.false_eq_true,if_false,E6];exact Array.getElem?_eq_getElem (by omega)
  have hf:w.frozen? (a.add i)=false:=by
   unfold World.frozen?;rw[SC,h1];simp only[E6];rw[<-Bool.not_eq_true];simp only[Bool.and_eq_true,decide_eq_true_eq];exact h4 _ (by omega)
  have fW:(w.setCell (a.add i) v).heap[a.block]?=some (.cells (c.setIfInBounds (a.off+i) v) e fz):=by
   show(w.heap.modify _ _)[a.block]?=_;rw[jU,if_pos SC,h1];simp[lY,E6]
  obtain⟨w2,c2,g1,g2,g3,g4,g5,g6,g7,g8⟩:=ih a (i+1) (w.setCell (a.add i) v) _ e fz fW h2 (by simp;omega) (by simpa using h4) fun x hx=>h5 x (by simp[hx]);refine⟨w2,c2,?_,by rw[g2];simp[World.setCell],fun j hj=>?_,g4,by rw[g5];simp,fun j hj=>?_,fun j hj=>?_,fun j hj=>?_⟩
  .simp only[Go.storeCells];show(Sem.store .plain (a.add i) v _).run Q w=_;have hv:=h5 v (by simp);cases v<;>first|(cases hv;done)|(simp only[Sem.run,hc,hf];exact g1)
  .rw[g3 j hj];show(w.heap.modify _ _)[j]?=_;rw[jU,if_neg (by rw[SC];exact Ne.symm hj)]
  .rw[g6 j (by omega),Array.getElem?_setIfInBounds,if_neg (by omega)]
  .cases j with
   |zero=>rw[Nat.add_zero,g6 (a.off+i) (by omega),Array.getElem?_setIfInBounds,if_pos rfl,if_pos (by omega)];rfl
   |succ j=>
    have:=g7 j (by simpa using hj);rw[show a.off+i+(j+1)=a.off+(i+1)+j by omega,this];rfl
  .rw[List.length_cons]at hj;rw[g8 j (by omega),Array.getElem?_setIfInBounds,if_neg (by omega)]
end
theorem Bw {c:Nat} (h:c<n):Builtin.nextslicecap n c<=2*n+768:=by
 unfold Builtin.nextslicecap;split
 .omega
 .split
  .omega
  .have:∀(r c:Nat),c<n+(n+768)/4+1->Builtin.growBy n r c<=2*n+768:=by
    intro r;induction r with
    |zero=>intro c hc;simp only[Builtin.growBy];omega
    |succ r ih=>
     intro c hc;simp only[Builtin.growBy];split
     .omega
     .exact ih _ (by omega)
   exact this 4 c (by omega)
def RO (P:Program) (s:Sem α):Prop:=∀H a H1 R W,aA P s H=some (a,H1,R,W)->H1=H/\W=0
theorem RO.pure {P:Program} (a:α):RO P (Pure.pure a:Sem α):=fun H b H1 R W h=>by
 have h:some (a,H,0,0)=some (b,H1,R,W):=h;simp only[Option.some.injEq,Prod.mk.injEq]at h;exact⟨h.2.1.symm,h.2.2.2.symm⟩
theorem RO.none {P:Program} {s:Sem α} (h:∀H,aA P s H=.none):RO P s:=fun H a H1 R W e=>by rw[h]at e;cases e
theorem RO.load {P:Program} {k:Value->Sem α} (h:∀v,RO P (k v)):RO P (Sem.load .plain a k):=fun H b H1 R W e=>by
 simp only[aA]at e;split at e<;>try(cases e;done)
 split at e<;>try(cases e;done)
 split at e<;>try(cases e;done)
 obtain⟨R0,e2,_⟩:=fV e;exact h _ _ _ _ _ _ e2
theorem RO.loadCells (P:Program):∀(n:Nat) (a:Addr) (i:Nat) (acc:Array Value),RO P (Go.loadCellsFrom a i n acc)
 |0,_,_,_=>RO.pure _
 |n+1,a,i,acc=>by
  simp only[Go.loadCellsFrom];exact RO.load fun v=>RO.loadCells P n a (i+1) _
theorem RO.firstCells (P:Program) (s n:Nat) (x:Value):RO P (Builtin.firstCells s n x):=by
 cases x<;>first|exact RO.none fun _=>rfl|skip
 .exact RO.pure _
 .rename_i a l c;cases a with
  |none=>exact RO.pure _
  |some a=>exact RO.loadCells P _ a 0 _
def yK:Value->Option Nat
 |.slice _ n _=>some n
 |.string s=>some s.size
 |_=>none
theorem us (h:yK x=some n):Builtin.lenOf x=Pure.pure n:=by
 cases x<;>simp only[yK,Option.some.injEq,reduceCtorEq]at h<;>(subst h;rfl)
def oZ (P:Program) (e:TypeId) (size:Nat) (b:Option Addr) (yL sc:Nat) (cs:Array Value) (H:Hp) (R:Nat):Rs Value:=
 match b with
 |none=>some (.slice (some ⟨H.n,0,none⟩) yL yL,H.push (.cells cs e (1,0)),R,2^H.n)
 |some a=>bif a.spot.isNone then bif Nat.beq sc 0 then some (.slice (some ⟨H.n,0,none⟩) yL yL,H.push (.cells cs e (1,0)),R,2^H.n)
  else match H.get a.block with
   |some (.cells c e' fz)=>bif Nat.beq a.off 0&&Nat.beq e' e&&Nat.beq c.size (sc*size)&&Nat.ble fz.1 1&&Nat.beq fz.2 0&&Nat.ble P.globals.size a.block&&Nat.blt 0 size then
     some (.slice (some ⟨H.n,0,none⟩) yL yL,(H.put a.block none).push (.cells cs e (1,0)),R,2^H.n|||2^a.block)else none
   |_=>none else none
def Ie (P:Program) (e:TypeId) (i:TypeInfo) (b:Option Addr) (sl sc n:Nat) (z:Value) (old new:Array Value) (H:Hp) (R:Nat):Rs Value:=
 bif Nat.blt sc (sl+n)&&Nat.ble ((2*(sl+n)+768)*i.bytes) (2^48)&&Nat.blt (sl+n) (2^62)&&Nat.beq z.cells.size i.size&&Nat.beq new.size (n*i.size)&&Nat.beq old.size (sl*i.size)&&new.all dv then
  oZ P e i.size b (sl+n) sc (old++new) H R else none
def If (P:Program) (ts:Array TypeId) (xs:Array Value) (H:Hp):Rs Value:=
 match ts[0]? with
 |none=>none
 |some sT=>match(xs[0]?:Option Value)with
  |some (.slice b sl sc)=>match(xs[1]?:Option Value)with
   |none=>none
   |some x=>match P.underlying sT with
    |some (.slice e)=>match P.info? e with
     |none=>none
     |some i=>match yK x with
      |none=>none
      |some n=>match i.zero with
       |none=>none
       |some z=>match aA P (Builtin.firstCells i.size sl (.slice b sl sc)) H with
        |none=>none
        |some (old,_,R1,_)=>match aA P (Builtin.firstCells i.size n x) H with
         |none=>none
         |some (new,_,R2,_)=>Ie P e i b sl sc n z old new H (R1|||R2)
    |_=>none
  |_=>none
section
variable {P:Program} {F:Array Func} {S:Nat->Bool} {K:Kz} {p:Pi} {Fp:Nat->Prop} {w:World}
theorem da (Q:Program) (f:α->Sem β) {a:α}:∀(s:Sem α) (w:World),s.run Q w=.ok a w1->(s>>=f).run Q w=(f a).run Q w1:=by
 intro s;show∀(w:World),s.run Q w=.ok a w1->(s.bind f).run Q w=(f a).run Q w1;induction s with
 |pure x=>intro w e;simp only[Sem.run,Result.ok.injEq]at e;obtain⟨rfl,rfl⟩:=e;rfl
 |load m a k ih=>
  intro w e;simp only[Sem.bind,Sem.run]at e⊢;split
  .rename_i h;rw[h]at e;exact ih _ w e
  .rename_i h;rw[h]at e;simp only at e;split
   .rename_i h2;rw[h2]at e;exact ih _ w e
   .rename_i h2;rw[h2]at e;cases e
 |store m a v k ih=>
  intro w e;cases C8:dv v with
  |false=>cases v<;>first|(cases C8;done)|(simp only[Sem.run]at e;cases e)
  |true=>
   have key:∀{γ:Type} (k:Sem γ),(Sem.store m a v k).run Q w=match w.cell? a with
    |some _=>if w.frozen? a then .halt (.unsupported (.unsafePointer "a write to bytes that a string shares")) w else k.run Q (w.setCell a v)
    |none=>match w.farStore Q a v (m== .atomic)with
     |.ok (w,_)=>k.run Q w
     |.error h=>.halt h w:=fun k=>by cases v<;>first|(cases C8;done)|rfl
   simp only[Sem.bind];rw[key]at e⊢;split
   .rename_i h;rw[h]at e;simp only at e;split
    .rename_i h2;rw[if_pos h2]at e;cases e
    .rename_i h2;rw[if_neg h2]at e;exact ih _ e
   .rename_i h;rw[h]at e;simp only at e;split
    .rename_i h2;rw[h2]at e;exact ih _ e
    .rename_i h2;rw[h2]at e;cases e
 |new o k ih=>intro w e;exact ih _ _ e
 |shape r k ih=>intro w e;exact ih _ _ e
 |freeze a n k ih=>intro w e;exact ih _ e
 |frozen a k ih=>intro w e;exact ih _ _ e
 |getObj r k ih=>
  intro w e;simp only[Sem.bind,Sem.run]at e⊢;cases ho:w.heap[r]? with
  |none=>rw[ho]at e;cases e
  |some o'=>rw[ho]at e;cases o'<;>first|exact ih _ _ e|(cases e;done)
 |setObj r o k ih=>
  intro w e;simp only[Sem.bind,Sem.run]at e⊢;cases ho:w.heap[r]? with
  |none=>rw[ho]at e;cases e
  |some o'=>rw[ho]at e;cases o'<;>first|exact ih _ e|(cases e;done)
 |choose q k ih=>
  intro w e;simp only[Sem.bind,Sem.run]at e⊢;split at e
  .rename_i hq;simp only[hq,if_true];exact ih _ _ e
  .rename_i hq;simp only[hq,if_false,Bool.false_eq_true];exact ih _ _ e
 |sys c k ih=>intro w e;exact ih _ _ e
 |program k ih=>intro w e;exact ih _ _ e
 |mark m k ih=>intro w e;exact ih _ e
 |halt x=>intro w e;simp only[Sem.run]at e;cases e
theorem run_typeInfo (h:P.info? t=some i) (f:TypeInfo->Sem β) (w:World):(Go.typeInfo t>>=f).run (ac P F) w=(f i).run (ac P F) w:=by
 show(Sem.bind (match(ac P F).info? t with|some i=>Pure.pure i|none=>Go.stuck "no such type") f).run (ac P F) w=_;rw[jL,h];rfl
theorem run_underlying {i:TypeDesc} (h:P.underlying t=some i) (f:TypeDesc->Sem β) (w:World):(Go.underlying t>>=f).run (ac P F) w=(f i).run (ac P F) w:=by
 show(Sem.bind (match(ac P F).underlying t with|some i=>Pure.pure i|none=>Go.stuck "no such type") f).run (ac P F) w=_;rw[de,h];rfl
theorem run_sizeOf (h:P.info? t=some i) (f:Nat->Sem β) (w:World):(Go.sizeOf t>>=f).run (ac P F) w=(f i.size).run (ac P F) w:=by
 show((Go.typeInfo t>>=fun i=>Pure.pure i.size)>>=f).run (ac P F) w=_;have:=da (ac P F) f (a:=i.size) (w1:=w) (Go.typeInfo t>>=fun i=>Pure.pure i.size) w (by rw[run_typeInfo h];rfl);exact this
theorem tH (h:P.info? t=some i) (hz:i.zero=some z) (f:Value->Sem β) (w:World):(Go.zeroValue t>>=f).run (ac P F) w=(f z).run (ac P F) w:=
 da (ac P F) f (a:=z) (w1:=w) (Go.zeroValue t) w (by unfold Go.zeroValue;rw[run_typeInfo h,hz];rfl)
theorem run_choose {q:Question} (hq:q.forced=false) (f:Nat->Sem β) (w:World):(Go.choose q>>=f).run (ac P F) w=(f (q.cut (w.tape w.drawn q))).run (ac P F) {w with drawn:=w.drawn+1}:=by
 show(Sem.choose q f).run _ _=_;simp only[Sem.run,hq,Bool.false_eq_true,if_false]
theorem run_askRoom (n:Nat) (f:Unit->Sem β) (w:World):(Go.askRoom n>>=f).run (ac P F) w=(f ()).run (ac P F) w:=by
 unfold Go.askRoom;split<;>rfl
theorem Bx (ht:ub P ts=true) (t:TypeId) {sT:TypeId} {b:Option Addr} (h0:ts[0]?=some sT) (h1:xs[0]?=some (.slice b sl sc)) (h2:xs[1]?=some x)
 (hu:P.underlying sT=some (.slice e)) (hi:P.info? e=some i) (YZ:∀t1,ts[1]?=some t1->(P.underlying t1).isSome) (w:World):(Builtin.append_ ts t xs).run (ac P F) w=(ep e b sl sc i.size x).run (ac P F) w:=by
 unfold Builtin.append_;rw[h0,h1,h2];simp only;rw[run_underlying hu];simp only;rw[run_sizeOf hi];cases h3:ts[1]? with
 |none=>
  unfold aq.ep aq.mG aq.eM;cases b<;>simp only[pure_bind,Bool.false_eq_true,if_false,Bool.not_false,if_true,false_or]
 |some t1=>
  obtain⟨u,hu1⟩:=Option.isSome_iff_exists.1 (YZ t1 h3);simp only[ub,h3,hu1]at ht;simp only;rw[run_underlying hu1];have e0:(match u with|.int _=>true|_=>false)=false:=by cases u<;>first|(cases ht;done)|rfl
  unfold aq.ep aq.mG aq.eM;cases u<;>first|(cases ht;done)|skip
  all_goals(cases b<;>simp only[pure_bind,Bool.false_eq_true,if_false,Bool.not_false,if_true,false_or])
end
section
variable {P:Program} {F:Array Func} {S:Nat->Bool} {K:Kz} {p:Pi} {Fp:Nat->Prop} {w:World}
theorem Rl.heap {H:Nat->Option Obj} (h:Rl P S K p H Fp w) (e:w2.heap=w.heap):Rl P S K p H Fp w2:=
 ⟨fun r x o y=>by rw[e];exact h.blk r x o y,h.inj,fun r r' x=>by rw[e];exact h.lt r r' x,h.xm,h.ok,by rw[e];exact h.fC,h.lx⟩
theorem Mv.heap {W:Nat->Prop} (h:Mv W p n w q n1 w1) (e:w2.heap=w1.heap):Mv W p n w q n1 w2:=
 ⟨h.le,h.nn,h.new,h.wd,by rw[e];exact h.size,fun r a b=>by rw[e];exact h.keep r a b⟩
theorem Mv.Ig {W:Nat->Prop} (h:Mv W p n w q n1 w1) {w0:World} (e:w0.heap=w.heap):Mv W p n w0 q n1 w1:=
 ⟨h.le,h.nn,fun r r' x=>by rw[e];exact h.new r r' x,h.wd,by rw[e];exact h.size,fun r a b=>by rw[e]at a⊢;exact h.keep r a b⟩
def aR (s:Sem α):Prop:=∀Q w b w1,s.run Q w=.ok b w1->w1=w
theorem aR.loadCells:∀(n:Nat) (a:Addr) (i:Nat) (acc:Array Value),aR (Go.loadCellsFrom a i n acc)
 |0,_,_,_=>fun Q w b w1 h=>by
  have h:Result.ok _ w=.ok b w1:=h;simp only[Result.ok.injEq]at h;exact h.2.symm
 |n+1,a,i,acc=>fun Q w b w1 h=>by
  simp only[Go.loadCellsFrom]at h;have h:(Sem.load .plain (a.add i) fun v=>Go.loadCellsFrom a (i+1) n (acc.push v)).run Q w=.ok b w1:=h;simp only[Sem.run]at h;split at h
  .exact aR.loadCells n a (i+1) _ _ _ _ _ h
  .split at h
   .exact aR.loadCells n a (i+1) _ _ _ _ _ h
   .cases h
theorem aR.firstCells (s n:Nat) (x:Value):aR (Builtin.firstCells s n x):=by
 intro Q w b w1 h;have key:∀c:Array Value,Result.ok c w=.ok b w1->w1=w:=fun c h=>by simp only[Result.ok.injEq]at h;exact h.2.symm
 cases x with
 |string s=>exact key _ h
 |slice a l c=>
  cases a with
  |none=>exact key _ h
  |some a=>exact aR.loadCells _ a 0 _ Q w b w1 h
 |_=>cases h
theorem ut {H:Hp} (hr:Rl P S K p H.get Fp w) (hg:P.globals.size<=H.n) (hx:VR S p x x') (hn:∀b c,x=.slice b 0 c->n=0) {cs:Array Value} {Ha:Hp} (e:aA P (Builtin.firstCells size n x) H=some (cs,Ha,R,W))
 (hF:∀r,R.testBit r=true->Fp r) (hw:w2.heap=w.heap):∃jH,(Builtin.firstCells size n x').run (ac P F) w2=.ok jH w2/\AR S p cs jH:=by
 obtain⟨rfl,rfl⟩:=RO.firstCells P size n x _ _ _ _ _ e;obtain⟨jH,w1,q,h1,h2,h3,_⟩:=jV (P:=P) (F:=F) (K:=K) (Builtin.firstCells size n x) (SR.firstCells (P:=P) (F:=F) (S:=S) (K:=K) (N:=0) size n hx hn (hr.heap hw).ok) e (hr.heap hw) hg (fun r a b=>by omega) (fun r h=>.inr (h.elim (hF r) fun h=>by simp at h));have:=aR.firstCells _ _ _ _ _ _ _ h1;subst this;refine⟨jH,h1,AR.mono ⟨fun r r' x=>?_,fun r k x=>?_,fun _ _ _ _ x=>h3.le.x _ _ x,h3.le.l.symm⟩ h2⟩
 .rcases h3.new r r' x with y|⟨a,b,_⟩
  .exact y
  .omega
 .rcases h3.wd r k x with y|⟨a,b⟩
  .exact y
  .omega
theorem yM (hx:VR S p x x') (h:yK x=some n):yK x'=some n:=by
 cases hx<;>first|exact h|(simp only[yK,reduceCtorEq]at h;done)
theorem yN:∀(n:Nat) (v:Value),plain n v=true->∀u∈v.cells,∃m,plain m u=true:=by
 intro n v h u hu;cases v with
 |agg xs=>
  cases n with
  |zero=>simp[plain]at h
  |succ n=>
   simp only[plain]at h;exact⟨n,Array.all_eq_true'.1 h u (by simpa [Value.cells]using hu)⟩
 |_=>simp[Value.cells]at hu;subst hu;exact⟨n,h⟩
theorem qx {z:Array Value} {X:Value->Prop} (h:∀u∈z,X u) (k:Nat) {j:Nat} {u:Value} (hj:(Builtin.zeroCells z k)[j]?=some u):X u:=by
 unfold Builtin.zeroCells at hj;rw[Array.getElem?_map]at hj;cases hr:(Array.range (k*z.size))[j]? with
 |none=>rw[hr]at hj;cases hj
 |some x=>
  rw[hr]at hj;simp only[Option.map_some,Option.some.injEq]at hj;subst hj;have ar:=(Array.getElem?_eq_some_iff.1 hr).1;simp at ar
  have hz:0<z.size:=by
   rcases Nat.eq_zero_or_pos z.size with h|h
   .rw[h]at ar;omega
   .exact h
  have hm:x%z.size<z.size:=Nat.mod_lt _ hz;rw[getElem!_pos z (x%z.size) hm];exact h _ (Array.getElem_mem hm)
theorem we (hi:P.info? e=some i) (hz:i.zero=some z) (Y6:∀u∈z.cells,(∃m,plain m u=true)/\K.z e u) (Y7:z.cells.size=i.size) {b b':Option Addr} {tB:Nat} (hs:VR S p (.slice b sl sc) (.slice b' sl tB)) (hx:VR S p x x') (hlen:yK x=some n)
 (Ub:sc<sl+n) (yI:(2*(sl+n)+768)*i.bytes<=2^48) (Y8:sl+n<2^62) {old new:Array Value} (hold:old.size=sl*i.size) (jg:new.size=n*i.size) (C8:∀v∈new,dv v=true)
 {H:Hp} (hr:Rl P S K p H.get Fp w) (hg:P.globals.size<=H.n) (ho:∀w2:World,w2.heap=w.heap->∃jH,(Builtin.firstCells i.size sl (.slice b' sl tB)).run (ac P F) w2=.ok jH w2/\AR S p old jH)
 (hw:∀w2:World,w2.heap=w.heap->∃jH,(Builtin.firstCells i.size n x').run (ac P F) w2=.ok jH w2/\AR S p new jH) {H1:Hp} (he:oZ P e i.size b (sl+n) sc (old++new) H R=some (v,H1,R1,W1))
 (hn:∀r',¬p H.n r') (hF:∀r,W1.testBit r=true->(H.n<=r/\r<H1.n)\/Fp r)
 (hoc:∀a c e' fz,b=some a->H.get a.block=some (.cells c e' fz)->a.off=0->c.size=sc*i.size->a.spot=none->∀j,j<old.size->old[j]?=c[j]?):
 ∃v' w1 q,(ep e b' sl tB i.size x').run (ac P F) w=.ok v' w1/\VR S q v v'/\Mv (fun r=>W1.testBit r=true) p H.n w q H1.n w1/\Rl P S K q H1.get (fun r=>Fp r\/(H.n<=r/\r<H1.n)) w1:=by
 have PT:LE P e=i.size:=by unfold LE;rw[hi];rfl
 have grow:∀{H2:Nat->Option Obj},Rl P S K p H2 Fp w->tB<sl+n->(∀m,H1.get m=if m=H.n then some (.cells (old++new) e (1,0))else H2 m)->v=.slice (some ⟨H.n,0,none⟩) (sl+n) (sl+n)->H1.n=H.n+1->
  ∃v' w1 q,(ep e b' sl tB i.size x').run (ac P F) w=.ok v' w1/\VR S q v v'/\Mv (fun r=>W1.testBit r=true) p H.n w q H1.n w1/\Rl P S K q H1.get (fun r=>Fp r\/(H.n<=r/\r<H1.n)) w1:=by
  intro H2 qw ar Uc hv yO;let w1:World:={w with drawn:=w.drawn+1}
  let k:=w.tape w.drawn (.appendCap (sl+n) tB e)%(2^63-(sl+n))
  obtain⟨LG,GK,vJ⟩:=ho w1 rfl;obtain⟨wg,jK,xD⟩:=hw w1 rfl;let cells:=LG++wg++Builtin.zeroCells z.cells k
  have oK:cells.size=(old++new).size+k*i.size:=by
   show(LG++wg++Builtin.zeroCells z.cells k).size=_;unfold Builtin.zeroCells;simp only[Array.size_append,Array.size_map,Array.size_range,Y7,vJ.1,xD.1]
  have qo:OR S K p (.cells (old++new) e (1,0)) (.cells cells e (0,0)):=by
   refine .cg hr.lx e (1,0) (0,0) (by rw[oK];omega) (.inr ⟨fun j _ h=>by omega,fun _=>rfl⟩) (fun j u' hj h2=>?_) fun j u u' h1 h2=>?_
   .have Xf:=vJ.append xD;have:cells[j]?=(Builtin.zeroCells z.cells k)[j-(LG++wg).size]?:=Array.getElem?_append_right (by rw[<-Xf.1];exact hj);rw[this]at h2;exact qx Y6 k h2
   have hj:j<(old++new).size:=(Array.getElem?_eq_some_iff.1 h1).1;have Xf:=vJ.append xD;have:cells[j]?=(LG++wg)[j]?:=Array.getElem?_append_left (by rw[<-Xf.1];exact hj);rw[this]at h2;exact Xf.2 j u u' h1 h2
  obtain⟨g1,g2⟩:=(qw.heap (w2:=w1) rfl).N9 (n:=H.n) (k:=k) hn hg qo ⟨_,_,_,_,_,rfl,rfl,by rw[oK,PT],.inr (by have:=Nat.mod_lt (w.tape w.drawn (.appendCap (sl+n) tB e)) (show 0<2^63-(sl+n) by omega);show w.tape w.drawn (.appendCap (sl+n) tB e)%(2^63-(sl+n))+1<2^63;omega),by decide⟩ Uc;refine⟨.slice (some ⟨w.heap.size,0,none⟩) (sl+n) (sl+n+k),_,_,?_,?_,by rw[yO];exact(g2.Ig (w0:=w) rfl).mono fun _ h=>h.elim,g1.mono fun r h=>h.imp id fun⟨a,b⟩=>by omega⟩
  .unfold aq.ep;rw[us (yM hx hlen)];simp only[pure_bind];rw[if_neg (by omega),run_typeInfo hi]
   rw[if_neg (by rintro⟨h1,_⟩;have e9:IntKind.i64.max=9223372036854775807:=by decide
                 rw[e9]at h1;omega)]
   unfold aq.mG;rw[run_typeInfo hi,if_neg ?_]
   .unfold aq.eM;rw[run_choose rfl,run_typeInfo hi,run_askRoom];rw[da (ac P F) _ _ _ GK,da (ac P F) _ _ _ jK,tH hi hz];have e0:(Question.appendCap (sl+n) tB e).cut (w.tape w.drawn (.appendCap (sl+n) tB e))=sl+n+k:=rfl;rw[e0];have e1:sl+n+k-(sl+n)=k:=by omega
    rw[e1];rfl
   .have:=Bw ar;have:=Nat.mul_le_mul_right i.bytes this;omega
  .rw[hv];exact .cV 0 (sl+n) hr.lx (.inr ⟨rfl,rfl⟩) (by omega) (.inr ⟨rfl,rfl⟩)
 obtain⟨_,rr⟩:=kJ hs;unfold oZ at he;cases b with
 |none=>
  simp only[Option.some.injEq,Prod.mk.injEq]at he;obtain⟨rfl,rfl,rfl,rfl⟩:=he;refine grow (H2:=H.get) hr ?_ (fun m=>Hp.jB H _ m) rfl rfl;rcases rr with⟨_,_,e⟩|⟨a,_,e,_⟩|⟨_,_,a,_,e,_⟩
  .omega
  .cases e
  .cases e
 |some a=>
  simp only at he;cases lY:a.spot with
  |some y=>rw[lY]at he;cases he
  |none=>
  rw[lY]at he;simp only[Option.isNone_none,cond_true]at he;by_cases LH:sc=0
  .subst LH;simp only[Nat.beq_refl,cond_true,Option.some.injEq,Prod.mk.injEq]at he;obtain⟨rfl,rfl,rfl,rfl⟩:=he;refine grow (H2:=H.get) hr ?_ (fun m=>Hp.jB H _ m) rfl rfl;rcases rr with⟨_,_,e⟩|⟨a2,_,e,_,_,e2|⟨_,h0,_⟩⟩|⟨_,_,a2,_,e,_,⟨_,e2⟩|⟨e2,_⟩⟩
   .omega
   .omega
   .omega
   .cases e;rw[lY]at e2;cases e2
   .rw[hr.lx]at e2;cases e2
  .rw[gW LH]at he;simp only[cond_false]at he;split at he<;>try(cases he;done)
   rename_i c e' fz ym;cases hb:(Nat.beq a.off 0&&Nat.beq e' e&&Nat.beq c.size (sc*i.size)&&Nat.ble fz.1 1&&Nat.beq fz.2 0&&Nat.ble P.globals.size a.block&&Nat.blt 0 i.size)<;>rw[hb]at he<;>simp only[cond_true,cond_false]at he
   .cases he
   simp only[Bool.and_eq_true]at hb;obtain⟨⟨⟨⟨⟨⟨b1,b2⟩,b3⟩,b4⟩,b5⟩,b6⟩,b7⟩:=hb;have hi1:i.size≠0:=fun e=>by rw[e]at b7;cases b7
   have b1:=Nat.eq_of_beq_eq_true b1;have b2:=Nat.eq_of_beq_eq_true b2;have b3:=Nat.eq_of_beq_eq_true b3;have b5:=Nat.eq_of_beq_eq_true b5;have b6:=Nat.le_of_ble_eq_true b6;subst b2;simp only[Option.some.injEq,Prod.mk.injEq]at he;obtain⟨rfl,rfl,rfl,rfl⟩:=he
   have bC:a.block≠H.n:=fun e=>by
    rcases rr with⟨e1,_⟩|⟨a2,Y9,e1,_,h3,_⟩|⟨_,_,a2,_,e1,_,⟨_,e2⟩|⟨e2,_⟩⟩
    .cases e1
    .cases e1;exact hn _ (e▸h3.1)
    .cases e1;rw[lY]at e2;cases e2
    .rw[hr.lx]at e2;cases e2
   have Id:Fp a.block:=(hF a.block (by rw[Nat.testBit_or,(tb _ _).2 rfl,Bool.or_true])).resolve_left fun⟨x,y⟩=>by
    have y:a.block<H.n+1:=y;omega
   have Uc:∀m,((H.put a.block none).push (.cells (old++new) e' (1,0))).get m=if m=H.n then some (.cells (old++new) e' (1,0))else if m=a.block then none else H.get m:=fun m=>by
    rw[Hp.jB];show(if m=H.n then _ else _)=_;rw[Hp.get_put]
   have Ud:Rl P S K p (fun m=>if m=a.block then none else H.get m) Fp w:=hr.kill fun m=>rfl;rcases rr with⟨e1,_⟩|⟨a2,a',e1,rfl,ha,jt⟩|⟨_,_,a2,_,e1,_,⟨_,e2⟩|⟨e2,_⟩⟩
   .cases e1
   .cases e1;rcases Nat.lt_or_ge tB (sl+n)with ar|xV
    .exact grow Ud ar Uc rfl rfl
    ·
     obtain⟨_,h0,_,k0,rh,rfl⟩:=jt.resolve_left (by omega);obtain⟨o',g1,g2,g3⟩:=hr.at Id ha.1 ym;obtain⟨c0,e0,fz0,c',eS,e5,rfl,bQ,tI⟩:=g3.1 k0 rh;cases e5;rw[PT,b3,<-Nat.add_mul]at bQ;have EI:a'.spot=none:=ha.2.2.symm.trans lY;have Oa:a'.off=0:=ha.2.1.symm.trans b1
     have Ue:(∀j,j<c'.size->¬(eS.1<=j/\j<eS.2))/\(S 999999=true->eS=(0,0)):=by
      cases g2 with
      |cells e fz hw g=>
       have:=hw hr.lx;exact⟨fun j _ h=>by omega,fun _=>Prod.ext (by omega) b5⟩
      |cg _ e fz eS hl hz hs g=>
       rcases hz with⟨_,hz⟩|hz
       .have Za:sc*i.size=0:=by omega
        have xH:i.size=0:=by
         rcases Nat.mul_eq_zero.1 Za with h|h
         .exact absurd h LH
         .exact h
        exact absurd xH hi1
       .exact hz
     have Uf:=Ue.1;obtain⟨cc,fz2,e6,mJ,NM,_⟩:=g2.oY;cases e6;obtain⟨wg,jK,xD⟩:=hw w rfl;have Ob:(a'.add (sl*i.size)).off=sl*i.size:=by unfold Addr.add;split<;>simp_all
     have hle:sl*i.size+n*i.size<=c'.size:=by rw[bQ,<-Nat.add_mul];exact Nat.mul_le_mul_right _ xV
     obtain⟨w2,c2,s1,s2,s3,s4,s5,s6,s7,s8⟩:=rS (ac P F) wg.toList (a'.add (sl*i.size)) 0 w c' e' eS (by rw[fq];exact g1) (nB _ _ EI) (by rw[Ob];simp only[Array.length_toList,<-xD.1,jg];omega) Uf (fun u hu=>by
      obtain⟨j,hj,hju⟩:=List.getElem_of_mem hu;have xE:j<wg.size:=by simpa using hj
      have qN:j<new.size:=by rw[xD.1];exact xE
      have hrel:=xD.2 j new[j] wg[j] (Array.getElem?_eq_getElem qN) (Array.getElem?_eq_getElem xE);have:u=wg[j]:=by rw[<-hju];simp
      rw[this,<-hrel.dv];exact C8 _ (Array.getElem_mem qN))
     rw[Ob,Nat.add_zero]at s6 s7 s8;rw[fq]at s3 s4;have zfT:sl*i.size+n*i.size=(sl+n)*i.size:=(Nat.add_mul ..).symm;have hk:(sl+n)*i.size+(sc+k0-(sl+n))*i.size=(sc+k0)*i.size:=by rw[<-Nat.add_mul];congr 1;omega
     have qo:OR S K p (.cells (old++new) e' (1,0)) (.cells c2 e' eS):=by
      refine .cg hr.lx e' (1,0) eS (by rw[s5,Array.size_append,hold,jg];omega) (.inr ⟨by rw[s5];exact Uf,Ue.2⟩) (fun j u' hj h2=>?_) fun j u u' h1 h2=>?_
      .rw[Array.size_append,hold,jg]at hj;rw[s8 j (by simp only[Array.length_toList,<-xD.1,jg];omega)]at h2
       have hjc:c.size<=j:=by
        rw[b3];exact Nat.le_trans (Nat.mul_le_mul_right _ (Nat.le_of_lt Ub)) (by omega)
       cases g2 with
       |cells e fz hw g=>
        have:=(Array.getElem?_eq_some_iff.1 h2).1;rw[<-g.1]at this;omega
       |cg _ e fz eS hl hz hs g=>exact hs j u' hjc h2
      rw[Array.getElem?_append]at h1;by_cases hj:j<old.size
      .rw[if_pos hj]at h1;rw[s6 j (by omega)]at h2;rw[hoc a c e' fz rfl ym b1 b3 lY j hj]at h1;exact NM j u u' h1 h2
      .rw[if_neg hj]at h1;have ar:=(Array.getElem?_eq_some_iff.1 h1).1;have:=s7 (j-old.size) (by simp only[Array.length_toList,<-xD.1];exact ar);rw[show sl*i.size+(j-old.size)=j by omega]at this;rw[this]at h2;exact xD.2 _ u u' h1 (by simpa using h2)
     obtain⟨r1,r2⟩:=hr.reuse (n:=H.n) (s:=a.block) (r':=a'.block) (k:=sc+k0-(sl+n)) hn hg b6 Id ha.1 (by rw[ym];rfl) qo ⟨_,_,_,_,_,rfl,rfl,by rw[s5,PT,Array.size_append,hold,jg,bQ];omega,.inr (by
      rcases tI.1 with tI|tI
      .rw[b3]at tI;rcases Nat.mul_eq_zero.1 tI with h|h
       .exact absurd h LH
       .exact absurd h hi1
      .omega),by decide⟩ Uc s2 s4 s3
     refine⟨.slice (some a') (sl+n) (sc+k0),w2,_,?_,?_,r2.mono fun r h=>by subst h;rw[Nat.testBit_or,(tb _ _).2 rfl,Bool.or_true],r1.mono fun r h=>h.imp id fun⟨x,y⟩=>by
      have y:r<H.n+1:=y;omega⟩
     .unfold aq.ep;rw[us (yM hx hlen)];simp only[pure_bind];rw[if_pos xV,da (ac P F) _ _ _ jK];rw[da (ac P F) _ _ _ s1];rfl
     .have ea:a'=⟨a'.block,0,none⟩:=by
       obtain⟨x,y,z⟩:=a';simp only at Oa EI;subst Oa;subst EI;rfl
      have hv:VR S (Fc p H.n a'.block (sc+k0-(sl+n))) (.slice (some ⟨H.n,0,none⟩) (sl+n) (sl+n)) (.slice (some ⟨a'.block,0,none⟩) (sl+n) ((sl+n)+(sc+k0-(sl+n)))):=.cV 0 (sl+n) hr.lx (.inr ⟨rfl,rfl⟩) (by omega) (.inr ⟨rfl,rfl⟩);have e8:(sl+n)+(sc+k0-(sl+n))=sc+k0:=by omega
      rw[e8]at hv;rw[ea];exact hv
   .cases e1;rw[lY]at e2;cases e2
   .rw[hr.lx]at e2;cases e2
end
section
variable {P:Program} {F:Array Func} {S:Nat->Bool} {K:Kz} {p:Pi} {Fp:Nat->Prop} {w:World}
theorem my (P:Program) {H:Hp} {c:Array Value} (hg:H.get a.block=some (.cells c e fz)):∀(n i:Nat) (acc:Array Value) {cs:Array Value} {H1:Hp} {R W:Nat},aA P (Go.loadCellsFrom a i n acc) H=some (cs,H1,R,W)->
 ∃l:Array Value,cs=acc++l/\l.size=n/\∀j,j<n->l[j]?=c[(a.add (i+j)).off]?
 |0,i,acc,cs,H1,R,W,h=>by
  have h:some (acc,H,0,0)=some (cs,H1,R,W):=h;simp only[Option.some.injEq,Prod.mk.injEq]at h;exact⟨#[],by simp[h.1],rfl,fun j hj=>absurd hj (Nat.not_lt_zero j)⟩
 |n+1,i,acc,cs,H1,R,W,h=>by
  simp only[Go.loadCellsFrom]at h;have h:aA P (Sem.load .plain (a.add i) fun v=>Go.loadCellsFrom a (i+1) n (acc.push v)) H=some (cs,H1,R,W):=h;simp only[aA]at h;rw[fq,hg]at h;simp only at h;split at h<;>try(cases h;done)
  split at h<;>try(cases h;done)
  rename_i v hv;obtain⟨R0,h2,_⟩:=fV h;obtain⟨l,h3,h4,h5⟩:=my P hg n (i+1) _ h2;refine⟨#[v]++l,by rw[h3];simp,by simp[h4];omega,fun j hj=>?_⟩;cases j with
  |zero=>rw[Array.getElem?_append_left (by simp),Nat.add_zero];exact hv.symm
  |succ j=>
   have:=h5 j (by omega);rw[show i+(j+1)=i+1+j by omega,<-this];simp[Array.getElem?_append]
def SD (P:Program) (K:Kz):Prop:=∀e i z,P.info? e=some i->i.zero=some z->∀u∈z.cells,K.z e u
theorem By (Y6:bc P) (hZ:SD P K) (ht:ub P ts=true) (YZ:∀t1,ts[1]?=some t1->(P.underlying t1).isSome) (t:TypeId) {cD:Array Value} (h:AR S p xs cD) {H:Hp} {H1:Hp} (e:If P ts xs H=some (v,H1,R1,W1))
 (hr:Rl P S K p H.get Fp w) (hg:P.globals.size<=H.n) (hn:∀r,H.n<=r->r<H1.n->∀r',¬p r r') (hF:∀r,(R1.testBit r=true\/W1.testBit r=true)->(H.n<=r/\r<H1.n)\/Fp r):
 ∃v' w1 q,(Builtin.append_ ts t cD).run (ac P F) w=.ok v' w1/\VR S q v v'/\Mv (fun r=>W1.testBit r=true) p H.n w q H1.n w1/\Rl P S K q H1.get (fun r=>Fp r\/(H.n<=r/\r<H1.n)) w1:=by
 unfold If at e;split at e<;>try(cases e;done)
 rename_i sT h0;split at e<;>try(cases e;done)
 rename_i b sl sc h1;split at e<;>try(cases e;done)
 rename_i x h2;split at e<;>try(cases e;done)
 rename_i el hu;split at e<;>try(cases e;done)
 rename_i i hi;split at e<;>try(cases e;done)
 rename_i n hlen;split at e<;>try(cases e;done)
 rename_i z hz;split at e<;>try(cases e;done)
 rename_i old Ha Ra Wa ea;split at e<;>try(cases e;done)
 rename_i new Hb Rb Wb eb;unfold Ie at e;cases hb:(Nat.blt sc (sl+n)&&Nat.ble ((2*(sl+n)+768)*i.bytes) (2^48)&&Nat.blt (sl+n) (2^62)&&Nat.beq z.cells.size i.size&&Nat.beq new.size (n*i.size)&&Nat.beq old.size (sl*i.size)&&new.all dv)<;>rw[hb]at e<;>simp only[cond_true,cond_false]at e
 .cases e
 simp only[Bool.and_eq_true,Nat.blt_eq]at hb;obtain⟨⟨⟨⟨⟨⟨b1,b2⟩,b3⟩,b4⟩,b5⟩,b6⟩,b7⟩:=hb;have b2:=Nat.le_of_ble_eq_true b2;have b4:=Nat.eq_of_beq_eq_true b4;have b5:=Nat.eq_of_beq_eq_true b5;have b6:=Nat.eq_of_beq_eq_true b6;obtain⟨s',Dg,hs⟩:=h.get h1;obtain⟨x',uc,hx⟩:=h.get h2;have Zb:∃b' tB,s'=.slice b' sl tB:=by cases hs<;>exact⟨_,_,rfl⟩
 obtain⟨b',tB,rfl⟩:=Zb
 have jg:H1.n=H.n+1/\R1=Ra|||Rb:=by
  unfold oZ at e;split at e
  .simp only[Option.some.injEq,Prod.mk.injEq]at e;obtain⟨rfl,rfl,rfl,rfl⟩:=e;exact⟨rfl,rfl⟩
  .rename_i a;cases lY:a.spot.isNone<;>rw[lY]at e<;>simp only[cond_true,cond_false]at e
   .cases e
   cases LH:Nat.beq sc 0<;>rw[LH]at e<;>simp only[cond_true,cond_false]at e
   .split at e<;>try(cases e;done)
    rename_i c e' fz _;cases Lh:(Nat.beq a.off 0&&Nat.beq e' el&&Nat.beq c.size (sc*i.size)&&Nat.ble fz.1 1&&Nat.beq fz.2 0&&Nat.ble P.globals.size a.block&&Nat.blt 0 i.size)<;>rw[Lh]at e<;>simp only[cond_true,cond_false]at e
    .cases e
    simp only[Option.some.injEq,Prod.mk.injEq]at e;obtain⟨rfl,rfl,rfl,rfl⟩:=e;exact⟨rfl,rfl⟩
   .simp only[Option.some.injEq,Prod.mk.injEq]at e;obtain⟨rfl,rfl,rfl,rfl⟩:=e;exact⟨rfl,rfl⟩
 obtain⟨yO,rfl⟩:=jg
 have TG:∀{size n:Nat} {x:Value} {cs:Array Value} {Ha:Hp} {R W:Nat},aA P (Builtin.firstCells size n x) H=some (cs,Ha,R,W)->(∀r,R.testBit r=true->(Ra|||Rb).testBit r=true)->(∀r,R.testBit r=true->(H.get r).isSome->∃r',p r r')->∀r,R.testBit r=true->Fp r:=by
  intro size n x cs Ha R W e1 LI hp r rH;obtain⟨rfl,rfl⟩:=RO.firstCells P size n x _ _ _ _ _ e1;have AB:=bk P _ e1;rcases hF r (.inl (LI r rH))with⟨x,y⟩|y
  .rcases AB.rd r rH with⟨u,v⟩|u
   .omega
   .obtain⟨r',nt⟩:=hp r rH u;exact absurd nt (hn r x y r')
  .exact y
 have known:∀{size n:Nat} {x x':Value} {cs:Array Value} {Ha:Hp} {R W:Nat},VR S p x x'->aA P (Builtin.firstCells size n x) H=some (cs,Ha,R,W)->∀r,R.testBit r=true->∃r',p r r':=by
  intro size n x x' cs Ha R W hx e1 r Ug
  have key:∀(n i:Nat) (a:Addr) (acc cs:Array Value) (Ha:Hp) (R W:Nat),aA P (Go.loadCellsFrom a i n acc) H=some (cs,Ha,R,W)->R.testBit r=true->r=a.block:=by
   intro n;induction n with
   |zero=>
    intro i a acc cs Ha R W e hb;have e:some (acc,H,0,0)=some (cs,Ha,R,W):=e;simp only[Option.some.injEq,Prod.mk.injEq]at e;obtain⟨_,_,rfl,_⟩:=e;simp at hb
   |succ n ih=>
    intro i a acc cs Ha R W e hb;simp only[Go.loadCellsFrom]at e;have e:aA P (Sem.load .plain (a.add i) fun v=>Go.loadCellsFrom a (i+1) n (acc.push v)) H=some (cs,Ha,R,W):=e;simp only[aA]at e;split at e<;>try(cases e;done)
    split at e<;>try(cases e;done)
    split at e<;>try(cases e;done)
    obtain⟨R0,e2,rfl⟩:=fV e;rw[Nat.testBit_or,Bool.or_eq_true,tb,fq]at hb;rcases hb with hb|hb
    .exact ih _ _ _ _ _ _ _ e2 hb
    .exact hb
  cases hx with
  |slice o sp l c g hX=>rw[key _ 0 _ _ _ _ _ _ e1 Ug];exact⟨_,g⟩
  |cV o l _ g h0 hx=>rw[key _ 0 _ _ _ _ _ _ e1 Ug];exact⟨_,g⟩
  |eR o o' c' _ g=>rw[key _ 0 _ _ _ _ _ _ e1 Ug];exact⟨_,g⟩
  |dy hl=>rw[hr.lx]at hl;cases hl
  |cU l c=>
   have e1:some (#[],H,0,0)=some (cs,Ha,R,W):=e1;simp only[Option.some.injEq,Prod.mk.injEq]at e1;obtain⟨_,_,rfl,_⟩:=e1;simp at Ug
  |string s=>
   have e1:some (_,H,0,0)=some (cs,Ha,R,W):=e1;simp only[Option.some.injEq,Prod.mk.injEq]at e1;obtain⟨_,_,rfl,_⟩:=e1;simp at Ug
  |_=>cases e1
 have F1:=TG ea (fun r h=>by rw[Nat.testBit_or,h,Bool.true_or]) fun r h _=>known hs ea r h;have F2:=TG eb (fun r h=>by rw[Nat.testBit_or,h,Bool.or_true]) fun r h _=>known hx eb r h;rw[Bx ht t h0 Dg uc hu hi YZ]
 refine we hi hz (fun u hu=>⟨yN _ _ (Y6 _ _ _ hi hz) u hu,hZ _ _ _ hi hz u hu⟩) b4 hs hx hlen b1 b2 b3 b6 b5 (fun u hu=>Array.all_eq_true'.1 b7 u hu) hr hg (fun w2 h2=>ut hr hg hs (fun b c e=>by cases e;rfl) ea F1 h2) (fun w2 h2=>ut hr hg hx (fun b c e=>by subst e;simp only[yK,Option.some.injEq]at hlen;exact hlen.symm) eb F2 h2) e
  (fun r'=>hn H.n (Nat.le_refl _) (by omega) r') (fun r h=>hF r (.inr h)) ?_
 intro a c e' fz hba ym E6 oK lY j hj;subst hba;obtain⟨l,h3,h4,h5⟩:=my P ym _ 0 #[] ea;rw[h3,Array.empty_append];have qN:j<sl*i.size:=by omega
 rw[h5 j qN];have:(a.add (0+j)).off=j:=by unfold Addr.add;split<;>simp_all
 rw[this]
end
def iX (P:Program) (S:Nat->Bool) (o:Op):Bool:=
 match o with
 |.slice .. |.convert ..=>!S 999999&&o.operands.all (gJ P S)
 |.call ⟨.builtin .append,_,ts⟩=>nE P S o&&(match ts[1]? with|some t=>(P.underlying t).isSome|none=>true)
 |o=>nE P S o
def PU:Value->Bool
 |.slice ..=>true
 |_=>false
def Ih (mx:Option Operand) (x:Value):Rs Next->Rs Next
 |some (.value (.slice (some a) l 0),H1,R,W)=>bif mx.isNone&&PU x then(match l,a.spot with|0,none=>some (.value (.slice (some ⟨a.block,a.off,some 0⟩) 0 0),H1,R,W)|_,_=>none)else some (.value (.slice (some a) l 0),H1,R,W)
 |x=>x
def yP (P:Program) (e:TypeId):Bool:=match P.info? e with
 |some i=>match i.zero with
  |some (.int .u8 (.ofNat 0))=>true
  |_=>false
 |none=>false
theorem Bz {P:Program} (h:yP P e=true):∃i,P.info? e=some i/\i.zero=some (.int .u8 0):=by
 unfold yP at h;split at h<;>try(cases h;done)
 rename_i i hi;split at h<;>try(cases h;done)
 rename_i hz;exact⟨i,hi,hz⟩
def BA (P:Program) (s d:TypeId) (x:Value) (H:Hp):Option (Rs Next):=
 match P.underlying s with
 |some .string=>match P.underlying d with
  |some (.slice e)=>match P.underlying e with
   |some (.int .u8)=>match x with
    |.string bs=>some (bif Nat.beq (LE P e) 1&&yP P e&&Nat.blt bs.size 4611686018427387904 then some (.value (.slice (some ⟨H.n,0,bif Nat.beq bs.size 0 then some 0 else none⟩) bs.size bs.size),H.push (.cells (bs.data.map fun b=>.int .u8 b.toNat) e (1,0)),0,2^H.n)else none)
    |_=>some none
   |_=>some none
  |_=>none
 |_=>none
def kX (P:Program) (r:Operand->Value) (o:Oper) (H:Hp):Rs Next:=
 bif kg r o.op then match o.op with
 |.slice _ x _ _ mx=>Ih mx (r x) (aA P (execOp r o) H)
 |.call ⟨.builtin .append,as,ts⟩=>match If P ts (as.map r) H with
  |some (v,H1,R,W)=>some (.value v,H1,R,W)
  |none=>aA P (execOp r o) H
 |.convert s d x=>match BA P s d (r x) H with
  |some y=>y
  |none=>bif oS P s d then aA P (execOp r o) H else none
 |_=>aA P (execOp r o) H
 else none
section
variable {P:Program} {F:Array Func} {S:Nat->Bool} {K:Kz} {p:Pi} {Fp:Nat->Prop} {w:World}
theorem yQ (a:Array Obj) (o:Obj) (f:Obj->Obj):(a.push o).modify a.size f=a.push (f o):=by
 apply Array.ext_getElem?;intro i;rw[Array.getElem?_modify,Array.getElem?_push,Array.getElem?_push];by_cases h:i=a.size
 .subst h;simp
 .rw[if_neg h,if_neg h,if_neg (Ne.symm h)]
theorem wh {s d:TypeId} {bs:ByteArray} (h1:P.underlying s=some .string) (h2:P.underlying d=some (.slice e)) (h3:P.underlying e=some (.int .u8)) (hz:LE P e=1) (h8:K.z e (.int .u8 0)) (Db:S 999999=false) (hbs:bs.size<4611686018427387904) {H:Hp}
 (hr:Rl P S K p H.get Fp w) (hg:P.globals.size<=H.n) (hn:∀r',¬p H.n r') (hv:v=.slice (some ⟨H.n,0,bif Nat.beq bs.size 0 then some 0 else none⟩) bs.size bs.size) {H1:Hp} (hH:H1=H.push (.cells (bs.data.map fun b=>.int .u8 b.toNat) e (1,0))):
 ∃v' w1 q,(Go.convert s d (.string bs)).run (ac P F) w=.ok v' w1/\VR S q v v'/\Mv (fun r=>(2^H.n).testBit r=true) p H.n w q H1.n w1/\Rl P S K q H1.get (fun r=>Fp r\/(H.n<=r/\r<H1.n)) w1:=by
 subst hH;let w1:World:={w with drawn:=w.drawn+1}
 let k:=w.tape w.drawn (.appendCap bs.size 0 e)%(2^63-bs.size)
 let el:Array Value:=bs.data.map fun b=>.int .u8 b.toNat
 let cells:=el++Array.replicate k (.int .u8 0)
 have oK:cells.size=el.size+k*LE P e:=by simp[cells,hz]
 have PV:el.size=bs.size:=by simp[el]
 have qo:OR S K p (.cells el e (1,0)) (.cells cells e (cells.size,cells.size+1)):=by
  refine .cg hr.lx e _ _ (by omega) (.inr ⟨fun j hj h=>by simp only at h;omega,fun h=>by rw[Db]at h;cases h⟩) (fun j u' hj b=>?_) fun j u u' a b=>?_
  .have:cells[j]?=(Array.replicate k (Value.int .u8 0))[j-el.size]?:=Array.getElem?_append_right hj;rw[this,Array.getElem?_replicate]at b;split at b
   .simp only[Option.some.injEq]at b;subst b;exact⟨⟨0,rfl⟩,h8⟩
   .cases b
  have hj:=(Array.getElem?_eq_some_iff.1 a).1;have:cells[j]?=el[j]?:=Array.getElem?_append_left hj;rw[this]at b;have:u'=u:=by rw[a]at b;exact(Option.some.inj b).symm
  subst this;have a2:(bs.data.map fun b=>Value.int .u8 b.toNat)[j]?=some u':=a;rw[Array.getElem?_map]at a2;cases hx:bs.data[j]? with
  |none=>rw[hx]at a2;cases a2
  |some y=>
   rw[hx]at a2;simp only[Option.map_some,Option.some.injEq]at a2;rw[<-a2];exact .int _ _
 obtain⟨g1,g2⟩:=(hr.heap (w2:=w1) rfl).N9 (n:=H.n) (k:=k) hn hg qo ⟨_,_,_,_,_,rfl,rfl,oK,(Nat.eq_zero_or_pos bs.size).imp (fun h=>by rw[PV];exact h) fun h=>by
  have:=Nat.mod_lt (w.tape w.drawn (.appendCap bs.size 0 e)) (show 0<2^63-bs.size by omega);show w.tape w.drawn (.appendCap bs.size 0 e)%(2^63-bs.size)+1<2^63;omega,by decide⟩ (fun m=>Hp.jB H _ m)
 have aX:∃w2,(Go.convert s d (.string bs)).run (ac P F) w=.ok (.slice (some ⟨w.heap.size,0,none⟩) bs.size (bs.size+k)) w2/\w2.heap=w.heap.push (.cells cells e (cells.size,cells.size+1)):=by
  refine⟨{w1 with heap:=w.heap.push (.cells cells e (cells.size,cells.size+1))},?_,rfl⟩;unfold Go.convert;rw[run_underlying h1,run_underlying h2];simp only;rw[run_underlying h3];simp only;unfold Conv.stringToBytes;rw[run_choose rfl];have e0:(Question.appendCap bs.size 0 e).cut (w.tape w.drawn (.appendCap bs.size 0 e))=bs.size+k:=rfl;rw[e0];have e1:bs.size+k-bs.size=k:=by omega
  rw[e1];simp only[Go.newRow,Go.newObj,Go.markStringish,Go.shape,Go.freeze,bind,Sem.bind,Pure.pure,Sem.run,World.shape?,World.freeze,cells,el];simp;show Result.ok _ (World.freeze _ _ 1)=_;unfold World.freeze;simp only[Nat.one_ne_zero,if_false];rw[yQ];rfl
 obtain⟨w2,c1,c2⟩:=aX;refine⟨_,w2,_,c1,?_,(g2.Ig (w0:=w) rfl|>.mono fun _ h=>h.elim).heap c2,(g1.heap c2).mono fun r h=>h.imp id fun⟨a,b⟩=>?_⟩
 .rw[hv];by_cases h0:bs.size=0
  .rw[h0];exact .eR 0 0 _ hr.lx (.inr ⟨rfl,rfl⟩)
  .rw[gW h0];exact .cV 0 bs.size hr.lx (.inr ⟨rfl,rfl⟩) (by omega) (.inr ⟨rfl,rfl⟩)
 .have b:r<H.n+1:=b;omega
structure Ok (P:Program) (F:Array Func) (S:Nat->Bool):Prop where
 nj:S JK=false
 ib:bc P
 dA:aI P
 mI:oT P F S
theorem uu {mx:Option Operand} {y:Rs Next} {H1:Hp} (e:Ih mx x y=some (nx,H1,R1,W1)):
 ∃PW,y=some (PW,H1,R1,W1)/\((mx.isNone&&PU x)=false/\nx=PW\/(∀a l,PW≠ .value (.slice (some a) l 0))/\nx=PW\/∃a,a.spot=none/\PW=.value (.slice (some a) 0 0)/\nx=.value (.slice (some ⟨a.block,a.off,some 0⟩) 0 0)):=by
 unfold Ih at e;split at e
 .rename_i a l H2 R2 W2;cases hb:(mx.isNone&&PU x)<;>rw[hb]at e<;>simp only[cond_true,cond_false]at e
  .simp only[Option.some.injEq,Prod.mk.injEq]at e;obtain⟨rfl,rfl,rfl,rfl⟩:=e;exact⟨_,rfl,.inl ⟨rfl,rfl⟩⟩
  .split at e
   .simp only[Option.some.injEq,Prod.mk.injEq]at e;obtain⟨rfl,rfl,rfl,rfl⟩:=e;rename_i lY;exact⟨_,rfl,.inr (.inr ⟨a,lY,rfl,rfl⟩)⟩
   .cases e
 .rename_i bC;refine⟨nx,e,.inr (.inl ⟨fun a l h=>?_,rfl⟩)⟩;subst h;exact bC _ _ _ _ _ e
theorem mN (hk:Ok P F S) (hZ:SD P K) {r r':Operand->Value} (h:qs P S p r r') (o:Oper) (ho:iX P S o.op=true) {H:Hp} {H1:Hp} (e:kX P r o H=some (nx,H1,R1,W1))
 (hr:Rl P S K p H.get Fp w) (hg:P.globals.size<=H.n) (hn:∀r,H.n<=r->r<H1.n->∀r',¬p r r') (hF:∀r,(R1.testBit r=true\/W1.testBit r=true)->(H.n<=r/\r<H1.n)\/Fp r):
 ∃th w1 q,(execOp r' o).run (ac P F) w=.ok th w1/\NX S K q nx th/\Mv (fun r=>W1.testBit r=true) p H.n w q H1.n w1/\Rl P S K q H1.get (fun r=>Fp r\/(H.n<=r/\r<H1.n)) w1:=by
 have plain:nE P S o.op=true->NJ o.op=true->kg r o.op=true->aA P (execOp r o) H=some (nx,H1,R1,W1)->∃th w1 q,(execOp r' o).run (ac P F) w=.ok th w1/\NX S K q nx th/\Mv (fun r=>W1.testBit r=true) p H.n w q H1.n w1/\Rl P S K q H1.get (fun r=>Fp r\/(H.n<=r/\r<H1.n)) w1:=fun h1 hs h2 h3=>
  jV (P:=P) (F:=F) _ (SR.execOp (P:=P) (F:=F) (S:=S) (K:=K) (N:=0) (fun _=>hk.nj) hk.ib hk.dA hk.mI h o h1 (fun _=>hs) (fun _=>h2) (fun hj=>by rw[hk.nj]at hj;cases hj) hr.ok) h3 hr hg hn hF
 unfold kX at e;cases hE:kg r o.op<;>rw[hE]at e<;>simp only[cond_true,cond_false]at e
 .cases e
 split at e
 ·
  rename_i t x lo hi mx bJ;rw[bJ]at ho hE;simp only[iX,Bool.and_eq_true,Bool.not_eq_true']at ho;obtain⟨Db,ho⟩:=ho
  have bG:∀y∈o.op.operands,gJ P S y=true:=by
   rw[bJ];intro y hy;obtain⟨j,hj,he⟩:=Array.mem_iff_getElem.1 hy;have:=Array.all_eq_true.1 ho j hj;rw[he]at this;exact this
  obtain⟨PW,e1,jx⟩:=uu e;obtain⟨th,w1,q,c1,c2,c3,c4⟩:=jV (P:=P) (F:=F) _ (SR.Dh (fun _=>Db) (P:=P) (F:=F) (S:=S) (K:=K) (N:=0) h o bJ bG (fun _=>hE) hr.ok) e1 hr hg hn hF;refine⟨th,w1,q,c1,?_,c3,c4⟩;rcases c2 with c2|⟨_,hmx,v,v',rfl,rfl,⟨b,l,c,hx⟩,a,a',l2,c',rfl,rfl,ha,lY⟩
  .rcases jx with⟨_,rfl⟩|⟨_,rfl⟩|⟨a,PX,rfl,rfl⟩
   .exact c2
   .exact c2
   .cases c2 with
    |value hv=>
     cases hv with
     |slice o sp l c g hX=>
      simp only at PX;subst PX;exact .value (.eR _ _ _ c4.lx g)
     |cV o l _ g h0 hx=>exact absurd h0 (Nat.lt_irrefl 0)
     |eR o o' c' _ g=>cases PX
     |dy hl=>rw[c4.lx]at hl;cases hl
  .rcases jx with⟨hb,rfl⟩|⟨bC,rfl⟩|⟨a2,_,e2,rfl⟩
   .rw[hmx,hx]at hb;cases hb
   .exact absurd rfl (bC _ _)
   .simp only[Next.value.injEq,Value.slice.injEq,Option.some.injEq]at e2;obtain⟨rfl,rfl,_⟩:=e2;obtain⟨b1,b2,b3⟩:=a';simp only at lY ha;subst lY;exact .value (.eR _ _ _ c4.lx ha)
 ·
  rename_i as ts bJ;rw[bJ]at ho;simp only[iX,Bool.and_eq_true]at ho;rw[<-bJ]at ho;split at e
  .rename_i v H2 R2 W2 ea;simp only[Option.some.injEq,Prod.mk.injEq]at e;obtain⟨rfl,rfl,rfl,rfl⟩:=e;have GK:=ho.1;rw[bJ]at GK;simp only[nE,rt,Bool.and_eq_true]at GK
   have ha:AR S p (as.map r) (as.map r'):=h.many fun x hx=>by
    have hm:x∈(Op.call ⟨.builtin .append,as,ts⟩).operands:=by simp[Op.operands,Call.operands,hx]
    obtain⟨j,hj,he⟩:=Array.mem_iff_getElem.1 hm;have:=Array.all_eq_true.1 GK.1 j hj;rw[he]at this;exact this
   obtain⟨v',w1,q,c1,c2,c3,c4⟩:=By (P:=P) (F:=F) hk.ib hZ GK.2 (fun t1 h1=>by have:=ho.2;rw[h1]at this;exact this) o.type ha ea hr hg hn hF;refine⟨.value v',w1,q,?_,.value c2,c3,c4⟩;unfold execOp;rw[bJ];show((resolve r' ⟨.builtin .append,as,ts⟩ o.type>>=fun d=>invoke d.target d.args):Sem Next).run (ac P F) w=_;have c3:=da (ac P F) (fun v=>(Pure.pure (Next.value v):Sem Next)) _ w c1;exact c3
  .exact plain ho.1 (by rw[bJ];rfl) hE e
 ·
  rename_i s d x bJ;rw[bJ]at ho;simp only[iX,Op.operands,Bool.and_eq_true,Bool.not_eq_true']at ho;obtain⟨Db,ho⟩:=ho;have hx:VR S p (r x) (r' x):=h.at (by simpa using ho)
  split at e
  .rename_i y hy;subst e;unfold BA at hy;split at hy<;>try(cases hy;done)
   rename_i h1;split at hy<;>try(cases hy;done)
   rename_i el h2;split at hy<;>try(cases hy;done)
   rename_i h3;split at hy<;>try(cases hy;done)
   rename_i bs hbs;simp only[Option.some.injEq]at hy;cases hz:(Nat.beq (LE P el) 1&&yP P el&&Nat.blt bs.size 4611686018427387904)<;>rw[hz]at hy<;>simp only[cond_true,cond_false]at hy
   .cases hy
   simp only[Bool.and_eq_true]at hz;obtain⟨i8,hi8,hz8⟩:=Bz hz.1.2;simp only[Option.some.injEq,Prod.mk.injEq]at hy;obtain⟨rfl,rfl,rfl,rfl⟩:=hy
   have Zc:r' x=.string bs:=by
    rw[hbs]at hx;generalize r' x=z at hx;cases hx;rfl
   obtain⟨v',w1,q,c1,c2,c3,c4⟩:=wh (P:=P) (F:=F) h1 h2 h3 (Nat.eq_of_beq_eq_true hz.1.1) (hZ _ _ _ hi8 hz8 _ (by simp[Value.cells])) Db (Nat.le_of_ble_eq_true hz.2) hr hg (fun r'=>hn _ (Nat.le_refl _) (by simp[Hp.push]) r') (v:=.slice (some ⟨H.n,0,bif Nat.beq bs.size 0 then some 0 else none⟩) bs.size bs.size) rfl (H1:=H.push (.cells (bs.data.map fun b=>.int .u8 b.toNat) el (1,0))) rfl;refine⟨.value v',w1,q,?_,.value c2,c3,c4⟩;unfold execOp;rw[bJ];show((convert s d (r' x)>>=fun v=>(Pure.pure (Next.value v):Sem Next))).run (ac P F) w=_;rw[Zc];exact da (ac P F) (fun v=>(Pure.pure (Next.value v):Sem Next)) _ w c1
  .cases hc:oS P s d<;>rw[hc]at e<;>simp only[cond_true,cond_false]at e
   .cases e
   .refine plain ?_ (by rw[bJ];rfl) hE e;rw[bJ];simp only[nE,hc,Bool.and_true];exact ho
 .rename_i h1 h2 h3;refine plain ?_ (by cases hh:o.op<;>first|rfl|exact absurd hh (h1 _ _ _ _ _)) hE e;unfold iX at ho;split at ho
  .rename_i bJ;exact absurd bJ (h1 _ _ _ _ _)
  .rename_i bJ;exact absurd bJ (h3 _ _ _)
  .rename_i bJ;exact absurd bJ (h2 _ _)
  .exact ho
end
theorem Fd {P:Program} {b:Option Addr} {yL:Nat} {cs:Array Value} {H:Hp} {R0:Nat} {H1:Hp} (h0:Ft H R0 0 H) (h:oZ P e size b yL sc cs H R0=some (v,H1,R,W)):Ft H R W H1:=by
 have jg:Ft H R0 (2^H.n) (H.push (.cells cs e (1,0))):=by
  have:=h0.trans (Ft.new H (.cells cs e (1,0)));rw[Nat.or_zero,Nat.zero_or]at this;exact this
 unfold oZ at h;split at h
 .simp only[Option.some.injEq,Prod.mk.injEq]at h;obtain⟨rfl,rfl,rfl,rfl⟩:=h;exact jg
 .rename_i a;cases hs:a.spot.isNone<;>rw[hs]at h<;>simp only[cond_true,cond_false]at h
  .cases h
  cases hz:Nat.beq sc 0<;>rw[hz]at h<;>simp only[cond_true,cond_false]at h
  .split at h<;>try(cases h;done)
   rename_i c e' fz hg;cases hb:(Nat.beq a.off 0&&Nat.beq e' e&&Nat.beq c.size (sc*size)&&Nat.ble fz.1 1&&Nat.beq fz.2 0&&Nat.ble P.globals.size a.block&&Nat.blt 0 size)<;>rw[hb]at h<;>simp only[cond_true,cond_false]at h
   .cases h
   simp only[Option.some.injEq,Prod.mk.injEq]at h;obtain⟨rfl,rfl,rfl,rfl⟩:=h;have:=(h0.trans (Ft.write (H:=H) (b:=a.block) (by rw[hg];rfl) none)).trans (Ft.new (H.put a.block none) (.cells cs e (1,0)));rw[Nat.or_zero,Nat.or_zero,Nat.zero_or,Nat.or_comm]at this;rw[Nat.or_comm]at this;rw[Nat.or_comm (2^H.n)];exact this
  .simp only[Option.some.injEq,Prod.mk.injEq]at h;obtain⟨rfl,rfl,rfl,rfl⟩:=h;exact jg
theorem LJ {P:Program} {H:Hp} {H1:Hp} (h:If P ts xs H=some (v,H1,R,W)):Ft H R W H1:=by
 unfold If at h;split at h<;>try(cases h;done)
 split at h<;>try(cases h;done)
 split at h<;>try(cases h;done)
 split at h<;>try(cases h;done)
 split at h<;>try(cases h;done)
 split at h<;>try(cases h;done)
 split at h<;>try(cases h;done)
 split at h<;>try(cases h;done)
 rename_i e1;split at h<;>try(cases h;done)
 rename_i e2;unfold Ie at h;have a1:=bk P _ e1;have a2:=bk P _ e2;obtain⟨rfl,rfl⟩:=RO.firstCells P _ _ _ _ _ _ _ _ e1;obtain⟨rfl,rfl⟩:=RO.firstCells P _ _ _ _ _ _ _ _ e2;revert h;generalize(Nat.blt _ _&&_&&_&&_&&_&&_&&_)=c;intro h;cases c<;>simp only[cond_true,cond_false]at h
 .cases h
 .exact Fd (by have:=a1.trans a2;rwa [Nat.or_zero]at this) h
theorem qO {P:Program} {r:Operand->Value} {o:Oper} {H:Hp} {H1:Hp} (e:kX P r o H=some (nx,H1,R,W)):Ft H R W H1:=by
 unfold kX at e;cases hE:kg r o.op<;>rw[hE]at e<;>simp only[cond_true,cond_false]at e
 .cases e
 split at e
 .obtain⟨PW,e1,_⟩:=uu e;exact bk P _ e1
 .split at e
  .rename_i ea;simp only[Option.some.injEq,Prod.mk.injEq]at e;obtain⟨rfl,rfl,rfl,rfl⟩:=e;exact LJ ea
  .exact bk P _ e
 .split at e
  .rename_i y hy;subst e;unfold BA at hy;split at hy<;>try(cases hy;done)
   split at hy<;>try(cases hy;done)
   split at hy<;>try(cases hy;done)
   split at hy<;>try(cases hy;done)
   simp only[Option.some.injEq]at hy;revert hy;generalize(Nat.beq (LE P _) 1&&yP P _&&Nat.blt _ 4611686018427387904)=c;intro hy;cases c<;>simp only[cond_true,cond_false]at hy
   .cases hy
   simp only[Option.some.injEq,Prod.mk.injEq]at hy;obtain⟨rfl,rfl,rfl,rfl⟩:=hy;exact Ft.new _ _
  .revert e;generalize oS P _ _=c;intro e;cases c<;>simp only[cond_true,cond_false]at e
   .cases e
   .exact bk P _ e
 .exact bk P _ e
section
variable {P:Program} {S:Nat->Bool} {K:Kz}
theorem Rl.congr {p:Pi} {Fp:Nat->Prop} {w:World} (h:Rl P S K p H1 Fp w) (e:∀r,Fp r->H2 r=H1 r):Rl P S K p H2 Fp w:=
 ⟨fun r x o y=>h.blk r x o (by rw[<-e r x];exact y),fun r s r' x y a b=>h.inj r s r' x y (by rw[<-e r x];exact a) (by rw[<-e s y];exact b),h.lt,h.xm,h.ok,h.fC,h.lx⟩
theorem Rl.sub {p:Pi} {Fp:Nat->Prop} {w:World} (h:Rl P S K p H1 Fp w) (e:∀r o,H2 r=some o->H1 r=some o):Rl P S K p H2 Fp w:=
 ⟨fun r x o y=>h.blk r x o (e r o y),fun r s r' x y a b=>h.inj r s r' x y (by obtain⟨o,ho⟩:=Option.isSome_iff_exists.1 a;rw[e r o ho];rfl) (by obtain⟨o,ho⟩:=Option.isSome_iff_exists.1 b;rw[e s o ho];rfl),h.lt,h.xm,h.ok,h.fC,h.lx⟩
theorem Mv.wide {W:Nat->Prop} {p:Pi} {m1:Nat} {w:World} (h:Mv W p n w q n1 w1) (a:m<=n) (b:n1<=m1):Mv W p m w q m1 w1:=by
 have:=h.nn;exact⟨h.le,by omega,fun r r' x=>(h.new r r' x).imp id fun⟨c,d,e⟩=>⟨by omega,by omega,e⟩,fun r k x=>(h.wd r k x).imp id fun⟨c,d⟩=>⟨by omega,by omega⟩,h.size,h.keep⟩
theorem Mv.Ii {W1 W:Nat->Prop} {p:Pi} {w:World} (h:Mv W1 p n w q n1 w1) (k:Mv W2 q n w1 s n1 w2) (h1:∀r,W1 r->W r) (h2:∀r,W2 r->W r):Mv W p n w s n1 w2:=by
 refine⟨h.le.trans k.le,h.nn,fun r r' x=>?_,fun r j x=>?_,Nat.le_trans h.size k.size,fun r' nt hW=>?_⟩
 .rcases k.new r r' x with x|⟨a1,a2,a3⟩
  .rcases h.new r r' x with x|⟨b1,b2,b3⟩
   .exact .inl x
   .exact .inr ⟨b1,b2,b3.imp id fun⟨u,c1,c2⟩=>⟨u,h1 u c1,c2⟩⟩
  .refine .inr ⟨a1,a2,?_⟩;rcases a3 with a3|⟨u,c1,c2⟩
   .exact .inl (Nat.le_trans h.size a3)
   .rcases h.new u r' c2 with y|⟨_,_,y|⟨v,d1,d2⟩⟩
    .exact .inr ⟨u,h2 u c1,y⟩
    .exact .inl y
    .exact .inr ⟨v,h1 v d1,d2⟩
 .rcases k.wd r j x with x|x
  .exact h.wd r j x
  .exact .inr x
 .rw[k.keep r' (Nat.lt_of_lt_of_le nt h.size) fun r hr x=>?_,h.keep r' nt fun r hr=>hW r (h1 r hr)];rcases h.new r r' x with y|⟨_,_,y|⟨v,d1,d2⟩⟩
  .exact hW r (h2 r hr) y
  .omega
  .exact hW v (h1 v d1) d2
theorem Rl.join {p:Pi} {h0 h1 h2:Nat->Option Obj} {F W:Nat->Prop} {w:World} (h:Rl P S K p h0 F w) (m:Mv W p n w q n1 w1) (k:Rl P S K q h1 G w1)
 (hG:∀r,W r->G r) (hF:∀r,W r->F r) (hnw:∀r,n<=r->r<n1->W r) (hn:∀r,n<=r->r<n1->∀r',¬p r r') (hW:∀r,W r->(n<=r/\r<n1)\/(h0 r).isSome) (e1:∀r,W r->h2 r=h1 r) (e0:∀r,¬W r->h2 r=h0 r):
 Rl P S K q h2 F w1:=by
 have old:∀r r',¬W r->q r r'->p r r':=fun r r' hr hq=>by
  rcases m.new r r' hq with x|⟨a,b,_⟩
  .exact x
  .exact absurd (hnw r a b) hr
 have alive:∀s r',W s->p s r'->(h0 s).isSome:=fun s r' hs hp=>by
  rcases hW s hs with⟨a,b⟩|x
  .exact absurd hp (hn s a b r')
  .exact x
 have mixed:∀r s r',W r->¬W s->F s->(h0 s).isSome->q r r'->q s r'->r=s:=fun r s r' hr hs LF hss hqr hqs=>by
  have ps:=old s r' hs hqs;rcases m.new r r' hqr with x|⟨_,_,x|⟨u,hu,hup⟩⟩
  .exact h.inj r s r' (hF r hr) LF (alive r r' hr x) hss x ps
  .have:=h.lt s r' ps;omega
  .have:=h.inj u s r' (hF u hu) LF (alive u r' hu hup) hss hup ps;exact absurd (this▸hu) hs
 refine⟨fun r KD o ho=>?_,fun r s r' KD LF a b x y=>?_,k.lt,k.xm,k.ok,k.fC,k.lx⟩
 .by_cases hr:W r
  .exact k.blk r (hG r hr) o (by rw[<-e1 r hr];exact ho)
  .rw[e0 r hr]at ho;obtain⟨r',o',a1,a2,a3,a4,a5⟩:=h.blk r KD o ho;refine⟨r',o',m.le _ _ a1,?_,a3.mono m.le,fun j hj=>a4 j ?_,a5.imp (fun⟨j,hj⟩=>⟨j,m.le.x _ _ hj⟩) id⟩
   .rw[m.keep r' (h.lt r r' a1) fun s hs hp=>hr ?_]
    .exact a2
    .have:=h.inj s r r' (hF s hs) KD (alive s r' hs hp) (by rw[ho];rfl) hp a1;exact this▸hs
   .rcases m.wd r j hj with x|⟨a,b⟩
    .exact x
    .exact absurd a1 (hn r a b r')
 .by_cases hr:W r<;>by_cases hs:W s
  .exact k.inj r s r' (hG r hr) (hG s hs) (by rw[<-e1 r hr];exact a) (by rw[<-e1 s hs];exact b) x y
  .rw[e0 s hs]at b;exact mixed r s r' hr hs LF b x y
  .rw[e0 r hr]at a;exact(mixed s r r' hs hr KD a y x).symm
  .rw[e0 r hr]at a;rw[e0 s hs]at b;exact h.inj r s r' KD LF a b (old r r' hr x) (old s r' hs y)
end
def bh (b:Frame) (tm:Array Value) (ds:List Deferred) (todo:List Item):Frame:={b with tmps:=tm,todo:=todo,defers:=ds,mode:=.run}
section
variable {P:Program} {b:Frame} {tm:Array Value} {ds:List Deferred} {k:List Item} {cs:List Frame} {w:World}
theorem bm {Uh:Frame} {jH:List Frame} {w':World} (hm:fr.mode=.run) (h:(stepG.exec P true true fr cs none w).bare=.go {frame:=Uh,callers:=jH,status:=.running,dying:=none} w'):
 step P (lone fr cs w)=.next (lone Uh jH w'):=by
 refine step_lone_go ?_;rw[<-h];obtain⟨fn,tmps,todo,ds,mode,kind,ro⟩:=fr;simp only at hm;subst hm;rfl
theorem qP:step P (lone (bh b tm ds (.code .skip::k)) cs w)=.next (lone (bh b tm ds k) cs w):=bm rfl rfl
theorem Ij {l:Nat}:step P (lone (bh b tm ds (.code (.label l)::k)) cs w)=.next (lone (bh b tm ds k) cs w):=bm rfl rfl
theorem BB:step P (lone (bh b tm ds (.inBlock id::k)) cs w)=.next (lone (bh b tm ds k) cs w):=bm rfl rfl
theorem BC:step P (lone (bh b tm ds (.inScope c::k)) cs w)=.next (lone (bh b tm ds k) cs w):=bm rfl rfl
theorem dD {x:Code}:step P (lone (bh b tm ds (.code (.seq x y)::k)) cs w)=.next (lone (bh b tm ds (.code x:: .code y::k)) cs w):=bm rfl rfl
theorem nQ:step P (lone (bh b tm ds (.code (.block id c)::k)) cs w)=.next (lone (bh b tm ds (.code c:: .inBlock id::k)) cs w):=bm rfl rfl
theorem wi:step P (lone (bh b tm ds (.code (.loop c)::k)) cs w)=.next (lone (bh b tm ds (.code c:: .inLoop c::k)) cs w):=bm rfl rfl
theorem Fe:step P (lone (bh b tm ds (.inLoop c::k)) cs w)=.next (lone (bh b tm ds (.code c:: .inLoop c::k)) cs w):=bm rfl rfl
theorem Ik:step P (lone (bh b tm ds (.code (.scope c)::k)) cs w)=.next (lone (bh b tm ds (.code c:: .inScope c::k)) cs w):=bm rfl rfl
theorem lM {c:Operand} {x:Code} {t:Bool} (h:(bh b tm ds (.code (.cond c x y)::k)).eval c=.bool t):
 step P (lone (bh b tm ds (.code (.cond c x y)::k)) cs w)=.next (lone (bh b tm ds (.code (if t then x else y)::k)) cs w):=by
 refine bm rfl ?_;unfold stepG.exec;simp only[bh]at h⊢;rw[h];rfl
theorem LK (h:exitTo id k=some k'):step P (lone (bh b tm ds (.code (.exit id)::k)) cs w)=.next (lone (bh b tm ds k') cs w):=by
 refine bm rfl ?_;rw[Go.aq.dG true rfl,h];rfl
theorem LL (h:gotoIn id k=some k'):step P (lone (bh b tm ds (.code (.goto id)::k)) cs w)=.next (lone (bh b tm ds k') cs w):=by
 refine bm rfl ?_;rw[Go.aq.dH true rfl,h];rfl
theorem il:step P (lone (bh b tm ds (.code (.region id ops false)::k)) cs w)=.next (lone (bh b tm ds (.inRegion ops (List.range ops.size)::k)) cs w):=bm rfl rfl
theorem Dv:∃t w1,w1.heap=w.heap/\step P (lone (bh b tm ds (.code (.region id ops true)::k)) cs w)=.next (lone (bh b tm ds (.inRegion ops (Region.schedule (P.follows .mixedOrders) ops t)::k)) cs w1):=by
 refine⟨(Question.order b.fn id).cut (w.tape w.drawn (.order b.fn id)),{w with drawn:=w.drawn+1},rfl,bm rfl ?_⟩;unfold stepG.exec;simp[bh,choose,Sem.run,pure,Question.forced]
theorem dE:step P (lone (bh b tm ds (.inRegion ops []::k)) cs w)=.next (lone (bh b tm ds k) cs w):=bm rfl rfl
theorem wj (b:Frame) (tm:Array Value) (ds:List Deferred) (k:List Item) (x:Operand):(bh b tm ds k).eval x=match x with
 |.tmp t=>tm.getD t undef
 |.const v=>v
 |.global g=>.pointer (some ⟨g,0,none⟩)
 |.func f=>.func (.func f) #[] #[]:=by cases x<;>rfl
def iz (tm:Array Value) (dst:Option Tmp) (v:Value):Array Value:=match dst with
 |some d=>tm.setIfInBounds d v
 |none=>tm
theorem jC {i:Nat} (v:Value) {o:Oper} (ho:ops[i]?=some o):
 (bh b tm ds (.inRegion ops (i::rest)::k)).finish v=bh b (iz tm o.dst v) ds (.inRegion ops rest::k):=by
 unfold Frame.finish bh iz;simp only[ho,Option.bind_some];cases o.dst<;>rfl
def nR:Op->Bool
 |.defer _=>false
 |_=>true
theorem wl {i:Nat} {o:Oper} (ho:ops[i]?=some o) (hw:Region.wanted o (yielded ops tm)=true) (hd:nR o.op=true):
 stepG.exec P true true (bh b tm ds (.inRegion ops (i::rest)::k)) cs none w=stepG.apply P true (bh b tm ds (.inRegion ops (i::rest)::k)) cs none (execOp (bh b tm ds (.inRegion ops (i::rest)::k)).eval o) w:=by
 have e1:(Option.map (fun x=>Region.wanted x (yielded ops tm)) ops[i]?).getD false=true:=by rw[ho];exact hw
 unfold stepG.exec;simp only[bh,e1,if_true];unfold stepG.oper;simp only[Frame.oper?,ho];cases b.roundOf with
 |none=>rfl
 |some l=>cases h:o.op<;>first|rfl|(rw[h]at hd;cases hd)
theorem mz {i:Nat} {o:Oper} (ho:ops[i]?=some o) (hw:Region.wanted o (yielded ops tm)=false):
 step P (lone (bh b tm ds (.inRegion ops (i::rest)::k)) cs w)=.next (lone (bh b (iz tm o.dst undef) ds (.inRegion ops rest::k)) cs w):=by
 refine bm rfl ?_;have e1:(Option.map (fun x=>Region.wanted x (yielded ops tm)) ops[i]?).getD false=false:=by rw[ho];exact hw
 rw[<-jC undef ho];unfold stepG.exec;simp only[bh,e1,Bool.false_eq_true,if_false];rfl
def pa (P:Program):Next->Option Frame
 |.enter f args=>some (Frame.enter P f args .normal)
 |.round l f tmps a c=>some (Frame.round l f tmps a c .normal)
 |_=>none
def LM:List Item->Bool
 |.call .. ::_=>false
 |.extern .. ::_=>false
 |_=>true
theorem iA (hc:LM fr.todo=true) {s:Sem Next} (hr:s.run P w=.ok nx w1):
 (∀v,nx=.value v->(stepG.apply P true fr cs none s w).bare=.go {frame:=fr.finish v,callers:=cs,status:=.running,dying:=none} w1)/\
 (nx=.skip->(stepG.apply P true fr cs none s w).bare=.go {frame:=fr.finish undef,callers:=cs,status:=.running,dying:=none} w1)/\
 (∀g,pa P nx=some g->(stepG.apply P true fr cs none s w).bare=.go {frame:=g,callers:=fr::cs,status:=.running,dying:=none} w1):=by
 have hk:∀(ds:List Deferred),(match fr.todo with|.call _ true _ _::_=>CallKind.wrapped|_=>.normal)=.normal:=by
  intro _;generalize fr.todo=t at hc;cases t with
  |nil=>rfl
  |cons i t=>cases i<;>first|rfl|cases hc
 have hk:=hk [];refine⟨fun v e=>?_,fun e=>?_,fun g e=>?_⟩
 .subst e;unfold stepG.apply;simp only[Sem.runT_eq,hr,if_true,GStep.bare_after];rfl
 .subst e;unfold stepG.apply;simp only[Sem.runT_eq,hr,if_true,GStep.bare_after];rfl
 .obtain⟨fn,tmps,todo,ds,mode,kind,ro⟩:=fr;simp only at hk hc;cases nx<;>simp only[pa,Option.some.injEq,reduceCtorEq]at e
  .subst e;unfold stepG.apply;simp only[Sem.runT_eq,hr,if_true,GStep.bare_after];cases todo with
   |nil=>rfl
   |cons i t=>cases i<;>first|rfl|cases hc
  .subst e;unfold stepG.apply;simp only[Sem.runT_eq,hr,if_true,GStep.bare_after];cases todo with
   |nil=>rfl
   |cons i t=>cases i<;>first|rfl|cases hc
def Ui (P:Program) (nx:Next) (fr:Frame) (cs:List Frame) (w:World) (Q:Value->World->Prop):Prop:=
 ∃g v w1,pa P nx=some g/\Steps P (lone g (fr::cs) w) (lone (fr.finish v) cs w1)/\Q v w1
end
end Go.aq
