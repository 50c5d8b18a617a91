/- A part. Conditions: none. -/
import Derived.Test.YtddlcmejelobdaaGreatDoorT04
set_option linter.all false
namespace Go.aD
variable {G W2:Nat->Prop} {H1 H2:Nat->Option Obj} {R R1 W W1 m n n1 r r' sc size sl:Nat} {a a':Addr} {c y:Code} {e t:a00} {fr:Frame} {fz:Nat×Nat} {i:TypeInfo} {k':List Item} {nx:Next} {o o' o0 o1:Obj} {ops:Array Oper} {q s:Pi} {rest:List Nat} {ts:Array a00} {v x x' z:fu} {w1 w2:nq} {xs:Array fu} {α β:Type}
inductive Tr where
 |leaf
 |node (v:Option Obj) (l r:Tr)
def Tr.get:Tr->Nat->Option Obj
 |.leaf,_=>none
 |.node v l r,n=>bif Nat.beq n 0 then v else bif Nat.beq (n%2) 1 then l.get (n/2)else r.get (n/2-1)
def Tr.set:Nat->Tr->Nat->Option Obj->Tr
 |0,t,_,_=>t
 |f+1,.leaf,n,o=>bif Nat.beq n 0 then .node o .leaf .leaf else bif Nat.beq (n%2) 1 then .node none (Tr.set f .leaf (n/2) o) .leaf else .node none .leaf (Tr.set f .leaf (n/2-1) o)
 |f+1,.node v l r,n,o=>bif Nat.beq n 0 then .node o l r else bif Nat.beq (n%2) 1 then .node v (Tr.set f l (n/2) o) r else .node v l (Tr.set f r (n/2-1) o)
def zeT (h:n=0):Nat.beq n 0=true:=by subst h;rfl
def jh (h:n≠m):Nat.beq n m=false:=by
 cases hx:Nat.beq n m with
 |false=>rfl
 |true=>exact absurd (zAN hx) h
def JS (h:n=m):Nat.beq n m=true:=by subst h;exact Nat.beq_refl n
def Tr.oD:∀(f:Nat) (t:Tr) (n:Nat) (o:Option Obj) (m:Nat),n<f->(t.set f n o).get m=if m=n then o else t.get m
 |0,_,_,_,_,h=>absurd h (zDK _)
 |f+1,t,n,o,m,h=>by
  have ih:=Tr.oD f;by_cases n0:n=0
  .subst n0;cases t<;>simp only[Tr.set,zeT,zAU]
   .by_cases hm:m=0
    .subst hm;simp[Tr.get]
    .simp only[Tr.get,jh hm,zAR,hm,zBC];cases Nat.beq (m%2) 1<;>rfl
   .by_cases hm:m=0
    .subst hm;simp[Tr.get]
    .simp only[Tr.get,jh hm,zAR,hm,zBC]
  .by_cases n1:n%2=1
   .have e1:=ih (.leaf) (n/2) o (m/2) (by omega);cases t with
    |leaf=>
     simp only[Tr.set,jh n0,zAR,JS n1,zAU];by_cases hm:m=0
     .subst hm;have:¬0=n:=by omega
      simp[Tr.get,this]
     .by_cases m1:m%2=1
      .simp only[Tr.get,jh hm,zAR,JS m1,zAU,ih _ (n/2) o (m/2) (by omega)];by_cases e:m=n
       .simp[e]
       .have:¬m/2=n/2:=by omega
        simp[e,this]
      .have:¬m=n:=by intro e;subst e;exact m1 n1
       simp only[Tr.get,jh hm,zAR,jh m1,this,zBC]
    |node v l r=>
     simp only[Tr.set,jh n0,zAR,JS n1,zAU];by_cases hm:m=0
     .subst hm;have:¬0=n:=by omega
      simp[Tr.get,this]
     .by_cases m1:m%2=1
      .simp only[Tr.get,jh hm,zAR,JS m1,zAU,ih _ (n/2) o (m/2) (by omega)];by_cases e:m=n
       .simp[e]
       .have:¬m/2=n/2:=by omega
        simp[e,this]
      .have:¬m=n:=by intro e;subst e;exact m1 n1
       simp only[Tr.get,jh hm,zAR,jh m1,this,zBC]
   .cases t with
    |leaf=>
     simp only[Tr.set,jh n0,zAR,jh n1];by_cases hm:m=0
     .subst hm;have:¬0=n:=by omega
      simp[Tr.get,this]
     .by_cases m1:m%2=1
      .have:¬m=n:=by intro e;subst e;exact n1 m1
       simp only[Tr.get,jh hm,zAR,JS m1,zAU,this,zBC]
      .simp only[Tr.get,jh hm,zAR,jh m1,ih _ (n/2-1) o (m/2-1) (by omega)];by_cases e:m=n
       .simp[e]
       .have:¬m/2-1=n/2-1:=by omega
        simp[e,this]
    |node v l r=>
     simp only[Tr.set,jh n0,zAR,jh n1];by_cases hm:m=0
     .subst hm;have:¬0=n:=by omega
      simp[Tr.get,this]
     .by_cases m1:m%2=1
      .have:¬m=n:=by intro e;subst e;exact n1 m1
       simp only[Tr.get,jh hm,zAR,JS m1,zAU,this,zBC]
      .simp only[Tr.get,jh hm,zAR,jh m1,ih _ (n/2-1) o (m/2-1) (by omega)];by_cases e:m=n
       .simp[e]
       .have:¬m/2-1=n/2-1:=by omega
        simp[e,this]
structure Hp where
 n:Nat
 t:Tr
def Hp.get (H:Hp) (r:Nat):Option Obj:=H.t.get r
def Hp.put (H:Hp) (r:Nat) (o:Option Obj):Hp:=⟨H.n,H.t.set (r+1) r o⟩
def Hp.push (H:Hp) (o:Obj):Hp:=⟨H.n+1,H.t.set (H.n+1) H.n (some o)⟩
def Hp.get_put (H:Hp) (r:Nat) (o:Option Obj) (m:Nat):(H.put r o).get m=if m=r then o else H.get m:=Tr.oD _ _ _ _ _ (zBT r)
def Hp.lA (H:Hp) (o:Obj) (m:Nat):(H.push o).get m=if m=H.n then some o else H.get m:=Tr.oD _ _ _ _ _ (zBT _)
abbrev Rs (α:Type):=Option (α×Hp×Nat×Nat)
def CG (b:Nat):Rs α->Rs α
 |some (a,H,R,W)=>some (a,H,R|||2^b,W)
 |none=>none
def CH (b:Nat):Rs α->Rs α
 |some (a,H,R,W)=>some (a,H,R,W|||2^b)
 |none=>none
def iH {b:Nat} {x:Rs α} {a:α} {H:Hp} (h:CG b x=some (a,H,R,W)):∃R0,x=some (a,H,R0,W)/\R=R0|||2^b:=by
 cases x with
 |none=>cases h
 |some y=>obtain⟨a1,H1,R1,W1⟩:=y;simp only[CG,zAB,zAH]at h;obtain⟨rfl,rfl,rfl,rfl⟩:=h;exact⟨_,rfl,rfl⟩
def jy {b:Nat} {x:Rs α} {a:α} {H:Hp} (h:CH b x=some (a,H,R,W)):∃W0,x=some (a,H,R,W0)/\W=W0|||2^b:=by
 cases x with
 |none=>cases h
 |some y=>obtain⟨a1,H1,R1,W1⟩:=y;simp only[CH,zAB,zAH]at h;obtain⟨rfl,rfl,rfl,rfl⟩:=h;exact⟨_,rfl,rfl⟩
def aG (P:un):Sem α->Hp->Rs α
 |.pure a,H=>some (a,H,0,0)
 |.load _ a k,H=>match H.get a.block with
  |some (.cells c _ _)=>match a.spot with
   |none=>match c[a.off]? with
    |some v=>CG a.block (aG P (k v) H)
    |none=>none
   |some _=>none
  |_=>none
 |.store _ a v k,H=>bif ew v then match H.get a.block with
    |some (.cells c e fz)=>match a.spot with
     |none=>bif Nat.blt a.off c.size&&!(Nat.ble fz.1 a.off&&Nat.blt a.off fz.2)then CH a.block (aG P k (H.put a.block (some (.cells (c.setIfInBounds a.off v) e fz))))else none
     |some _=>none
    |_=>none
  else none
 |.new o k,H=>CH H.n (aG P (k H.n) (H.push o))
 |.getObj r k,H=>match H.get r with
  |some (.cells ..)=>none
  |some o=>CG r (aG P (k o) H)
  |none=>none
 |.setObj r o k,H=>match H.get r with
  |some (.cells ..)=>none
  |some _=>CH r (aG P k (H.put r (some o)))
  |none=>none
 |.program k,H=>aG P (k P) H
 |.mark m k,H=>match m with
  |.noRoom=>aG P k H
  |_=>none
 |.shape ..,_|.freeze ..,_|.frozen ..,_|.choose ..,_|.sys ..,_|.halt _,_=>none
def vH {P:un}:∀(s:Sem α),eA P s->∀H,aG P s H=none:=by
 intro s;induction s with
 |pure a=>intro h;exact h.elim
 |load m a k ih=>
  intro h H;simp only[aG];split<;>try rfl
  split<;>try rfl
  split<;>try rfl
  rw[ih _ (h _)];rfl
 |store m a v k ih=>
  intro h H;simp only[aG];cases ew v<;>simp only[zAU,zAR];split<;>try rfl
  split<;>try rfl
  rw[ih h];cases(Nat.blt _ _&&_)<;>rfl
 |new o k ih=>intro h H;simp only[aG];rw[ih _ (h _)];rfl
 |shape r k ih=>intro h H;rfl
 |freeze a n k ih=>intro h H;rfl
 |frozen a k ih=>intro h H;rfl
 |getObj r k ih=>
  intro h H;simp only[aG];split<;>try rfl
  rw[ih _ (h _)];rfl
 |setObj r o k ih=>
  intro h H;simp only[aG];split<;>try rfl
  rw[ih h];rfl
 |choose q k ih=>intro h H;rfl
 |sys c k ih=>intro h H;rfl
 |program k ih=>intro h H;exact ih P h H
 |mark m k ih=>
  intro h H;simp only[aG];split
  .exact ih h H
  .rfl
 |halt x=>intro h H;rfl
def Qx (P:un) (e:a00):Nat:=((P.info? e).map (·.size)).getD 1
def Room (P:un) (o o':Obj) (k:Nat):Prop:=∃c e fz c' gA,o=.cells c e fz/\o'=.cells c' e gA/\c'.size=c.size+k*Qx P e/\(c.size=0\/k+1<2^63)/\fz≠(0,0)
structure Rl (P:un) (S:Nat->Bool) (K:Kz) (p:Pi) (H:Nat->Option Obj) (F:Nat->Prop) (w:nq):Prop where
 blk:∀r,F r->∀o,H r=some o->∃r' o',p r r'/\w.heap[r']?=some o'/\OR S K p o o'/\(∀k,p.x r k->Room P o o' k)/\((∃k,p.x r k)\/jH o o')
 inj:∀r s r',F r->F s->(H r).isSome->(H s).isSome->p r r'->p s r'->r=s
 lt:∀r r',p r r'->r'<w.heap.size
 xm:∀r k,p.x r k->∃r',p r r'
 ok:qy P p
 gY:P.globals.size<=w.heap.size
 lx:p.l=true
structure Mv (W:Nat->Prop) (p:Pi) (n:Nat) (w:nq) (q:Pi) (n1:Nat) (w1:nq):Prop where
 le:Le p q
 nn:n<=n1
 new:∀r r',q r r'->p r r'\/(n<=r/\r<n1/\(w.heap.size<=r'\/∃s,W s/\p s r'))
 Aa:∀r k,q.x r k->p.x r k\/(n<=r/\r<n1)
 size:w.heap.size<=w1.heap.size
 keep:∀r',r'<w.heap.size->(∀r,W r->¬p r r')->w1.heap[r']?=w.heap[r']?
def Mv.refl (W:Nat->Prop) (p:Pi) (n:Nat) (w:nq):Mv W p n w p n w:=⟨Le.refl p,zAA n,λ_ _ h=>.inl h,λ_ _ h=>.inl h,zAA _,λ_ _ _=>rfl⟩
def Mv.trans {W1 W:Nat->Prop} {p:Pi} {n2:Nat} {w:nq} (h:Mv W1 p n w q n1 w1) (k:Mv W2 q n1 w1 s n2 w2) (h1:∀r,W1 r->W r) (h2:∀r,W2 r->W r):Mv W p n w s n2 w2:=by
 have hn:=h.nn;have kn:=k.nn;refine⟨h.le.trans k.le,zAM h.nn k.nn,λr r' x=>?_,λr j x=>?_,zAM h.size k.size,λr' sM hW=>?_⟩
 .rcases k.new r r' x with x|⟨a1,a2,a3⟩
  .rcases h.new r r' x with x|⟨b1,b2,b3⟩
   .exact .inl x
   .exact .inr ⟨b1,by omega,b3.imp id λ⟨u,c1,c2⟩=>⟨u,h1 u c1,c2⟩⟩
  .refine .inr ⟨by omega,a2,?_⟩;rcases a3 with a3|⟨u,c1,c2⟩
   .exact .inl (zAM h.size a3)
   .rcases h.new u r' c2 with y|⟨_,_,y|⟨v,d1,d2⟩⟩
    .exact .inr ⟨u,h2 u c1,y⟩
    .exact .inl y
    .exact .inr ⟨v,h1 v d1,d2⟩
 .rcases k.Aa r j x with x|⟨a1,a2⟩
  .rcases h.Aa r j x with x|⟨b1,b2⟩
   .exact .inl x
   .exact .inr ⟨b1,by omega⟩
  .exact .inr ⟨by omega,a2⟩
 .rw[k.keep r' (zAZ sM h.size) λr hr x=>?_,h.keep r' sM λr hr=>hW r (h1 r hr)];rcases h.new r r' x with y|⟨_,_,y|⟨v,d1,d2⟩⟩
  .exact hW r (h2 r hr) y
  .omega
  .exact hW v (h1 v d1) d2
def Mv.mono {W1 W:Nat->Prop} {p:Pi} {w:nq} (h:Mv W1 p n w q n1 w1) (h1:∀r,W1 r->W r):Mv W p n w q n1 w1:=
 (Mv.refl (λ_=>False) p n w).trans h (λ_ x=>x.elim) h1
structure Ft (H:Hp) (R W:Nat) (H1:Hp):Prop where
 nn:H.n<=H1.n
 same:∀r,W.testBit r=false->H1.get r=H.get r
 wr:∀r,W.testBit r=true->(H.n<=r/\r<H1.n)\/(H.get r).isSome
 rd:∀r,R.testBit r=true->(H.n<=r/\r<H1.n)\/(H.get r).isSome
 nw:∀r,H.n<=r->r<H1.n->W.testBit r=true
def Ft.alive {H H1:Hp} (h:Ft H R W H1) (r:Nat) (x:(H1.get r).isSome):(H.n<=r/\r<H1.n)\/(H.get r).isSome:=by
 cases hw:W.testBit r with
 |false=>rw[h.same r hw]at x;exact .inr x
 |true=>exact h.wr r hw
def Ft.refl (H:Hp):Ft H 0 0 H:=⟨zAA _,λ_ _=>rfl,λr h=>by simp at h,λr h=>by simp at h,λr a b=>by omega⟩
def Ft.trans {H H1 H2:Hp} {R2 W2:Nat} (h:Ft H R1 W1 H1) (k:Ft H1 R2 W2 H2):Ft H (R1|||R2) (W1|||W2) H2:=by
 have hn:=h.nn;have kn:=k.nn;refine⟨zAM h.nn k.nn,λr x=>?_,λr x=>?_,λr x=>?_,λr a b=>?_⟩
 .rw[zAP,zGD]at x;rw[k.same r x.2,h.same r x.1]
 .rw[zAP,zBQ]at x;rcases x with x|x
  .exact(h.wr r x).imp (λ⟨a,b⟩=>⟨a,by omega⟩) id
  .rcases k.wr r x with⟨a,b⟩|y
   .exact .inl ⟨by omega,b⟩
   .exact(h.alive r y).imp (λ⟨a,b⟩=>⟨a,by omega⟩) id
 .rw[zAP,zBQ]at x;rcases x with x|x
  .exact(h.rd r x).imp (λ⟨a,b⟩=>⟨a,by omega⟩) id
  .rcases k.rd r x with⟨a,b⟩|y
   .exact .inl ⟨by omega,b⟩
   .exact(h.alive r y).imp (λ⟨a,b⟩=>⟨a,by omega⟩) id
 .rw[zAP,zBQ];rcases zDA r H1.n with c|c
  .exact .inl (h.nw r a c)
  .exact .inr (k.nw r c b)
def tb (b r:Nat):(2^b).testBit r=true↔r=b:=by rw[Nat.testBit_two_pow];simp[eq_comm]
def tbf (b r:Nat):(2^b).testBit r=false↔r≠b:=by rw[<-zEQ,tb]
def Ft.read {H:Hp} {b:Nat} (h:(H.get b).isSome):Ft H (2^b) 0 H:=
 ⟨zAA _,λ_ _=>rfl,λr x=>by simp at x,λr x=>.inr (by rw[tb]at x;subst x;exact h),λr a b=>by omega⟩
def Ft.write {H:Hp} {b:Nat} (h:(H.get b).isSome) (o:Option Obj):Ft H 0 (2^b) (H.put b o):=
 ⟨zAA _,λr x=>by rw[tbf]at x;rw[Hp.get_put,zAG x],λr x=>.inr (by rw[tb]at x;subst x;exact h),λr x=>by simp at x,λr a b=>by simp[Hp.put]at b;omega⟩
def Ft.new (H:Hp) (o:Obj):Ft H 0 (2^H.n) (H.push o):=
 ⟨by simp[Hp.push],λr x=>by rw[tbf]at x;rw[Hp.lA,zAG x],λr x=>.inl (by rw[tb]at x;subst x;simp[Hp.push]),λr x=>by simp at x,λr a b=>by rw[tb];simp[Hp.push]at b;omega⟩
def bM (P:un):∀(s:Sem α) {H:Hp} {a:α} {H1:Hp} {R W:Nat},aG P s H=some (a,H1,R,W)->Ft H R W H1:=by
 intro s;induction s with
 |pure a=>intro H b H1 R W h;simp only[aG,zAB,zAH]at h;obtain⟨rfl,rfl,rfl,rfl⟩:=h;exact Ft.refl _
 |load m a k ih=>
  intro H b H1 R W h;simp only[aG]at h;split at h<;>try(cases h;done)
  rename_i c e fz hg;split at h<;>try(cases h;done)
  split at h<;>try(cases h;done)
  obtain⟨R0,h2,rfl⟩:=iH h;have:=(Ft.read (H:=H) (b:=a.block) (by rw[hg];rfl)).trans (ih _ h2);rw[zFH,zEY]at this;exact this
 |store m a v k ih=>
  intro H b H1 R W h;simp only[aG]at h;cases hc:ew v<;>rw[hc]at h<;>simp only[zAU,zAR]at h
  .cases h
  split at h<;>try(cases h;done)
  rename_i c e fz hg;split at h<;>try(cases h;done)
  cases hb:(Nat.blt a.off c.size&&!(Nat.ble fz.1 a.off&&Nat.blt a.off fz.2))<;>rw[hb]at h<;>simp only[zAU,zAR]at h
  .cases h
  obtain⟨W0,h2,rfl⟩:=jy h;have:=(Ft.write (H:=H) (b:=a.block) (by rw[hg];rfl) _).trans (ih h2);rw[zFH,zEY]at this;exact this
 |new o k ih=>
  intro H b H1 R W h;simp only[aG]at h;obtain⟨W0,h2,rfl⟩:=jy h;have:=(Ft.new H o).trans (ih _ h2);rw[zFH,zEY]at this;exact this
 |getObj r k ih=>
  intro H b H1 R W h;simp only[aG]at h;split at h<;>try(cases h;done)
  rename_i o hg;obtain⟨R0,h2,rfl⟩:=iH h;have:=(Ft.read (H:=H) (b:=r) (by rw[hg];rfl)).trans (ih _ h2);rw[zFH,zEY]at this;exact this
 |setObj r o k ih=>
  intro H b H1 R W h;simp only[aG]at h;split at h<;>try(cases h;done)
  rename_i o hg;obtain⟨W0,h2,rfl⟩:=jy h;have:=(Ft.write (H:=H) (b:=r) (by rw[hg];rfl) _).trans (ih h2);rw[zFH,zEY]at this;exact this
 |program k ih=>intro H b H1 R W h;exact ih P h
 |mark m k ih=>
  intro H b H1 R W h;simp only[aG]at h;split at h
  .exact ih h
  .cases h
 |shape r k ih=>intro H b H1 R W h;cases h
 |freeze a n k ih=>intro H b H1 R W h;cases h
 |frozen a k ih=>intro H b H1 R W h;cases h
 |choose q k ih=>intro H b H1 R W h;cases h
 |sys c k ih=>intro H b H1 R W h;cases h
 |halt x=>intro H b H1 R W h;cases h
section
variable {P:un} {F:Array Func} {S:Nat->Bool} {K:Kz} {p:Pi} {H:Nat->Option Obj} {Fp:Nat->Prop} {w:nq}
def Rl.mono (h:Rl P S K p H Fp w) (hG:∀r,G r->Fp r):Rl P S K p H G w:=
 ⟨λr x o e=>h.blk r (hG r x) o e,λr s r' x y=>h.inj r s r' (hG r x) (hG s y),h.lt,h.xm,h.ok,h.gY,h.lx⟩
def Rl.at (h:Rl P S K p H Fp w) (hF:Fp r) (hp:p r r') (ho:H r=some o):∃o',w.heap[r']?=some o'/\OR S K p o o'/\(∀k,p.x r k->Room P o o' k)/\((∃k,p.x r k)\/jH o o'):=by
 obtain⟨r1,o',h1,h2,h3,h4⟩:=h.blk r hF o ho;rw[h.ok.one r r' r1 hp h1];exact⟨o',h2,h3,h4⟩
def OR.sj {c:Array fu} (h:OR S K p (.cells c e fz) o'):∃c' gA,o'=.cells c' e gA/\c.size<=c'.size/\(∀(i:Nat) (v v':fu),c[i]?=some v->c'[i]?=some v'->VR S p v v')/\∀i,i<c.size->gA.1<=i/\i<gA.2->fz.1<=i/\i<fz.2:=by
 cases h with
 |cells e fz hw g=>exact⟨_,_,rfl,Nat.le_of_eq g.1,g.2,λ_ _ h=>h⟩
 |cS _ e fz gA hl hz hs g=>exact⟨_,_,rfl,hl,g,λi hi x=>hz.elim (λh=>⟨by omega,by omega⟩) λh=>absurd x (h.1 i (by omega))⟩
def Rl.cell (h:Rl P S K p H Fp w) (hF:Fp a.block) (ha:jn p a a') {c:Array fu} (hg:H a.block=some (.cells c e fz)) (hs:a.spot=none) (hv:c[a.off]?=some v):
 ∃v',w.cell? a'=some v'/\VR S p v v':=by
 obtain⟨o',h2,h3,_⟩:=h.at hF ha.1 hg;obtain⟨c',gA,rfl,hl,g,_⟩:=h3.sj;have au:=(zAC.1 hv).1;have e':c'[a.off]?=some (c'[a.off]'(by omega)):=zAK (by omega);refine⟨_,?_,g _ _ _ hv e'⟩;unfold World.cell?;rw[h2];simp only;rw[<-ha.2.2,hs,<-ha.2.1];exact e'
def mh (hp:Array Obj) (i j:Nat) (f:Obj->Obj):(hp.modify i f)[j]?=if i=j then(hp[j]?).map f else hp[j]?:=by
 rw[zBS]
def Rl.upd (h:Rl P S K p H Fp w) (hF:Fp r) (hp:p r r') (hg:H r=some o0) (tS:OR S K p o o1) (CI:∀k,p.x r k->Room P o o1 k) (pr:(∃k,p.x r k)\/jH o o1)
 (hH:∀m,H2 m=if m=r then some o else H m) (hs:w2.heap.size=w.heap.size) (zZ:w2.heap[r']?=some o1) (bu:∀j,j≠r'->w2.heap[j]?=w.heap[j]?) (n:Nat):
 Rl P S K p H2 Fp w2/\Mv (λm=>m=r) p n w p n w2:=by
 have al:∀m,(H2 m).isSome->(H m).isSome:=λm x=>by
  rw[hH]at x;split at x
  .rename_i e;rw[e,hg];rfl
  .exact x
 refine⟨⟨λm hm x hx=>?_,λa b r' x y a1 b1=>h.inj a b r' x y (al a a1) (al b b1),λa b x=>by rw[hs];exact h.lt a b x,h.xm,h.ok,by rw[hs];exact h.gY,h.lx⟩,⟨Le.refl p,zAA n,λ_ _ x=>.inl x,λ_ _ x=>.inl x,Nat.le_of_eq hs.symm,λj hj hk=>bu j λe=>hk r rfl (e▸hp)⟩⟩;rw[hH]at hx;split at hx
 .rename_i e;subst e;simp only[zAB]at hx;subst hx;exact⟨r',o1,hp,zZ,tS,CI,pr⟩
 .rename_i hn;obtain⟨m',o2,b1,b2,b3,b4⟩:=h.blk m hm x hx;refine⟨m',o2,b1,?_,b3,b4⟩;rw[bu m' ?_]
  .exact b2
  .intro e;exact hn (h.inj m r m' hm hF (by rw[hx];rfl) (by rw[hg];rfl) b1 (e▸hp))
def Rl.setCell (h:Rl P S K p H Fp w) (hF:Fp a.block) (ha:jn p a a') {c:Array fu} (hg:H a.block=some (.cells c e fz)) (hs:a.spot=none) (au:a.off<c.size) (Yk:¬(fz.1<=a.off/\a.off<fz.2))
 {v':fu} (hv:VR S p v v') (hH:∀m,H2 m=if m=a.block then some (.cells (c.setIfInBounds a.off v) e fz)else H m) (n:Nat):
 (∃x,w.cell? a'=some x)/\w.frozen? a'=false/\Rl P S K p H2 Fp (w.setCell a' v')/\Mv (λr=>r=a.block) p n w p n (w.setCell a' v'):=by
 obtain⟨o',h2,h3,h4⟩:=h.at hF ha.1 hg;have h30:=h3;obtain⟨c',gA,rfl,hl,g,hz⟩:=h3.sj;have xe:=ha.2.2.symm.trans hs;have e0:=ha.2.1.symm;refine⟨?_,?_,h.upd hF ha.1 hg (o:=.cells (c.setIfInBounds a.off v) e fz) (o1:=.cells (c'.setIfInBounds a.off v') e gA) ?_ (λk hk=>?_) (h4.2.imp id λVs _ _ _ _ _ _ x y=>by cases x;cases y;simpa using Vs _ _ _ _ _ _ rfl rfl) hH (by simp[World.setCell]) ?_ (λj hj=>?_) n⟩
 .refine⟨c'[a.off]'(by omega),?_⟩;unfold World.cell?;rw[h2];simp[xe,e0]
 .unfold World.frozen?;rw[h2];simp only[e0];rw[<-zEQ];simp only[zAF,zCF];exact λx=>Yk (hz _ au x)
 .cases h30 with
  |cells e fz hw gg=>exact .cells e fz hw (gg.set _ hv)
  |cS h0 e fz gA hl hz hs gg=>
   refine .cS h0 e fz gA (by simpa using hl) (by simpa using hz) (λi x' hi Fx=>?_) λi x x' hx Fx=>?_
   .have uV:c.size<=i:=by simpa using hi
    rw[zBL,zAG (by omega)]at Fx;exact hs i x' uV Fx
   rw[zBL]at hx Fx;by_cases sL:a.off=i
   .subst sL;simp only[zBM]at hx Fx;rw[zAE au]at hx;rw[zAE (by omega)]at Fx;cases hx;cases Fx;exact hv
   .rw[zAG sL]at hx Fx;exact gg i x x' hx Fx
 .obtain⟨_,_,_,_,_,e1,e2,e3⟩:=h4.1 k hk;cases e1;cases e2;exact⟨_,_,_,_,_,rfl,rfl,by simpa using e3.1,by simpa using e3.2.1,e3.2.2⟩
 .show(w.heap.modify _ _)[a'.block]?=_;rw[mh,zAE rfl,h2];simp[xe,e0]
 .show(w.heap.modify _ _)[j]?=_;rw[mh,zAG (Ne.symm hj)]
def OR.CJ (h:OR S K p o o') (hn:∀c e fz,o≠ .cells c e fz):∀c e fz,o'≠ .cells c e fz:=by
 cases h<;>first|(intro c e fz x;cases x;done)|exact absurd rfl (hn _ _ _)
def Rl.setObj (h:Rl P S K p H Fp w) (hF:Fp r) (hp:p r r') (hg:H r=some o0) (hn:∀c e fz,o0≠ .cells c e fz) (tS:OR S K p o o1) (pr:jH o o1)
 (hH:∀m,H2 m=if m=r then some o else H m) (n:Nat):
 Rl P S K p H2 Fp {w with heap:=w.heap.setIfInBounds r' o1}/\Mv (λm=>m=r) p n w p n {w with heap:=w.heap.setIfInBounds r' o1}:=by
 obtain⟨o',h2,h3,h4⟩:=h.at hF hp hg;have au:=h.lt r r' hp;refine h.upd hF hp hg tS (λk hk=>?_) (.inr pr) hH (by simp) (by simp[au]) (λj hj=>by show(w.heap.setIfInBounds r' o1)[j]?=_;rw[zBL,zAG (Ne.symm hj)]) n;obtain⟨c,e,fz,_,_,e1,_⟩:=h4.1 k hk;exact absurd e1 (hn c e fz)
def one (p:Pi) (n n':Nat):Pi:=⟨λr r'=>p r r'\/(r=n/\r'=n'),p.x,p.l⟩
def one_le (p:Pi) (n n':Nat):Le p (one p n n'):=⟨λ_ _ h=>.inl h,λ_ _ h=>h,λ_ _ _ _ h=>h,rfl⟩
def Rl.push (h:Rl P S K p H Fp w) (hn:∀r',¬p n r') (hg:P.globals.size<=n) (tS:OR S K p o o1) (pr:jH o o1) (hH:∀m,H2 m=if m=n then some o else H m):
 Rl P S K (one p n w.heap.size) H2 (λr=>Fp r\/r=n) {w with heap:=w.heap.push o1}/\Mv (λ_=>False) p n w (one p n w.heap.size) (n+1) {w with heap:=w.heap.push o1}:=by
 have hle:=one_le p n w.heap.size;have hx:∀k,¬p.x n k:=λk hk=>let⟨r',h1⟩:=h.xm n k hk;hn r' h1
 have MQ:∀j,j<w.heap.size->(w.heap.push o1)[j]?=w.heap[j]?:=λj hj=>by rw[zBK,zAG (by omega)]
 refine⟨⟨λr hr x MS=>?_,λr s r' hr hs a b x y=>?_,λr r' x=>?_,λr k x=>let⟨r',y⟩:=h.xm r k x;⟨r',.inl y⟩,⟨λr r' s s' x y hr=>?_,λr r' x=>?_,λr r' s' x y=>?_,λhl=>absurd (h.lx.symm.trans hl) (by decide)⟩,by have:=h.gY;show _<=(w.heap.push o1).size;simp;omega,h.lx⟩,⟨hle,by omega,λr r' x=>?_,λr k x=>.inl x,by show _<=(w.heap.push o1).size;simp,λr' sM _=>MQ r' sM⟩⟩
 .rw[hH]at MS;split at MS
  .rename_i e;subst e;simp only[zAB]at MS;subst MS;exact⟨w.heap.size,o1,.inr ⟨rfl,rfl⟩,by show(w.heap.push o1)[_]?=_;simp,tS.mono hle,λk hk=>absurd hk (hx k),.inr pr⟩
  .rename_i bu;obtain⟨r',o',b1,b2,b3,b4⟩:=h.blk r (hr.resolve_right bu) x MS;exact⟨r',o',.inl b1,by show(w.heap.push o1)[_]?=_;rw[MQ r' (h.lt r r' b1)];exact b2,b3.mono hle,b4⟩
 .rcases x with x|⟨rfl,rfl⟩<;>rcases y with y|⟨rfl,e⟩
  .have h1:r≠n:=λe=>hn r' (e▸x);have h2:s≠n:=λe=>hn r' (e▸y);rw[hH,zAG h1]at a;rw[hH,zAG h2]at b;exact h.inj r s r' (hr.resolve_right h1) (hs.resolve_right h2) a b x y
  .have:=h.lt _ _ x;omega
  .have:=h.lt _ _ y;omega
  .rfl
 .show r'<(w.heap.push o1).size;rcases x with x|⟨_,rfl⟩
  .have:=h.lt r r' x;simp;omega
  .simp
 .rcases x with x|⟨rfl,rfl⟩
  .rcases y with y|⟨rfl,rfl⟩
   .exact h.ok.inj r r' s s' x y hr
   .have h1:=h.lt r r' x;exact⟨λe=>absurd (hr h.lx) (by omega),λe=>by omega⟩
  .exact absurd (hr h.lx) (by omega)
 .rcases x with x|⟨rfl,rfl⟩
  .exact h.ok.fix r r' x
  .have:=h.gY;omega
 .rcases x with x|⟨rfl,rfl⟩
  .rcases y with y|⟨e,_⟩
   .exact h.ok.one r r' s' x y
   .exact absurd x (e▸hn r')
  .rcases y with y|⟨_,rfl⟩
   .exact absurd y (hn s')
   .rfl
 .rcases x with x|⟨rfl,rfl⟩
  .exact .inl x
  .exact .inr ⟨zAA _,by omega,.inl (zAA _)⟩
end
section
variable {P:un} {F:Array Func} {S:Nat->Bool} {K:Kz}
def mi {Q:Pi->α->β->Prop}:∀(s:Sem α) {s':Sem β} {p:Pi},uu P F S K 0 Q s s' p->∀{H:Hp} {a:α} {H1:Hp} {R1 W1:Nat} {Fp:Nat->Prop} {w:nq},
 aG P s H=some (a,H1,R1,W1)->Rl P S K p H.get Fp w->P.globals.size<=H.n->(∀r,H.n<=r->r<H1.n->∀r',¬p r r')->(∀r,(R1.testBit r=true\/W1.testBit r=true)->(H.n<=r/\r<H1.n)\/Fp r)->
 ∃b w1 q,s'.run (ai P F) w=.ok b w1/\Q q a b/\Mv (λr=>W1.testBit r=true) p H.n w q H1.n w1/\Rl P S K q H1.get (λr=>Fp r\/(H.n<=r/\r<H1.n)) w1:=by
 intro s;induction s with
 |pure a=>
  intro s' p h H a1 H1 R1 W1 Fp w e hr hg hn hF;simp only[aG,zAB,zAH]at e;obtain⟨rfl,rfl,rfl,rfl⟩:=e;cases s'<;>first|exact⟨_,w,p,rfl,h,Mv.refl _ _ _ _,hr.mono λr x=>x.resolve_right (by omega)⟩|exact h.elim
 |load m a k ih=>
  intro s' p h H a1 H1 R1 W1 Fp w e hr hg hn hF;cases s'<;>first|exact h.elim|skip
  rename_i m' a' k';obtain⟨rfl,rfl,ha,hk⟩:=h;have ES:=bM P _ e;simp only[aG]at e;split at e<;>try(cases e;done)
  rename_i c ty fz BE;split at e<;>try(cases e;done)
  rename_i oR;split at e<;>try(cases e;done)
  rename_i v hv;obtain⟨R0,e2,rfl⟩:=iH e;have MT:Fp a.block:=(hF a.block (.inl (by rw[zAP,(tb _ _).2 rfl,zBZ]))).resolve_left λx=>hn _ x.1 x.2 _ ha.1;obtain⟨v',h1,h2⟩:=hr.cell MT ha BE oR hv;obtain⟨b,w1,q,c1,c2,c3,c4⟩:=ih v (hk v v' h2) e2 hr hg hn λr x=>hF r (x.imp (λy=>by rw[zAP,y,zDW]) id);exact⟨b,w1,q,by simp only[Sem.run,h1];exact c1,c2,c3,c4⟩
 |store m a v k ih=>
  intro s' p h H a1 H1 R1 W1 Fp w e hr hg hn hF;cases s'<;>first|exact h.elim|skip
  rename_i m' a' v' k';obtain⟨rfl,rfl,ha,hv,hk⟩:=h;have ES:=bM P _ e;simp only[aG]at e;cases Hu:ew v<;>rw[Hu]at e<;>simp only[zAU,zAR]at e
  .cases e
  split at e<;>try(cases e;done)
  rename_i c ty fz BE;split at e<;>try(cases e;done)
  rename_i oR;cases hb:(Nat.blt a.off c.size&&!(Nat.ble fz.1 a.off&&Nat.blt a.off fz.2))<;>rw[hb]at e<;>simp only[zAU,zAR]at e
  .cases e
  obtain⟨W0,e2,rfl⟩:=jy e;simp only[zAF,zCO,Bool.and_eq_false_iff,Nat.blt_eq]at hb
  have Yk:¬(fz.1<=a.off/\a.off<fz.2):=by
   rintro⟨x,y⟩;rcases hb.2 with z|z
   .rw[<-zEQ,Nat.ble_eq]at z;exact z x
   .rw[<-zEQ,Nat.blt_eq]at z;exact z y
  have MT:Fp a.block:=(hF a.block (.inr (by rw[zAP,(tb _ _).2 rfl,zBZ]))).resolve_left λx=>hn _ x.1 x.2 _ ha.1;obtain⟨⟨x,h1⟩,h2,h3,h4⟩:=hr.setCell MT ha BE oR hb.1 Yk hv (λm=>Hp.get_put H a.block _ m) H.n;obtain⟨b,w1,q,c1,c2,c3,c4⟩:=ih hk e2 h3 hg hn λr x=>hF r (x.imp id λy=>by rw[zAP,y,zDW]);refine⟨b,w1,q,?_,c2,h4.trans c3 (λr x=>by subst x;rw[zAP,(tb _ _).2 rfl,zBZ]) (λr x=>by rw[zAP,x,zDW]),c4⟩;have UU:ew v'=true:=hv.ew Hu;cases v'<;>first|(cases UU;done)|(simp only[Sem.run,h1,h2];exact c1)
 |new o k ih=>
  intro s' p h H a1 H1 R1 W1 Fp w e hr hg hn hF;cases s'<;>first|exact h.elim|skip
  rename_i o' k';obtain⟨ho,Vs,hk⟩:=h;have ES:=bM P _ e;simp only[aG]at e;obtain⟨W0,e2,rfl⟩:=jy e;have zeU:=bM P _ e2;have Ps:H.n+1<=H1.n:=zeU.nn;obtain⟨h3,h4⟩:=hr.push (n:=H.n) (hn H.n (zAA _) (by omega)) hg ho (Vs hr.lx) (λm=>Hp.lA H o m)
  obtain⟨b,w1,q,c1,c2,c3,c4⟩:=ih H.n (hk H.n w.heap.size _ (one_le _ _ _) h3.ok (.inr ⟨rfl,rfl⟩) (zAJ _) (λk hx=>by
   obtain⟨r',sM⟩:=hr.xm _ k hx;exact hn H.n (zAA _) (by omega) r' sM)) e2 h3 (by show _<=H.n+1;omega) (λr x y r' z=>by
   have x:H.n+1<=r:=x;rcases z with z|⟨z,_⟩
   .exact hn r (by omega) y r' z
   .omega) (λr x=>by
   rcases hF r (x.imp id λy=>by rw[zAP,y,zDW])with⟨y,z⟩|y
   .by_cases e:r=H.n
    .exact .inr (.inr e)
    .exact .inl ⟨by show H.n+1<=r;omega,z⟩
   .exact .inr (.inl y))
  refine⟨b,w1,q,c1,c2,(h4.mono (W:=λr=>r=H.n) λ_ x=>x.elim).trans c3 (λr x=>by subst x;rw[zAP,(tb _ _).2 rfl,zBZ]) (λr x=>by rw[zAP,x,zDW]),c4.mono λr x=>?_⟩;rcases x with x|⟨x,y⟩
  .exact .inl (.inl x)
  .by_cases e:r=H.n
   .exact .inl (.inr e)
   .exact .inr ⟨by show H.n+1<=r;omega,y⟩
 |getObj r k ih=>
  intro s' p h H a1 H1 R1 W1 Fp w e hr hg hn hF;cases s'<;>first|exact h.elim|skip
  rename_i r' k';obtain⟨hp,hk⟩:=h;simp only[aG]at e;split at e<;>try(cases e;done)
  rename_i o TC BE;obtain⟨R0,e2,rfl⟩:=iH e;have MT:=(hF r (.inl (by rw[zAP,(tb _ _).2 rfl,zBZ]))).resolve_left λx=>hn _ x.1 x.2 _ hp;obtain⟨o',h2,h3,_⟩:=hr.at MT hp BE;have VD:=h3.CJ λc e fz x=>TC c e fz x;obtain⟨b,w1,q,c1,c2,c3,c4⟩:=ih o (hk o o' h3) e2 hr hg hn λr x=>hF r (x.imp (λy=>by rw[zAP,y,zDW]) id);refine⟨b,w1,q,?_,c2,c3,c4⟩;simp only[Sem.run,h2];cases o'<;>first|exact absurd rfl (VD _ _ _)|exact c1
 |setObj r o k ih=>
  intro s' p h H a1 H1 R1 W1 Fp w e hr hg hn hF;cases s'<;>first|exact h.elim|skip
  rename_i r' o' k';obtain⟨hp,ho,Vs,hk⟩:=h;simp only[aG]at e;split at e<;>try(cases e;done)
  rename_i o0 TC BE;obtain⟨W0,e2,rfl⟩:=jy e;have MT:=(hF r (.inr (by rw[zAP,(tb _ _).2 rfl,zBZ]))).resolve_left λx=>hn _ x.1 x.2 _ hp;obtain⟨o1,h2,h3,_⟩:=hr.at MT hp BE;have VD:=h3.CJ λc e fz x=>TC c e fz x;obtain⟨h5,h6⟩:=hr.setObj MT hp BE (λc e fz x=>TC c e fz x) ho (Vs hr.lx) (λm=>Hp.get_put H r _ m) H.n;obtain⟨b,w1,q,c1,c2,c3,c4⟩:=ih hk e2 h5 hg hn λr x=>hF r (x.imp id λy=>by rw[zAP,y,zDW]);refine⟨b,w1,q,?_,c2,h6.trans c3 (λr x=>by subst x;rw[zAP,(tb _ _).2 rfl,zBZ]) (λr x=>by rw[zAP,x,zDW]),c4⟩;simp only[Sem.run,h2];cases o1<;>first|exact absurd rfl (VD _ _ _)|exact c1
 |program k ih=>
  intro s' p h H a1 H1 R1 W1 Fp w e hr hg hn hF;rcases h with h|⟨k',rfl,h⟩
  .have e:aG P (k P) H=some (a1,H1,R1,W1):=e;rcases h with⟨_,h⟩|⟨h,_⟩
   .rw[vH (k P) h]at e;cases e
   .rw[hr.lx]at h;cases h
  .exact ih P h e hr hg hn hF
 |mark m k ih=>
  intro s' p h H a1 H1 R1 W1 Fp w e hr hg hn hF;simp only[aG]at e;split at e
  .rcases h with⟨_,h⟩|(⟨_,h⟩|⟨h,_⟩)|⟨_,k',rfl,hk⟩
   .exact absurd rfl h
   .rw[vH k h]at e;cases e
   .rw[hr.lx]at h;cases h
   .exact ih hk e hr hg hn hF
  .cases e
 |shape r k ih=>intro s' p h H a1 H1 R1 W1 Fp w e;cases e
 |freeze a n k ih=>intro s' p h H a1 H1 R1 W1 Fp w e;cases e
 |frozen a k ih=>intro s' p h H a1 H1 R1 W1 Fp w e;cases e
 |choose q k ih=>intro s' p h H a1 H1 R1 W1 Fp w e;cases e
 |sys c k ih=>intro s' p h H a1 H1 R1 W1 Fp w e;cases e
 |halt x=>intro s' p h H a1 H1 R1 W1 Fp w e;cases e
end
section
variable {P:un} {F:Array Func} {S:Nat->Bool} {K:Kz} {p:Pi} {H:Nat->Option Obj} {Fp:Nat->Prop} {w:nq}
def Rl.kill (h:Rl P S K p H Fp w) {s:Nat} (hH:∀m,H2 m=if m=s then none else H m):Rl P S K p H2 Fp w:=by
 have al:∀m,(H2 m).isSome->(H m).isSome/\m≠s:=λm x=>by
  rw[hH]at x;split at x
  .cases x
  .rename_i e;exact⟨x,e⟩
 refine⟨λr hr o ho=>?_,λr s r' x y a b=>h.inj r s r' x y (al r a).1 (al s b).1,h.lt,h.xm,h.ok,h.gY,h.lx⟩;rw[hH]at ho;split at ho
 .cases ho
 .exact h.blk r hr o ho
def JT (p:Pi) (n n' k:Nat):Pi:=⟨λr r'=>p r r'\/(r=n/\r'=n'),λr j=>p.x r j\/(r=n/\j=k),p.l⟩
def Io (p:Pi) (n n' k:Nat) (hn:∀r',¬p n r'):Le p (JT p n n' k):=⟨λ_ _ h=>.inl h,λ_ _ h=>.inl h,λr r' j a x=>x.resolve_right λ⟨e,_⟩=>hn r' (e▸a),rfl⟩
def Rl.TD (h:Rl P S K p H Fp w) (hn:∀r',¬p n r') (hg:P.globals.size<=n) {k:Nat} (tS:OR S K p o o1) (hk:Room P o o1 k) (hH:∀m,H2 m=if m=n then some o else H m):
 Rl P S K (JT p n w.heap.size k) H2 (λr=>Fp r\/r=n) {w with heap:=w.heap.push o1}/\Mv (λ_=>False) p n w (JT p n w.heap.size k) (n+1) {w with heap:=w.heap.push o1}:=by
 have hle:=Io p n w.heap.size k hn;have hx:∀j,¬p.x n j:=λj hj=>let⟨r',h1⟩:=h.xm n j hj;hn r' h1
 have MQ:∀j,j<w.heap.size->(w.heap.push o1)[j]?=w.heap[j]?:=λj hj=>by rw[zBK,zAG (by omega)]
 refine⟨⟨λr hr o' ho=>?_,λr s r' hr hs a b x y=>?_,λr r' x=>?_,λr j x=>?_,⟨λr r' s s' x y hr=>?_,λr r' x=>?_,λr r' s' x y=>?_,λhl=>absurd (h.lx.symm.trans hl) (by decide)⟩,by have:=h.gY;show _<=(w.heap.push o1).size;simp;omega,h.lx⟩,⟨hle,by omega,λr r' x=>?_,λr j x=>?_,by show _<=(w.heap.push o1).size;simp,λr' sM _=>MQ r' sM⟩⟩
 .rw[hH]at ho;split at ho
  .rename_i e;subst e;simp only[zAB]at ho;subst ho
   exact⟨w.heap.size,o1,.inr ⟨rfl,rfl⟩,by show(w.heap.push o1)[_]?=_;simp,tS.mono hle,λj hj=>by
    rcases hj with hj|⟨_,rfl⟩
    .exact absurd hj (hx j)
    .exact hk,.inl ⟨k,.inr ⟨rfl,rfl⟩⟩⟩
  .rename_i bu;obtain⟨r',o2,b1,b2,b3,b4,b5⟩:=h.blk r (hr.resolve_right bu) o' ho;exact⟨r',o2,.inl b1,by show(w.heap.push o1)[_]?=_;rw[MQ r' (h.lt r r' b1)];exact b2,b3.mono hle,λj hj=>b4 j (hj.resolve_right λx=>bu x.1),b5.imp (λ⟨j,hj⟩=>⟨j,.inl hj⟩) id⟩
 .rcases x with x|⟨rfl,rfl⟩<;>rcases y with y|⟨rfl,e⟩
  .have h1:r≠n:=λe=>hn r' (e▸x);have h2:s≠n:=λe=>hn r' (e▸y);rw[hH,zAG h1]at a;rw[hH,zAG h2]at b;exact h.inj r s r' (hr.resolve_right h1) (hs.resolve_right h2) a b x y
  .have:=h.lt _ _ x;omega
  .have:=h.lt _ _ y;omega
  .rfl
 .show r'<(w.heap.push o1).size;rcases x with x|⟨_,rfl⟩
  .have:=h.lt r r' x;simp;omega
  .simp
 .rcases x with x|⟨rfl,_⟩
  .obtain⟨r',y⟩:=h.xm r j x;exact⟨r',.inl y⟩
  .exact⟨_,.inr ⟨rfl,rfl⟩⟩
 .rcases x with x|⟨rfl,rfl⟩
  .rcases y with y|⟨rfl,rfl⟩
   .exact h.ok.inj r r' s s' x y hr
   .have h1:=h.lt r r' x;exact⟨λe=>absurd (hr h.lx) (by omega),λe=>by omega⟩
  .exact absurd (hr h.lx) (by omega)
 .rcases x with x|⟨rfl,rfl⟩
  .exact h.ok.fix r r' x
  .have:=h.gY;omega
 .rcases x with x|⟨rfl,rfl⟩
  .rcases y with y|⟨e,_⟩
   .exact h.ok.one r r' s' x y
   .exact absurd x (e▸hn r')
  .rcases y with y|⟨_,rfl⟩
   .exact absurd y (hn s')
   .rfl
 .rcases x with x|⟨rfl,rfl⟩
  .exact .inl x
  .exact .inr ⟨zAA _,by omega,.inl (zAA _)⟩
 .rcases x with x|⟨rfl,_⟩
  .exact .inl x
  .exact .inr ⟨zAA _,by omega⟩
def Rl.reuse (h:Rl P S K p H Fp w) {s:Nat} (hn:∀r',¬p n r') (hg:P.globals.size<=n) (hgs:P.globals.size<=s) (Qy:Fp s) (rQ:p s r') (hs:(H s).isSome) {k:Nat} (tS:OR S K p o o1) (hk:Room P o o1 k)
 (hH:∀m,H2 m=if m=n then some o else if m=s then none else H m) (cB:w2.heap.size=w.heap.size) (zZ:w2.heap[r']?=some o1) (bu:∀j,j≠r'->w2.heap[j]?=w.heap[j]?):
 Rl P S K (JT p n r' k) H2 (λr=>Fp r\/r=n) w2/\Mv (λm=>m=s) p n w (JT p n r' k) (n+1) w2:=by
 have hle:=Io p n r' k hn;have Bz:n≠s:=λe=>hn r' (e▸rQ)
 have old:∀r x,p r x->(H2 r).isSome->r≠n/\r≠s/\(H r).isSome:=λr x hp al=>by
  have h1:r≠n:=λe=>hn x (e▸hp);rw[hH,zAG h1]at al;split at al
  .cases al
  .rename_i h2;exact⟨h1,h2,al⟩
 refine⟨⟨λr hr o' ho=>?_,λr t x hr ht a b y z=>?_,λr x y=>?_,λr j x=>?_,⟨λa b c d x y hr=>?_,λa b x=>?_,λa b c x y=>?_,λhl=>absurd (h.lx.symm.trans hl) (by decide)⟩,by rw[cB];exact h.gY,h.lx⟩,⟨hle,by omega,λa b x=>?_,λa j x=>?_,Nat.le_of_eq cB.symm,λj hj hw=>bu j λe=>hw s rfl (e▸rQ)⟩⟩
 .rw[hH]at ho;split at ho
  .rename_i e;subst e;simp only[zAB]at ho;subst ho;refine⟨r',o1,.inr ⟨rfl,rfl⟩,zZ,tS.mono hle,λj hj=>?_,.inl ⟨k,.inr ⟨rfl,rfl⟩⟩⟩;rcases hj with hj|⟨_,rfl⟩
   .obtain⟨x,y⟩:=h.xm r j hj;exact absurd y (hn x)
   .exact hk
  .rename_i e;split at ho
   .cases ho
   .rename_i e2;obtain⟨r1,o2,b1,b2,b3,b4,b5⟩:=h.blk r (hr.resolve_right e) o' ho;refine⟨r1,o2,.inl b1,?_,b3.mono hle,λj hj=>?_,b5.imp (λ⟨j,hj⟩=>⟨j,.inl hj⟩) id⟩
    .rw[bu r1 ?_]
     .exact b2
     .intro e3;exact e2 (h.inj r s r1 (hr.resolve_right e) Qy (by rw[ho];rfl) hs b1 (e3▸rQ))
    .rcases hj with hj|⟨rfl,_⟩
     .exact b4 j hj
     .exact absurd rfl e
 .rcases y with y|⟨rfl,rfl⟩<;>rcases z with z|⟨rfl,e⟩
  .obtain⟨a1,a2,a3⟩:=old r x y a;obtain⟨b1,b2,b3⟩:=old t x z b;exact h.inj r t x (hr.resolve_right a1) (ht.resolve_right b1) a3 b3 y z
  .obtain⟨a1,a2,a3⟩:=old r x y a;exact absurd (h.inj r s x (hr.resolve_right a1) Qy a3 hs y (e▸rQ)) a2
  .obtain⟨a1,a2,a3⟩:=old t x z b;exact absurd (h.inj t s x (ht.resolve_right a1) Qy a3 hs z rQ) a2
  .rfl
 .rw[cB];rcases y with y|⟨_,rfl⟩
  .exact h.lt r x y
  .exact h.lt s x rQ
 .rcases x with x|⟨rfl,_⟩
  .obtain⟨y,z⟩:=h.xm r j x;exact⟨y,.inl z⟩
  .exact⟨_,.inr ⟨rfl,rfl⟩⟩
 .rcases x with x|⟨rfl,rfl⟩
  .rcases y with y|⟨rfl,rfl⟩
   .exact h.ok.inj a b c d x y hr
   .refine⟨λe=>absurd (hr h.lx) (by omega),λe=>?_⟩;have:=(h.ok.inj a b s d x rQ hr).2 e;have:=hr h.lx;omega
  .exact absurd (hr h.lx) (by omega)
 .rcases x with x|⟨rfl,rfl⟩
  .exact h.ok.fix a b x
  .have:=h.ok.fix s b rQ;omega
 .rcases x with x|⟨rfl,rfl⟩
  .rcases y with y|⟨e,_⟩
   .exact h.ok.one a b c x y
   .exact absurd x (e▸hn b)
  .rcases y with y|⟨_,rfl⟩
   .exact absurd y (hn c)
   .rfl
 .rcases x with x|⟨rfl,rfl⟩
  .exact .inl x
  .exact .inr ⟨zAA _,by omega,.inr ⟨s,rfl,rQ⟩⟩
 .rcases x with x|⟨rfl,_⟩
  .exact .inl x
  .exact .inr ⟨zAA _,by omega⟩
def vI (Q:un):∀(vs:List fu) (a:Addr) (i:Nat) (w:nq) (c:Array fu) (e:a00) (fz:Nat×Nat),w.heap[a.block]?=some (.cells c e fz)->a.spot=none->a.off+i+vs.length<=c.size->
 (∀j,j<c.size->¬(fz.1<=j/\j<fz.2))->(∀v∈vs,ew v=true)->
 ∃w2 c2,(Go.storeCells a vs i).run Q w=.ok () w2/\w2.heap.size=w.heap.size/\(∀j,j≠a.block->w2.heap[j]?=w.heap[j]?)/\w2.heap[a.block]?=some (.cells c2 e fz)/\c2.size=c.size/\
  (∀j,j<a.off+i->c2[j]?=c[j]?)/\(∀j,j<vs.length->c2[a.off+i+j]?=vs[j]?)/\∀j,a.off+i+vs.length<=j->c2[j]?=c[j]?:=by
 intro vs;induction vs with
 |nil=>intro a i w c e fz h1 h2 h3 h4 h5;exact⟨w,c,rfl,rfl,λ_ _=>rfl,h1,rfl,λ_ _=>rfl,λj hj=>absurd hj (zDK j),λ_ _=>rfl⟩
 |cons v vs ih=>
  intro a i w c e fz h1 h2 h3 h4 h5;simp only[zBV]at h3;have JQ:(a.add i).off=a.off+i:=by unfold Addr.add;split<;>simp_all
  have oR:=qF a i h2;have Yl:=gR a i
  have hc:w.cell? (a.add i)=some (c[a.off+i]'(by omega)):=by
   unfold World.cell?;rw[Yl,h1];simp only[oR,Option.isSome_none,zAL,zBC,JQ];exact zAK (by omega)
  have hf:w.frozen? (a.add i)=false:=by
   unfold World.frozen?;rw[Yl,h1];simp only[JQ];rw[<-zEQ];simp only[zAF,zCF];exact h4 _ (by omega)
  have gE:(w.setCell (a.add i) v).heap[a.block]?=some (.cells (c.setIfInBounds (a.off+i) v) e fz):=by
   show(w.heap.modify _ _)[a.block]?=_;rw[mh,zAE Yl,h1];simp[oR,JQ]
  obtain⟨w2,c2,g1,g2,g3,g4,g5,g6,g7,g8⟩:=ih a (i+1) (w.setCell (a.add i) v) _ e fz gE h2 (by simp;omega) (by simpa using h4) λx hx=>h5 x (by simp[hx]);refine⟨w2,c2,?_,by rw[g2];simp[World.setCell],λj hj=>?_,g4,by rw[g5];simp,λj hj=>?_,λj hj=>?_,λj hj=>?_⟩
  .simp only[Go.storeCells];show(Sem.store .plain (a.add i) v _).run Q w=_;have hv:=h5 v (by simp);cases v<;>first|(cases hv;done)|(simp only[Sem.run,hc,hf];exact g1)
  .rw[g3 j hj];show(w.heap.modify _ _)[j]?=_;rw[mh,zAG (by rw[Yl];exact Ne.symm hj)]
  .rw[g6 j (by omega),zBL,zAG (by omega)]
  .cases j with
   |zero=>rw[zCH,g6 (a.off+i) (by omega),zBL,zAE rfl,zAE (by omega)];rfl
   |succ j=>
    have:=g7 j (by simpa using hj);rw[show a.off+i+(j+1)=a.off+(i+1)+j by omega,this];rfl
  .rw[zBV]at hj;rw[g8 j (by omega),zBL,zAG (by omega)]
end
def FQ {c:Nat} (h:c<n):Builtin.nextslicecap n c<=2*n+768:=by
 unfold Builtin.nextslicecap;split
 .omega
 .split
  .omega
  .have:∀(r c:Nat),c<n+(n+768)/4+1->Builtin.growBy n r c<=2*n+768:=by
    intro r;induction r with
    |zero=>intro c hc;simp only[Builtin.growBy];omega
    |succ r ih=>
     intro c hc;simp only[Builtin.growBy];split
     .omega
     .exact ih _ (by omega)
   exact this 4 c (by omega)
def RO (P:un) (s:Sem α):Prop:=∀H a H1 R W,aG P s H=some (a,H1,R,W)->H1=H/\W=0
def RO.pure {P:un} (a:α):RO P (Pure.pure a:Sem α):=λH b H1 R W h=>by
 have h:some (a,H,0,0)=some (b,H1,R,W):=h;simp only[zAB,zAH]at h;exact⟨h.2.1.symm,h.2.2.2.symm⟩
def RO.none {P:un} {s:Sem α} (h:∀H,aG P s H=.none):RO P s:=λH a H1 R W e=>by rw[h]at e;cases e
def RO.load {P:un} {k:fu->Sem α} (h:∀v,RO P (k v)):RO P (Sem.load .plain a k):=λH b H1 R W e=>by
 simp only[aG]at e;split at e<;>try(cases e;done)
 split at e<;>try(cases e;done)
 split at e<;>try(cases e;done)
 obtain⟨R0,e2,_⟩:=iH e;exact h _ _ _ _ _ _ e2
def RO.loadCells (P:un):∀(n:Nat) (a:Addr) (i:Nat) (acc:Array fu),RO P (Go.loadCellsFrom a i n acc)
 |0,_,_,_=>RO.pure _
 |n+1,a,i,acc=>by
  simp only[Go.loadCellsFrom];exact RO.load λv=>RO.loadCells P n a (i+1) _
def RO.firstCells (P:un) (s n:Nat) (x:fu):RO P (Builtin.firstCells s n x):=by
 cases x<;>first|exact RO.none λ_=>rfl|skip
 .exact RO.pure _
 .rename_i a l c;cases a with
  |none=>exact RO.pure _
  |some a=>exact RO.loadCells P _ a 0 _
def CK:fu->Option Nat
 |.slice _ n _=>some n
 |.string s=>some s.size
 |_=>none
def yC (h:CK x=some n):Builtin.lenOf x=Pure.pure n:=by
 cases x<;>simp only[CK,zAB,reduceCtorEq]at h<;>(subst h;rfl)
def sk (P:un) (e:a00) (size:Nat) (b:Option Addr) (CM sc:Nat) (cs:Array fu) (H:Hp) (R:Nat):Rs fu:=
 match b with
 |none=>some (.slice (some ⟨H.n,0,none⟩) CM CM,H.push (.cells cs e (1,0)),R,2^H.n)
 |some a=>bif a.spot.isNone then bif Nat.beq sc 0 then some (.slice (some ⟨H.n,0,none⟩) CM CM,H.push (.cells cs e (1,0)),R,2^H.n)
  else match H.get a.block with
   |some (.cells c e' fz)=>bif Nat.beq a.off 0&&Nat.beq e' e&&Nat.beq c.size (sc*size)&&Nat.ble fz.1 1&&Nat.beq fz.2 0&&Nat.ble P.globals.size a.block&&Nat.blt 0 size then
     some (.slice (some ⟨H.n,0,none⟩) CM CM,(H.put a.block none).push (.cells cs e (1,0)),R,2^H.n|||2^a.block)else none
   |_=>none else none
def MU (P:un) (e:a00) (i:TypeInfo) (b:Option Addr) (sl sc n:Nat) (z:fu) (old new:Array fu) (H:Hp) (R:Nat):Rs fu:=
 bif Nat.blt sc (sl+n)&&Nat.ble ((2*(sl+n)+768)*i.bytes) (2^48)&&Nat.blt (sl+n) (2^62)&&Nat.beq z.cells.size i.size&&Nat.beq new.size (n*i.size)&&Nat.beq old.size (sl*i.size)&&new.all ew then
  sk P e i.size b (sl+n) sc (old++new) H R else none
def MV (P:un) (ts:Array a00) (xs:Array fu) (H:Hp):Rs fu:=
 match ts[0]? with
 |none=>none
 |some sT=>match(xs[0]?:Option fu)with
  |some (.slice b sl sc)=>match(xs[1]?:Option fu)with
   |none=>none
   |some x=>match P.underlying sT with
    |some (.slice e)=>match P.info? e with
     |none=>none
     |some i=>match CK x with
      |none=>none
      |some n=>match i.zero with
       |none=>none
       |some z=>match aG P (Builtin.firstCells i.size sl (.slice b sl sc)) H with
        |none=>none
        |some (old,_,R1,_)=>match aG P (Builtin.firstCells i.size n x) H with
         |none=>none
         |some (new,_,R2,_)=>MU P e i b sl sc n z old new H (R1|||R2)
    |_=>none
  |_=>none
section
variable {P:un} {F:Array Func} {S:Nat->Bool} {K:Kz} {p:Pi} {Fp:Nat->Prop} {w:nq}
def dQ (Q:un) (f:α->Sem β) {a:α}:∀(s:Sem α) (w:nq),s.run Q w=.ok a w1->(s>>=f).run Q w=(f a).run Q w1:=by
 intro s;show∀(w:nq),s.run Q w=.ok a w1->(s.bind f).run Q w=(f a).run Q w1;induction s with
 |pure x=>intro w e;simp only[Sem.run,Result.ok.injEq]at e;obtain⟨rfl,rfl⟩:=e;rfl
 |load m a k ih=>
  intro w e;simp only[Sem.bind,Sem.run]at e⊢;split
  .rename_i h;rw[h]at e;exact ih _ w e
  .rename_i h;rw[h]at e;simp only at e;split
   .rename_i h2;rw[h2]at e;exact ih _ w e
   .rename_i h2;rw[h2]at e;cases e
 |store m a v k ih=>
  intro w e;cases Hu:ew v with
  |false=>cases v<;>first|(cases Hu;done)|(simp only[Sem.run]at e;cases e)
  |true=>
   have key:∀{γ:Type} (k:Sem γ),(Sem.store m a v k).run Q w=match w.cell? a with
    |some _=>if w.frozen? a then .halt (.unsupported (.unsafePointer "a write to bytes that a string shares")) w else k.run Q (w.setCell a v)
    |none=>match w.farStore Q a v (m== .atomic)with
     |.ok (w,_)=>k.run Q w
     |.error h=>.halt h w:=λk=>by cases v<;>first|(cases Hu;done)|rfl
   simp only[Sem.bind];rw[key]at e⊢;split
   .rename_i h;rw[h]at e;simp only at e;split
    .rename_i h2;rw[zAE h2]at e;cases e
    .rename_i h2;rw[zAG h2]at e;exact ih _ e
   .rename_i h;rw[h]at e;simp only at e;split
    .rename_i h2;rw[h2]at e;exact ih _ e
    .rename_i h2;rw[h2]at e;cases e
 |new o k ih=>intro w e;exact ih _ _ e
 |shape r k ih=>intro w e;exact ih _ _ e
 |freeze a n k ih=>intro w e;exact ih _ e
 |frozen a k ih=>intro w e;exact ih _ _ e
 |getObj r k ih=>
  intro w e;simp only[Sem.bind,Sem.run]at e⊢;cases ho:w.heap[r]? with
  |none=>rw[ho]at e;cases e
  |some o'=>rw[ho]at e;cases o'<;>first|exact ih _ _ e|(cases e;done)
 |setObj r o k ih=>
  intro w e;simp only[Sem.bind,Sem.run]at e⊢;cases ho:w.heap[r]? with
  |none=>rw[ho]at e;cases e
  |some o'=>rw[ho]at e;cases o'<;>first|exact ih _ e|(cases e;done)
 |choose q k ih=>
  intro w e;simp only[Sem.bind,Sem.run]at e⊢;split at e
  .rename_i hq;simp only[hq,zBM];exact ih _ _ e
  .rename_i hq;simp only[hq,zBC,zAL];exact ih _ _ e
 |sys c k ih=>intro w e;exact ih _ _ e
 |program k ih=>intro w e;exact ih _ _ e
 |mark m k ih=>intro w e;exact ih _ e
 |halt x=>intro w e;simp only[Sem.run]at e;cases e
def run_typeInfo (h:P.info? t=some i) (f:TypeInfo->Sem β) (w:nq):(Go.typeInfo t>>=f).run (ai P F) w=(f i).run (ai P F) w:=by
 show(Sem.bind (match(ai P F).info? t with|some i=>Pure.pure i|none=>Go.stuck "no such type") f).run (ai P F) w=_;rw[lT,h];rfl
def run_underlying {i:TypeDesc} (h:P.underlying t=some i) (f:TypeDesc->Sem β) (w:nq):(Go.underlying t>>=f).run (ai P F) w=(f i).run (ai P F) w:=by
 show(Sem.bind (match(ai P F).underlying t with|some i=>Pure.pure i|none=>Go.stuck "no such type") f).run (ai P F) w=_;rw[dU,h];rfl
def run_sizeOf (h:P.info? t=some i) (f:Nat->Sem β) (w:nq):(Go.sizeOf t>>=f).run (ai P F) w=(f i.size).run (ai P F) w:=by
 show((Go.typeInfo t>>=λi=>Pure.pure i.size)>>=f).run (ai P F) w=_;have:=dQ (ai P F) f (a:=i.size) (w1:=w) (Go.typeInfo t>>=λi=>Pure.pure i.size) w (by rw[run_typeInfo h];rfl);exact this
def xE (h:P.info? t=some i) (hz:i.zero=some z) (f:fu->Sem β) (w:nq):(Go.zeroValue t>>=f).run (ai P F) w=(f z).run (ai P F) w:=
 dQ (ai P F) f (a:=z) (w1:=w) (Go.zeroValue t) w (by unfold Go.zeroValue;rw[run_typeInfo h,hz];rfl)
def run_choose {q:Question} (hq:q.forced=false) (f:Nat->Sem β) (w:nq):(Go.choose q>>=f).run (ai P F) w=(f (q.cut (w.tape w.drawn q))).run (ai P F) {w with drawn:=w.drawn+1}:=by
 show(Sem.choose q f).run _ _=_;simp only[Sem.run,hq,zAL,zBC]
def run_askRoom (n:Nat) (f:Unit->Sem β) (w:nq):(Go.askRoom n>>=f).run (ai P F) w=(f ()).run (ai P F) w:=by
 unfold Go.askRoom;split<;>rfl
def FS (ht:yj P ts=true) (t:a00) {sT:a00} {b:Option Addr} (h0:ts[0]?=some sT) (h1:xs[0]?=some (.slice b sl sc)) (h2:xs[1]?=some x)
 (hu:P.underlying sT=some (.slice e)) (hi:P.info? e=some i) (Qz:∀t1,ts[1]?=some t1->(P.underlying t1).isSome) (w:nq):(Builtin.append_ ts t xs).run (ai P F) w=(fI e b sl sc i.size x).run (ai P F) w:=by
 unfold Builtin.append_;rw[h0,h1,h2];simp only;rw[run_underlying hu];simp only;rw[run_sizeOf hi];cases h3:ts[1]? with
 |none=>
  unfold aD.fI aD.pE aD.gi;cases b<;>simp only[pure_bind,zAL,zBC,zFB,zBM,false_or]
 |some t1=>
  obtain⟨u,hu1⟩:=zDD.1 (Qz t1 h3);simp only[yj,h3,hu1]at ht;simp only;rw[run_underlying hu1];have e0:(match u with|.int _=>true|_=>false)=false:=by cases u<;>first|(cases ht;done)|rfl
  unfold aD.fI aD.pE aD.gi;cases u<;>first|(cases ht;done)|skip
  all_goals(cases b<;>simp only[pure_bind,zAL,zBC,zFB,zBM,false_or])
end
section
variable {P:un} {F:Array Func} {S:Nat->Bool} {K:Kz} {p:Pi} {Fp:Nat->Prop} {w:nq}
def Rl.heap {H:Nat->Option Obj} (h:Rl P S K p H Fp w) (e:w2.heap=w.heap):Rl P S K p H Fp w2:=
 ⟨λr x o y=>by rw[e];exact h.blk r x o y,h.inj,λr r' x=>by rw[e];exact h.lt r r' x,h.xm,h.ok,by rw[e];exact h.gY,h.lx⟩
def Mv.heap {W:Nat->Prop} (h:Mv W p n w q n1 w1) (e:w2.heap=w1.heap):Mv W p n w q n1 w2:=
 ⟨h.le,h.nn,h.new,h.Aa,by rw[e];exact h.size,λr a b=>by rw[e];exact h.keep r a b⟩
def Mv.MW {W:Nat->Prop} (h:Mv W p n w q n1 w1) {w0:nq} (e:w0.heap=w.heap):Mv W p n w0 q n1 w1:=
 ⟨h.le,h.nn,λr r' x=>by rw[e];exact h.new r r' x,h.Aa,by rw[e];exact h.size,λr a b=>by rw[e]at a⊢;exact h.keep r a b⟩
def aX (s:Sem α):Prop:=∀Q w b w1,s.run Q w=.ok b w1->w1=w
def aX.loadCells:∀(n:Nat) (a:Addr) (i:Nat) (acc:Array fu),aX (Go.loadCellsFrom a i n acc)
 |0,_,_,_=>λQ w b w1 h=>by
  have h:Result.ok _ w=.ok b w1:=h;simp only[Result.ok.injEq]at h;exact h.2.symm
 |n+1,a,i,acc=>λQ w b w1 h=>by
  simp only[Go.loadCellsFrom]at h;have h:(Sem.load .plain (a.add i) λv=>Go.loadCellsFrom a (i+1) n (acc.push v)).run Q w=.ok b w1:=h;simp only[Sem.run]at h;split at h
  .exact aX.loadCells n a (i+1) _ _ _ _ _ h
  .split at h
   .exact aX.loadCells n a (i+1) _ _ _ _ _ h
   .cases h
def aX.firstCells (s n:Nat) (x:fu):aX (Builtin.firstCells s n x):=by
 intro Q w b w1 h;have key:∀c:Array fu,Result.ok c w=.ok b w1->w1=w:=λc h=>by simp only[Result.ok.injEq]at h;exact h.2.symm
 cases x with
 |string s=>exact key _ h
 |slice a l c=>
  cases a with
  |none=>exact key _ h
  |some a=>exact aX.loadCells _ a 0 _ Q w b w1 h
 |_=>cases h
def yD {H:Hp} (hr:Rl P S K p H.get Fp w) (hg:P.globals.size<=H.n) (hx:VR S p x x') (hn:∀b c,x=.slice b 0 c->n=0) {cs:Array fu} {Ha:Hp} (e:aG P (Builtin.firstCells size n x) H=some (cs,Ha,R,W))
 (hF:∀r,R.testBit r=true->Fp r) (hw:w2.heap=w.heap):∃lM,(Builtin.firstCells size n x').run (ai P F) w2=.ok lM w2/\AR S p cs lM:=by
 obtain⟨rfl,rfl⟩:=RO.firstCells P size n x _ _ _ _ _ e;obtain⟨lM,w1,q,h1,h2,h3,_⟩:=mi (P:=P) (F:=F) (K:=K) (Builtin.firstCells size n x) (SR.firstCells (P:=P) (F:=F) (S:=S) (K:=K) (N:=0) size n hx hn (hr.heap hw).ok) e (hr.heap hw) hg (λr a b=>by omega) (λr h=>.inr (h.elim (hF r) λh=>by simp at h));have:=aX.firstCells _ _ _ _ _ _ _ h1;subst this;refine⟨lM,h1,AR.mono ⟨λr r' x=>?_,λr k x=>?_,λ_ _ _ _ x=>h3.le.x _ _ x,h3.le.l.symm⟩ h2⟩
 .rcases h3.new r r' x with y|⟨a,b,_⟩
  .exact y
  .omega
 .rcases h3.Aa r k x with y|⟨a,b⟩
  .exact y
  .omega
def CN (hx:VR S p x x') (h:CK x=some n):CK x'=some n:=by
 cases hx<;>first|exact h|(simp only[CK,reduceCtorEq]at h;done)
def CO:∀(n:Nat) (v:fu),plain n v=true->∀u∈v.cells,∃m,plain m u=true:=by
 intro n v h u hu;cases v with
 |agg xs=>
  cases n with
  |zero=>simp[plain]at h
  |succ n=>
   simp only[plain]at h;exact⟨n,Array.all_eq_true'.1 h u (by simpa [Value.cells]using hu)⟩
 |_=>simp[Value.cells]at hu;subst hu;exact⟨n,h⟩
def t7 {z:Array fu} {X:fu->Prop} (h:∀u∈z,X u) (k:Nat) {j:Nat} {u:fu} (hj:(Builtin.zeroCells z k)[j]?=some u):X u:=by
 unfold Builtin.zeroCells at hj;rw[zCP]at hj;cases hr:(Array.range (k*z.size))[j]? with
 |none=>rw[hr]at hj;cases hj
 |some x=>
  rw[hr]at hj;simp only[zBJ,zAB]at hj;subst hj;have au:=(zAC.1 hr).1;simp at au
  have hz:0<z.size:=by
   rcases zCB z.size with h|h
   .rw[h]at au;omega
   .exact h
  have hm:x%z.size<z.size:=zGC _ hz;rw[getElem!_pos z (x%z.size) hm];exact h _ (zEL hm)
def Ab (hi:P.info? e=some i) (hz:i.zero=some z) (hzp:∀u∈z.cells,(∃m,plain m u=true)/\K.z e u) (hzs:z.cells.size=i.size) {b b':Option Addr} {xA:Nat} (hs:VR S p (.slice b sl sc) (.slice b' sl xA)) (hx:VR S p x x') (hlen:CK x=some n)
 (Z9:sc<sl+n) (CI:(2*(sl+n)+768)*i.bytes<=2^48) (zaa:sl+n<2^62) {old new:Array fu} (hold:old.size=sl*i.size) (kP:new.size=n*i.size) (Hu:∀v∈new,ew v=true)
 {H:Hp} (hr:Rl P S K p H.get Fp w) (hg:P.globals.size<=H.n) (ho:∀w2:nq,w2.heap=w.heap->∃lM,(Builtin.firstCells i.size sl (.slice b' sl xA)).run (ai P F) w2=.ok lM w2/\AR S p old lM)
 (hw:∀w2:nq,w2.heap=w.heap->∃lM,(Builtin.firstCells i.size n x').run (ai P F) w2=.ok lM w2/\AR S p new lM) {H1:Hp} (he:sk P e i.size b (sl+n) sc (old++new) H R=some (v,H1,R1,W1))
 (hn:∀r',¬p H.n r') (hF:∀r,W1.testBit r=true->(H.n<=r/\r<H1.n)\/Fp r)
 (hoc:∀a c e' fz,b=some a->H.get a.block=some (.cells c e' fz)->a.off=0->c.size=sc*i.size->a.spot=none->∀j,j<old.size->old[j]?=c[j]?):
 ∃v' w1 q,(fI e b' sl xA i.size x').run (ai P F) w=.ok v' w1/\VR S q v v'/\Mv (λr=>W1.testBit r=true) p H.n w q H1.n w1/\Rl P S K q H1.get (λr=>Fp r\/(H.n<=r/\r<H1.n)) w1:=by
 have VE:Qx P e=i.size:=by unfold Qx;rw[hi];rfl
 have grow:∀{H2:Nat->Option Obj},Rl P S K p H2 Fp w->xA<sl+n->(∀m,H1.get m=if m=H.n then some (.cells (old++new) e (1,0))else H2 m)->v=.slice (some ⟨H.n,0,none⟩) (sl+n) (sl+n)->H1.n=H.n+1->
  ∃v' w1 q,(fI e b' sl xA i.size x').run (ai P F) w=.ok v' w1/\VR S q v v'/\Mv (λr=>W1.testBit r=true) p H.n w q H1.n w1/\Rl P S K q H1.get (λr=>Fp r\/(H.n<=r/\r<H1.n)) w1:=by
  intro H2 uA au hH1 hv sY;let w1:nq:={w with drawn:=w.drawn+1}
  let k:=w.tape w.drawn (.appendCap (sl+n) xA e)%(2^63-(sl+n))
  obtain⟨QB,BD,qK⟩:=ho w1 rfl;obtain⟨Ac,lL,zS⟩:=hw w1 rfl;let cells:=QB++Ac++Builtin.zeroCells z.cells k
  have rP:cells.size=(old++new).size+k*i.size:=by
   show(QB++Ac++Builtin.zeroCells z.cells k).size=_;unfold Builtin.zeroCells;simp only[zFA,Array.size_map,Array.size_range,hzs,qK.1,zS.1]
  have tS:OR S K p (.cells (old++new) e (1,0)) (.cells cells e (0,0)):=by
   refine .cS hr.lx e (1,0) (0,0) (by rw[rP];omega) (.inr ⟨λj _ h=>by omega,λ_=>rfl⟩) (λj u' hj h2=>?_) λj u u' h1 h2=>?_
   .have hon:=qK.append zS;have:cells[j]?=(Builtin.zeroCells z.cells k)[j-(QB++Ac).size]?:=zDP (by rw[<-hon.1];exact hj);rw[this]at h2;exact t7 hzp k h2
   have hj:j<(old++new).size:=(zAC.1 h1).1;have hon:=qK.append zS;have:cells[j]?=(QB++Ac)[j]?:=zEK (by rw[<-hon.1];exact hj);rw[this]at h2;exact hon.2 j u u' h1 h2
  obtain⟨g1,g2⟩:=(uA.heap (w2:=w1) rfl).TD (n:=H.n) (k:=k) hn hg tS ⟨_,_,_,_,_,rfl,rfl,by rw[rP,VE],.inr (by have:=zGC (w.tape w.drawn (.appendCap (sl+n) xA e)) (show 0<2^63-(sl+n) by omega);show w.tape w.drawn (.appendCap (sl+n) xA e)%(2^63-(sl+n))+1<2^63;omega),by decide⟩ hH1;refine⟨.slice (some ⟨w.heap.size,0,none⟩) (sl+n) (sl+n+k),_,_,?_,?_,by rw[sY];exact(g2.MW (w0:=w) rfl).mono λ_ h=>h.elim,g1.mono λr h=>h.imp id λ⟨a,b⟩=>by omega⟩
  .unfold aD.fI;rw[yC (CN hx hlen)];simp only[pure_bind];rw[zAG (by omega),run_typeInfo hi]
   rw[zAG (by rintro⟨h1,_⟩;have e9:IntKind.i64.max=9223372036854775807:=(by decide);rw[e9]at h1;omega)]
   unfold aD.pE;rw[run_typeInfo hi,zAG ?_]
   .unfold aD.gi;rw[run_choose rfl,run_typeInfo hi,run_askRoom];rw[dQ (ai P F) _ _ _ BD,dQ (ai P F) _ _ _ lL,xE hi hz];have e0:(Question.appendCap (sl+n) xA e).cut (w.tape w.drawn (.appendCap (sl+n) xA e))=sl+n+k:=rfl;rw[e0];have e1:sl+n+k-(sl+n)=k:=by omega
    rw[e1];rfl
   .have:=FQ au;have:=zDO i.bytes this;omega
  .rw[hv];exact .dI 0 (sl+n) hr.lx (.inr ⟨rfl,rfl⟩) (by omega) (.inr ⟨rfl,rfl⟩)
 obtain⟨_,mY⟩:=np hs;unfold sk at he;cases b with
 |none=>
  simp only[zAB,zAH]at he;obtain⟨rfl,rfl,rfl,rfl⟩:=he;refine grow (H2:=H.get) hr ?_ (λm=>Hp.lA H _ m) rfl rfl;rcases mY with⟨_,_,e⟩|⟨a,_,e,_⟩|⟨_,_,a,_,e,_⟩
  .omega
  .cases e
  .cases e
 |some a=>
  simp only at he;cases oR:a.spot with
  |some y=>rw[oR]at he;cases he
  |none=>
  rw[oR]at he;simp only[Option.isNone_none,zAU]at he;by_cases QC:sc=0
  .subst QC;simp only[Nat.beq_refl,zAU,zAB,zAH]at he;obtain⟨rfl,rfl,rfl,rfl⟩:=he;refine grow (H2:=H.get) hr ?_ (λm=>Hp.lA H _ m) rfl rfl;rcases mY with⟨_,_,e⟩|⟨a2,_,e,_,_,e2|⟨_,h0,_⟩⟩|⟨_,_,a2,_,e,_,⟨_,e2⟩|⟨e2,_⟩⟩
   .omega
   .omega
   .omega
   .cases e;rw[oR]at e2;cases e2
   .rw[hr.lx]at e2;cases e2
  .rw[jh QC]at he;simp only[zAR]at he;split at he<;>try(cases he;done)
   rename_i c e' fz BE;cases hb:(Nat.beq a.off 0&&Nat.beq e' e&&Nat.beq c.size (sc*i.size)&&Nat.ble fz.1 1&&Nat.beq fz.2 0&&Nat.ble P.globals.size a.block&&Nat.blt 0 i.size)<;>rw[hb]at he<;>simp only[zAU,zAR]at he
   .cases he
   simp only[zAF]at hb;obtain⟨⟨⟨⟨⟨⟨b1,b2⟩,b3⟩,b4⟩,b5⟩,b6⟩,b7⟩:=hb;have hi1:i.size≠0:=λe=>by rw[e]at b7;cases b7
   have b1:=zAN b1;have b2:=zAN b2;have b3:=zAN b3;have b5:=zAN b5;have b6:=zBG b6;subst b2;simp only[zAB,zAH]at he;obtain⟨rfl,rfl,rfl,rfl⟩:=he
   have bu:a.block≠H.n:=λe=>by
    rcases mY with⟨e1,_⟩|⟨a2,Ym,e1,_,h3,_⟩|⟨_,_,a2,_,e1,_,⟨_,e2⟩|⟨e2,_⟩⟩
    .cases e1
    .cases e1;exact hn _ (e▸h3.1)
    .cases e1;rw[oR]at e2;cases e2
    .rw[hr.lx]at e2;cases e2
   have MT:Fp a.block:=(hF a.block (by rw[zAP,(tb _ _).2 rfl,zBZ])).resolve_left λ⟨x,y⟩=>by
    have y:a.block<H.n+1:=y;omega
   have hH1:∀m,((H.put a.block none).push (.cells (old++new) e' (1,0))).get m=if m=H.n then some (.cells (old++new) e' (1,0))else if m=a.block then none else H.get m:=λm=>by
    rw[Hp.lA];show(if m=H.n then _ else _)=_;rw[Hp.get_put]
   have zac:Rl P S K p (λm=>if m=a.block then none else H.get m) Fp w:=hr.kill λm=>rfl;rcases mY with⟨e1,_⟩|⟨a2,a',e1,rfl,ha,jI⟩|⟨_,_,a2,_,e1,_,⟨_,e2⟩|⟨e2,_⟩⟩
   .cases e1
   .cases e1;rcases zDA xA (sl+n)with au|xw
    .exact grow zac au hH1 rfl rfl
    ·
     obtain⟨_,h0,_,k0,qA,rfl⟩:=jI.resolve_left (by omega);obtain⟨o',g1,g2,g3⟩:=hr.at MT ha.1 BE;obtain⟨c0,e0,fz0,c',gA,e5,rfl,cB,xF⟩:=g3.1 k0 qA;cases e5;rw[VE,b3,<-zFT]at cB;have Jz:a'.spot=none:=ha.2.2.symm.trans oR;have TE:a'.off=0:=ha.2.1.symm.trans b1
     have zad:(∀j,j<c'.size->¬(gA.1<=j/\j<gA.2))/\(S 999999=true->gA=(0,0)):=by
      cases g2 with
      |cells e fz hw g=>
       have:=hw hr.lx;exact⟨λj _ h=>by omega,λ_=>Prod.ext (by omega) b5⟩
      |cS _ e fz gA hl hz hs g=>
       rcases hz with⟨_,hz⟩|hz
       .have zeX:sc*i.size=0:=by omega
        have xg:i.size=0:=by
         rcases Nat.mul_eq_zero.1 zeX with h|h
         .exact absurd h QC
         .exact h
        exact absurd xg hi1
       .exact hz
     have zae:=zad.1;obtain⟨cc,fz2,e6,BB,Tj,_⟩:=g2.sj;cases e6;obtain⟨Ac,lL,zS⟩:=hw w rfl;have TF:(a'.add (sl*i.size)).off=sl*i.size:=by unfold Addr.add;split<;>simp_all
     have hle:sl*i.size+n*i.size<=c'.size:=by rw[cB,<-zFT];exact zDO _ xw
     obtain⟨w2,c2,s1,s2,s3,s4,s5,s6,s7,s8⟩:=vI (ai P F) Ac.toList (a'.add (sl*i.size)) 0 w c' e' gA (by rw[gR];exact g1) (qF _ _ Jz) (by rw[TF];simp only[zFJ,<-zS.1,kP];omega) zae (λu hu=>by
      obtain⟨j,hj,hju⟩:=zBX hu;have BH:j<Ac.size:=by simpa using hj
      have oB:j<new.size:=by rw[zS.1];exact BH
      have hrel:=zS.2 j new[j] Ac[j] (zAK oB) (zAK BH);have:u=Ac[j]:=by rw[<-hju];simp
      rw[this,<-hrel.ew];exact Hu _ (zEL oB))
     rw[TF,zCH]at s6 s7 s8;rw[gR]at s3 s4;have zl3:sl*i.size+n*i.size=(sl+n)*i.size:=(zFT ..).symm;have hk:(sl+n)*i.size+(sc+k0-(sl+n))*i.size=(sc+k0)*i.size:=by rw[<-zFT];congr 1;omega
     have tS:OR S K p (.cells (old++new) e' (1,0)) (.cells c2 e' gA):=by
      refine .cS hr.lx e' (1,0) gA (by rw[s5,zFA,hold,kP];omega) (.inr ⟨by rw[s5];exact zae,zad.2⟩) (λj u' hj h2=>?_) λj u u' h1 h2=>?_
      .rw[zFA,hold,kP]at hj;rw[s8 j (by simp only[zFJ,<-zS.1,kP];omega)]at h2
       have hjc:c.size<=j:=by
        rw[b3];exact zAM (zDO _ (zFC Z9)) (by omega)
       cases g2 with
       |cells e fz hw g=>
        have:=(zAC.1 h2).1;rw[<-g.1]at this;omega
       |cS _ e fz gA hl hz hs g=>exact hs j u' hjc h2
      rw[zFD]at h1;by_cases hj:j<old.size
      .rw[zAE hj]at h1;rw[s6 j (by omega)]at h2;rw[hoc a c e' fz rfl BE b1 b3 oR j hj]at h1;exact Tj j u u' h1 h2
      .rw[zAG hj]at h1;have au:=(zAC.1 h1).1;have:=s7 (j-old.size) (by simp only[zFJ,<-zS.1];exact au);rw[show sl*i.size+(j-old.size)=j by omega]at this;rw[this]at h2;exact zS.2 _ u u' h1 (by simpa using h2)
     obtain⟨r1,r2⟩:=hr.reuse (n:=H.n) (s:=a.block) (r':=a'.block) (k:=sc+k0-(sl+n)) hn hg b6 MT ha.1 (by rw[BE];rfl) tS ⟨_,_,_,_,_,rfl,rfl,by rw[s5,VE,zFA,hold,kP,cB];omega,.inr (by
      rcases xF.1 with xF|xF
      .rw[b3]at xF;rcases Nat.mul_eq_zero.1 xF with h|h
       .exact absurd h QC
       .exact absurd h hi1
      .omega),by decide⟩ hH1 s2 s4 s3
     refine⟨.slice (some a') (sl+n) (sc+k0),w2,_,?_,?_,r2.mono λr h=>by subst h;rw[zAP,(tb _ _).2 rfl,zBZ],r1.mono λr h=>h.imp id λ⟨x,y⟩=>by
      have y:r<H.n+1:=y;omega⟩
     .unfold aD.fI;rw[yC (CN hx hlen)];simp only[pure_bind];rw[zAE xw,dQ (ai P F) _ _ _ lL];rw[dQ (ai P F) _ _ _ s1];rfl
     .have ea:a'=⟨a'.block,0,none⟩:=by
       obtain⟨x,y,z⟩:=a';simp only at TE Jz;subst TE;subst Jz;rfl
      have hv:VR S (JT p H.n a'.block (sc+k0-(sl+n))) (.slice (some ⟨H.n,0,none⟩) (sl+n) (sl+n)) (.slice (some ⟨a'.block,0,none⟩) (sl+n) ((sl+n)+(sc+k0-(sl+n)))):=.dI 0 (sl+n) hr.lx (.inr ⟨rfl,rfl⟩) (by omega) (.inr ⟨rfl,rfl⟩);have e8:(sl+n)+(sc+k0-(sl+n))=sc+k0:=by omega
      rw[e8]at hv;rw[ea];exact hv
   .cases e1;rw[oR]at e2;cases e2
   .rw[hr.lx]at e2;cases e2
end
section
variable {P:un} {F:Array Func} {S:Nat->Bool} {K:Kz} {p:Pi} {Fp:Nat->Prop} {w:nq}
def pu (P:un) {H:Hp} {c:Array fu} (hg:H.get a.block=some (.cells c e fz)):∀(n i:Nat) (acc:Array fu) {cs:Array fu} {H1:Hp} {R W:Nat},aG P (Go.loadCellsFrom a i n acc) H=some (cs,H1,R,W)->
 ∃l:Array fu,cs=acc++l/\l.size=n/\∀j,j<n->l[j]?=c[(a.add (i+j)).off]?
 |0,i,acc,cs,H1,R,W,h=>by
  have h:some (acc,H,0,0)=some (cs,H1,R,W):=h;simp only[zAB,zAH]at h;exact⟨#[],by simp[h.1],rfl,λj hj=>absurd hj (zDK j)⟩
 |n+1,i,acc,cs,H1,R,W,h=>by
  simp only[Go.loadCellsFrom]at h;have h:aG P (Sem.load .plain (a.add i) λv=>Go.loadCellsFrom a (i+1) n (acc.push v)) H=some (cs,H1,R,W):=h;simp only[aG]at h;rw[gR,hg]at h;simp only at h;split at h<;>try(cases h;done)
  split at h<;>try(cases h;done)
  rename_i v hv;obtain⟨R0,h2,_⟩:=iH h;obtain⟨l,h3,h4,h5⟩:=pu P hg n (i+1) _ h2;refine⟨#[v]++l,by rw[h3];simp,by simp[h4];omega,λj hj=>?_⟩;cases j with
  |zero=>rw[zEK (by simp),zCH];exact hv.symm
  |succ j=>
   have:=h5 j (by omega);rw[show i+(j+1)=i+1+j by omega,<-this];simp[zFD]
def Yn (P:un) (K:Kz):Prop:=∀e i z,P.info? e=some i->i.zero=some z->∀u∈z.cells,K.z e u
def FT (hzp:bC P) (hZ:Yn P K) (ht:yj P ts=true) (Qz:∀t1,ts[1]?=some t1->(P.underlying t1).isSome) (t:a00) {de:Array fu} (h:AR S p xs de) {H:Hp} {H1:Hp} (e:MV P ts xs H=some (v,H1,R1,W1))
 (hr:Rl P S K p H.get Fp w) (hg:P.globals.size<=H.n) (hn:∀r,H.n<=r->r<H1.n->∀r',¬p r r') (hF:∀r,(R1.testBit r=true\/W1.testBit r=true)->(H.n<=r/\r<H1.n)\/Fp r):
 ∃v' w1 q,(Builtin.append_ ts t de).run (ai P F) w=.ok v' w1/\VR S q v v'/\Mv (λr=>W1.testBit r=true) p H.n w q H1.n w1/\Rl P S K q H1.get (λr=>Fp r\/(H.n<=r/\r<H1.n)) w1:=by
 unfold MV at e;split at e<;>try(cases e;done)
 rename_i sT h0;split at e<;>try(cases e;done)
 rename_i b sl sc h1;split at e<;>try(cases e;done)
 rename_i x h2;split at e<;>try(cases e;done)
 rename_i el hu;split at e<;>try(cases e;done)
 rename_i i hi;split at e<;>try(cases e;done)
 rename_i n hlen;split at e<;>try(cases e;done)
 rename_i z hz;split at e<;>try(cases e;done)
 rename_i old Ha Ra Wa ea;split at e<;>try(cases e;done)
 rename_i new Hb Rb Wb eb;unfold MU at e;cases hb:(Nat.blt sc (sl+n)&&Nat.ble ((2*(sl+n)+768)*i.bytes) (2^48)&&Nat.blt (sl+n) (2^62)&&Nat.beq z.cells.size i.size&&Nat.beq new.size (n*i.size)&&Nat.beq old.size (sl*i.size)&&new.all ew)<;>rw[hb]at e<;>simp only[zAU,zAR]at e
 .cases e
 simp only[zAF,Nat.blt_eq]at hb;obtain⟨⟨⟨⟨⟨⟨b1,b2⟩,b3⟩,b4⟩,b5⟩,b6⟩,b7⟩:=hb;have b2:=zBG b2;have b4:=zAN b4;have b5:=zAN b5;have b6:=zAN b6;obtain⟨s',rZ,hs⟩:=h.get h1;obtain⟨x',sQ,hx⟩:=h.get h2;have zeY:∃b' xA,s'=.slice b' sl xA:=by cases hs<;>exact⟨_,_,rfl⟩
 obtain⟨b',xA,rfl⟩:=zeY
 have kP:H1.n=H.n+1/\R1=Ra|||Rb:=by
  unfold sk at e;split at e
  .simp only[zAB,zAH]at e;obtain⟨rfl,rfl,rfl,rfl⟩:=e;exact⟨rfl,rfl⟩
  .rename_i a;cases oR:a.spot.isNone<;>rw[oR]at e<;>simp only[zAU,zAR]at e
   .cases e
   cases QC:Nat.beq sc 0<;>rw[QC]at e<;>simp only[zAU,zAR]at e
   .split at e<;>try(cases e;done)
    rename_i c e' fz _;cases Cf:(Nat.beq a.off 0&&Nat.beq e' el&&Nat.beq c.size (sc*i.size)&&Nat.ble fz.1 1&&Nat.beq fz.2 0&&Nat.ble P.globals.size a.block&&Nat.blt 0 i.size)<;>rw[Cf]at e<;>simp only[zAU,zAR]at e
    .cases e
    simp only[zAB,zAH]at e;obtain⟨rfl,rfl,rfl,rfl⟩:=e;exact⟨rfl,rfl⟩
   .simp only[zAB,zAH]at e;obtain⟨rfl,rfl,rfl,rfl⟩:=e;exact⟨rfl,rfl⟩
 obtain⟨sY,rfl⟩:=kP
 have ZH:∀{size n:Nat} {x:fu} {cs:Array fu} {Ha:Hp} {R W:Nat},aG P (Builtin.firstCells size n x) H=some (cs,Ha,R,W)->(∀r,R.testBit r=true->(Ra|||Rb).testBit r=true)->(∀r,R.testBit r=true->(H.get r).isSome->∃r',p r r')->∀r,R.testBit r=true->Fp r:=by
  intro size n x cs Ha R W e1 QF hp r uz;obtain⟨rfl,rfl⟩:=RO.firstCells P size n x _ _ _ _ _ e1;have ES:=bM P _ e1;rcases hF r (.inl (QF r uz))with⟨x,y⟩|y
  .rcases ES.rd r uz with⟨u,v⟩|u
   .omega
   .obtain⟨r',sM⟩:=hp r uz u;exact absurd sM (hn r x y r')
  .exact y
 have known:∀{size n:Nat} {x x':fu} {cs:Array fu} {Ha:Hp} {R W:Nat},VR S p x x'->aG P (Builtin.firstCells size n x) H=some (cs,Ha,R,W)->∀r,R.testBit r=true->∃r',p r r':=by
  intro size n x x' cs Ha R W hx e1 r hrb
  have key:∀(n i:Nat) (a:Addr) (acc cs:Array fu) (Ha:Hp) (R W:Nat),aG P (Go.loadCellsFrom a i n acc) H=some (cs,Ha,R,W)->R.testBit r=true->r=a.block:=by
   intro n;induction n with
   |zero=>
    intro i a acc cs Ha R W e hb;have e:some (acc,H,0,0)=some (cs,Ha,R,W):=e;simp only[zAB,zAH]at e;obtain⟨_,_,rfl,_⟩:=e;simp at hb
   |succ n ih=>
    intro i a acc cs Ha R W e hb;simp only[Go.loadCellsFrom]at e;have e:aG P (Sem.load .plain (a.add i) λv=>Go.loadCellsFrom a (i+1) n (acc.push v)) H=some (cs,Ha,R,W):=e;simp only[aG]at e;split at e<;>try(cases e;done)
    split at e<;>try(cases e;done)
    split at e<;>try(cases e;done)
    obtain⟨R0,e2,rfl⟩:=iH e;rw[zAP,zBQ,tb,gR]at hb;rcases hb with hb|hb
    .exact ih _ _ _ _ _ _ _ e2 hb
    .exact hb
  cases hx with
  |slice o sp l c g hX=>rw[key _ 0 _ _ _ _ _ _ e1 hrb];exact⟨_,g⟩
  |dI o l _ g h0 hx=>rw[key _ 0 _ _ _ _ _ _ e1 hrb];exact⟨_,g⟩
  |gz o o' c' _ g=>rw[key _ 0 _ _ _ _ _ _ e1 hrb];exact⟨_,g⟩
  |eD hl=>rw[hr.lx]at hl;cases hl
  |dH l c=>
   have e1:some (#[],H,0,0)=some (cs,Ha,R,W):=e1;simp only[zAB,zAH]at e1;obtain⟨_,_,rfl,_⟩:=e1;simp at hrb
  |string s=>
   have e1:some (_,H,0,0)=some (cs,Ha,R,W):=e1;simp only[zAB,zAH]at e1;obtain⟨_,_,rfl,_⟩:=e1;simp at hrb
  |_=>cases e1
 have F1:=ZH ea (λr h=>by rw[zAP,h,zDW]) λr h _=>known hs ea r h;have F2:=ZH eb (λr h=>by rw[zAP,h,zBZ]) λr h _=>known hx eb r h;rw[FS ht t h0 rZ sQ hu hi Qz]
 refine Ab hi hz (λu hu=>⟨CO _ _ (hzp _ _ _ hi hz) u hu,hZ _ _ _ hi hz u hu⟩) b4 hs hx hlen b1 b2 b3 b6 b5 (λu hu=>Array.all_eq_true'.1 b7 u hu) hr hg (λw2 h2=>yD hr hg hs (λb c e=>by cases e;rfl) ea F1 h2) (λw2 h2=>yD hr hg hx (λb c e=>by subst e;simp only[CK,zAB]at hlen;exact hlen.symm) eb F2 h2) e
  (λr'=>hn H.n (zAA _) (by omega) r') (λr h=>hF r (.inr h)) ?_
 intro a c e' fz hba BE JQ rP oR j hj;subst hba;obtain⟨l,h3,h4,h5⟩:=pu P BE _ 0 #[] ea;rw[h3,zDU];have oB:j<sl*i.size:=by omega
 rw[h5 j oB];have:(a.add (0+j)).off=j:=by unfold Addr.add;split<;>simp_all
 rw[this]
end
def kA (P:un) (S:Nat->Bool) (o:Op):Bool:=
 match o with
 |.slice .. |.convert ..=>!S 999999&&o.operands.all (iX P S)
 |.call ⟨.builtin .append,_,ts⟩=>qI P S o&&(match ts[1]? with|some t=>(P.underlying t).isSome|none=>true)
 |o=>qI P S o
def VF:fu->Bool
 |.slice ..=>true
 |_=>false
def MX (mx:Option Operand) (x:fu):Rs Next->Rs Next
 |some (.value (.slice (some a) l 0),H1,R,W)=>bif mx.isNone&&VF x then(match l,a.spot with|0,none=>some (.value (.slice (some ⟨a.block,a.off,some 0⟩) 0 0),H1,R,W)|_,_=>none)else some (.value (.slice (some a) l 0),H1,R,W)
 |x=>x
def CP (P:un) (e:a00):Bool:=match P.info? e with
 |some i=>match i.zero with
  |some (.int .u8 (.ofNat 0))=>true
  |_=>false
 |none=>false
def FU {P:un} (h:CP P e=true):∃i,P.info? e=some i/\i.zero=some (.int .u8 0):=by
 unfold CP at h;split at h<;>try(cases h;done)
 rename_i i hi;split at h<;>try(cases h;done)
 rename_i hz;exact⟨i,hi,hz⟩
def FV (P:un) (s d:a00) (x:fu) (H:Hp):Option (Rs Next):=
 match P.underlying s with
 |some .string=>match P.underlying d with
  |some (.slice e)=>match P.underlying e with
   |some (.int .u8)=>match x with
    |.string bs=>some (bif Nat.beq (Qx P e) 1&&CP P e&&Nat.blt bs.size 4611686018427387904 then some (.value (.slice (some ⟨H.n,0,bif Nat.beq bs.size 0 then some 0 else none⟩) bs.size bs.size),H.push (.cells (bs.data.map λb=>.int .u8 b.toNat) e (1,0)),0,2^H.n)else none)
    |_=>some none
   |_=>some none
  |_=>none
 |_=>none
def nF (P:un) (r:Operand->fu) (o:Oper) (H:Hp):Rs Next:=
 bif mN r o.op then match o.op with
 |.slice _ x _ _ mx=>MX mx (r x) (aG P (execOp r o) H)
 |.call ⟨.builtin .append,as,ts⟩=>match MV P ts (as.map r) H with
  |some (v,H1,R,W)=>some (.value v,H1,R,W)
  |none=>aG P (execOp r o) H
 |.convert s d x=>match FV P s d (r x) H with
  |some y=>y
  |none=>bif sb P s d then aG P (execOp r o) H else none
 |_=>aG P (execOp r o) H
 else none
section
variable {P:un} {F:Array Func} {S:Nat->Bool} {K:Kz} {p:Pi} {Fp:Nat->Prop} {w:nq}
def CQ (a:Array Obj) (o:Obj) (f:Obj->Obj):(a.push o).modify a.size f=a.push (f o):=by
 apply zFO;intro i;rw[zBS,zBK,zBK];by_cases h:i=a.size
 .subst h;simp
 .rw[zAG h,zAG h,zAG (Ne.symm h)]
def Ad {s d:a00} {bs:ByteArray} (h1:P.underlying s=some .string) (h2:P.underlying d=some (.slice e)) (h3:P.underlying e=some (.int .u8)) (hz:Qx P e=1) (h8:K.z e (.int .u8 0)) (Bz:S 999999=false) (hbs:bs.size<4611686018427387904) {H:Hp}
 (hr:Rl P S K p H.get Fp w) (hg:P.globals.size<=H.n) (hn:∀r',¬p H.n r') (hv:v=.slice (some ⟨H.n,0,bif Nat.beq bs.size 0 then some 0 else none⟩) bs.size bs.size) {H1:Hp} (hH:H1=H.push (.cells (bs.data.map λb=>.int .u8 b.toNat) e (1,0))):
 ∃v' w1 q,(Go.convert s d (.string bs)).run (ai P F) w=.ok v' w1/\VR S q v v'/\Mv (λr=>(2^H.n).testBit r=true) p H.n w q H1.n w1/\Rl P S K q H1.get (λr=>Fp r\/(H.n<=r/\r<H1.n)) w1:=by
 subst hH;let w1:nq:={w with drawn:=w.drawn+1}
 let k:=w.tape w.drawn (.appendCap bs.size 0 e)%(2^63-bs.size)
 let el:Array fu:=bs.data.map λb=>.int .u8 b.toNat
 let cells:=el++Array.replicate k (.int .u8 0)
 have rP:cells.size=el.size+k*Qx P e:=by simp[cells,hz]
 have VG:el.size=bs.size:=by simp[el]
 have tS:OR S K p (.cells el e (1,0)) (.cells cells e (cells.size,cells.size+1)):=by
  refine .cS hr.lx e _ _ (by omega) (.inr ⟨λj hj h=>by simp only at h;omega,λh=>by rw[Bz]at h;cases h⟩) (λj u' hj b=>?_) λj u u' a b=>?_
  .have:cells[j]?=(Array.replicate k (Value.int .u8 0))[j-el.size]?:=zDP hj;rw[this,zDX]at b;split at b
   .simp only[zAB]at b;subst b;exact⟨⟨0,rfl⟩,h8⟩
   .cases b
  have hj:=(zAC.1 a).1;have:cells[j]?=el[j]?:=zEK hj;rw[this]at b;have:u'=u:=by rw[a]at b;exact(zAW b).symm
  subst this;have a2:(bs.data.map λb=>Value.int .u8 b.toNat)[j]?=some u':=a;rw[zCP]at a2;cases hx:bs.data[j]? with
  |none=>rw[hx]at a2;cases a2
  |some y=>
   rw[hx]at a2;simp only[zBJ,zAB]at a2;rw[<-a2];exact .int _ _
 obtain⟨g1,g2⟩:=(hr.heap (w2:=w1) rfl).TD (n:=H.n) (k:=k) hn hg tS ⟨_,_,_,_,_,rfl,rfl,rP,(zCB bs.size).imp (λh=>by rw[VG];exact h) λh=>by
  have:=zGC (w.tape w.drawn (.appendCap bs.size 0 e)) (show 0<2^63-bs.size by omega);show w.tape w.drawn (.appendCap bs.size 0 e)%(2^63-bs.size)+1<2^63;omega,by decide⟩ (λm=>Hp.lA H _ m)
 have bh:∃w2,(Go.convert s d (.string bs)).run (ai P F) w=.ok (.slice (some ⟨w.heap.size,0,none⟩) bs.size (bs.size+k)) w2/\w2.heap=w.heap.push (.cells cells e (cells.size,cells.size+1)):=by
  refine⟨{w1 with heap:=w.heap.push (.cells cells e (cells.size,cells.size+1))},?_,rfl⟩;unfold Go.convert;rw[run_underlying h1,run_underlying h2];simp only;rw[run_underlying h3];simp only;unfold Conv.stringToBytes;rw[run_choose rfl];have e0:(Question.appendCap bs.size 0 e).cut (w.tape w.drawn (.appendCap bs.size 0 e))=bs.size+k:=rfl;rw[e0];have e1:bs.size+k-bs.size=k:=by omega
  rw[e1];simp only[Go.newRow,Go.newObj,Go.markStringish,Go.shape,Go.freeze,bind,Sem.bind,Pure.pure,Sem.run,World.shape?,World.freeze,cells,el];simp;show Result.ok _ (World.freeze _ _ 1)=_;unfold World.freeze;simp only[Nat.one_ne_zero,zBC];rw[CQ];rfl
 obtain⟨w2,c1,c2⟩:=bh;refine⟨_,w2,_,c1,?_,(g2.MW (w0:=w) rfl|>.mono λ_ h=>h.elim).heap c2,(g1.heap c2).mono λr h=>h.imp id λ⟨a,b⟩=>?_⟩
 .rw[hv];by_cases h0:bs.size=0
  .rw[h0];exact .gz 0 0 _ hr.lx (.inr ⟨rfl,rfl⟩)
  .rw[jh h0];exact .dI 0 bs.size hr.lx (.inr ⟨rfl,rfl⟩) (by omega) (.inr ⟨rfl,rfl⟩)
 .have b:r<H.n+1:=b;omega
structure Ok (P:un) (F:Array Func) (S:Nat->Bool):Prop where
 nj:S JK=false
 jp:bC P
 eE:aN P
 pG:se P F S
def yE {mx:Option Operand} {y:Rs Next} {H1:Hp} (e:MX mx x y=some (nx,H1,R1,W1)):
 ∃VH,y=some (VH,H1,R1,W1)/\((mx.isNone&&VF x)=false/\nx=VH\/(∀a l,VH≠ .value (.slice (some a) l 0))/\nx=VH\/∃a,a.spot=none/\VH=.value (.slice (some a) 0 0)/\nx=.value (.slice (some ⟨a.block,a.off,some 0⟩) 0 0)):=by
 unfold MX at e;split at e
 .rename_i a l H2 R2 W2;cases hb:(mx.isNone&&VF x)<;>rw[hb]at e<;>simp only[zAU,zAR]at e
  .simp only[zAB,zAH]at e;obtain⟨rfl,rfl,rfl,rfl⟩:=e;exact⟨_,rfl,.inl ⟨rfl,rfl⟩⟩
  .split at e
   .simp only[zAB,zAH]at e;obtain⟨rfl,rfl,rfl,rfl⟩:=e;rename_i oR;exact⟨_,rfl,.inr (.inr ⟨a,oR,rfl,rfl⟩)⟩
   .cases e
 .rename_i bu;refine⟨nx,e,.inr (.inl ⟨λa l h=>?_,rfl⟩)⟩;subst h;exact bu _ _ _ _ _ e
def pP (hk:Ok P F S) (hZ:Yn P K) {r r':Operand->fu} (h:tX P S p r r') (o:Oper) (ho:kA P S o.op=true) {H:Hp} {H1:Hp} (e:nF P r o H=some (nx,H1,R1,W1))
 (hr:Rl P S K p H.get Fp w) (hg:P.globals.size<=H.n) (hn:∀r,H.n<=r->r<H1.n->∀r',¬p r r') (hF:∀r,(R1.testBit r=true\/W1.testBit r=true)->(H.n<=r/\r<H1.n)\/Fp r):
 ∃xi w1 q,(execOp r' o).run (ai P F) w=.ok xi w1/\NX S K q nx xi/\Mv (λr=>W1.testBit r=true) p H.n w q H1.n w1/\Rl P S K q H1.get (λr=>Fp r\/(H.n<=r/\r<H1.n)) w1:=by
 have plain:qI P S o.op=true->Tf o.op=true->mN r o.op=true->aG P (execOp r o) H=some (nx,H1,R1,W1)->∃xi w1 q,(execOp r' o).run (ai P F) w=.ok xi w1/\NX S K q nx xi/\Mv (λr=>W1.testBit r=true) p H.n w q H1.n w1/\Rl P S K q H1.get (λr=>Fp r\/(H.n<=r/\r<H1.n)) w1:=λh1 hs h2 h3=>
  mi (P:=P) (F:=F) _ (SR.execOp (P:=P) (F:=F) (S:=S) (K:=K) (N:=0) (λ_=>hk.nj) hk.jp hk.eE hk.pG h o h1 (λ_=>hs) (λ_=>h2) (λhj=>by rw[hk.nj]at hj;cases hj) hr.ok) h3 hr hg hn hF
 unfold nF at e;cases hE:mN r o.op<;>rw[hE]at e<;>simp only[zAU,zAR]at e
 .cases e
 split at e
 ·
  rename_i t x lo hi mx cr;rw[cr]at ho hE;simp only[kA,zAF,zCO]at ho;obtain⟨Bz,ho⟩:=ho
  have cn:∀y∈o.op.operands,iX P S y=true:=by
   rw[cr];intro y hy;obtain⟨j,hj,he⟩:=zCJ.1 hy;have:=zBP.1 ho j hj;rw[he]at this;exact this
  obtain⟨VH,e1,lq⟩:=yE e;obtain⟨xi,w1,q,c1,c2,c3,c4⟩:=mi (P:=P) (F:=F) _ (SR.H7 (λ_=>Bz) (P:=P) (F:=F) (S:=S) (K:=K) (N:=0) h o cr cn (λ_=>hE) hr.ok) e1 hr hg hn hF;refine⟨xi,w1,q,c1,?_,c3,c4⟩;rcases c2 with c2|⟨_,hmx,v,v',rfl,rfl,⟨b,l,c,hx⟩,a,a',l2,c',rfl,rfl,ha,oR⟩
  .rcases lq with⟨_,rfl⟩|⟨_,rfl⟩|⟨a,VI,rfl,rfl⟩
   .exact c2
   .exact c2
   .cases c2 with
    |value hv=>
     cases hv with
     |slice o sp l c g hX=>
      simp only at VI;subst VI;exact .value (.gz _ _ _ c4.lx g)
     |dI o l _ g h0 hx=>exact absurd h0 (zEV 0)
     |gz o o' c' _ g=>cases VI
     |eD hl=>rw[c4.lx]at hl;cases hl
  .rcases lq with⟨hb,rfl⟩|⟨bu,rfl⟩|⟨a2,_,e2,rfl⟩
   .rw[hmx,hx]at hb;cases hb
   .exact absurd rfl (bu _ _)
   .simp only[Next.value.injEq,Value.slice.injEq,zAB]at e2;obtain⟨rfl,rfl,_⟩:=e2;obtain⟨b1,b2,b3⟩:=a';simp only at oR ha;subst oR;exact .value (.gz _ _ _ c4.lx ha)
 ·
  rename_i as ts cr;rw[cr]at ho;simp only[kA,zAF]at ho;rw[<-cr]at ho;split at e
  .rename_i v H2 R2 W2 ea;simp only[zAB,zAH]at e;obtain⟨rfl,rfl,rfl,rfl⟩:=e;have BD:=ho.1;rw[cr]at BD;simp only[qI,vd,zAF]at BD
   have ha:AR S p (as.map r) (as.map r'):=h.many λx hx=>by
    have hm:x∈(Op.call ⟨.builtin .append,as,ts⟩).operands:=by simp[Op.operands,Call.operands,hx]
    obtain⟨j,hj,he⟩:=zCJ.1 hm;have:=zBP.1 BD.1 j hj;rw[he]at this;exact this
   obtain⟨v',w1,q,c1,c2,c3,c4⟩:=FT (P:=P) (F:=F) hk.jp hZ BD.2 (λt1 h1=>by have:=ho.2;rw[h1]at this;exact this) o.type ha ea hr hg hn hF;refine⟨.value v',w1,q,?_,.value c2,c3,c4⟩;unfold execOp;rw[cr];show((resolve r' ⟨.builtin .append,as,ts⟩ o.type>>=λd=>invoke d.target d.args):Sem Next).run (ai P F) w=_;have c3:=dQ (ai P F) (λv=>(Pure.pure (Next.value v):Sem Next)) _ w c1;exact c3
  .exact plain ho.1 (by rw[cr];rfl) hE e
 ·
  rename_i s d x cr;rw[cr]at ho;simp only[kA,Op.operands,zAF,zCO]at ho;obtain⟨Bz,ho⟩:=ho;have hx:=h.at (by simpa using ho)
  split at e
  .rename_i y hy;subst e;unfold FV at hy;split at hy<;>try(cases hy;done)
   rename_i h1;split at hy<;>try(cases hy;done)
   rename_i el h2;split at hy<;>try(cases hy;done)
   rename_i h3;split at hy<;>try(cases hy;done)
   rename_i bs hbs;simp only[zAB]at hy;cases hz:(Nat.beq (Qx P el) 1&&CP P el&&Nat.blt bs.size 4611686018427387904)<;>rw[hz]at hy<;>simp only[zAU,zAR]at hy
   .cases hy
   simp only[zAF]at hz;obtain⟨i8,hi8,hz8⟩:=FU hz.1.2;simp only[zAB,zAH]at hy;obtain⟨rfl,rfl,rfl,rfl⟩:=hy
   have zeZ:r' x=.string bs:=by
    rw[hbs]at hx;generalize r' x=z at hx;cases hx;rfl
   obtain⟨v',w1,q,c1,c2,c3,c4⟩:=Ad (P:=P) (F:=F) h1 h2 h3 (zAN hz.1.1) (hZ _ _ _ hi8 hz8 _ (by simp[Value.cells])) Bz (zBG hz.2) hr hg (λr'=>hn _ (zAA _) (by simp[Hp.push]) r') (v:=.slice (some ⟨H.n,0,bif Nat.beq bs.size 0 then some 0 else none⟩) bs.size bs.size) rfl (H1:=H.push (.cells (bs.data.map λb=>.int .u8 b.toNat) el (1,0))) rfl;refine⟨.value v',w1,q,?_,.value c2,c3,c4⟩;unfold execOp;rw[cr];show((convert s d (r' x)>>=λv=>(Pure.pure (Next.value v):Sem Next))).run (ai P F) w=_;rw[zeZ];exact dQ (ai P F) (λv=>(Pure.pure (Next.value v):Sem Next)) _ w c1
  .cases hc:sb P s d<;>rw[hc]at e<;>simp only[zAU,zAR]at e
   .cases e
   .refine plain ?_ (by rw[cr];rfl) hE e;rw[cr];simp only[qI,hc,Bool.and_true];exact ho
 .rename_i h1 h2 h3;refine plain ?_ (by cases hh:o.op<;>first|rfl|exact absurd hh (h1 _ _ _ _ _)) hE e;unfold kA at ho;split at ho
  .rename_i cr;exact absurd cr (h1 _ _ _ _ _)
  .rename_i cr;exact absurd cr (h3 _ _ _)
  .rename_i cr;exact absurd cr (h2 _ _)
  .exact ho
end
def JU {P:un} {b:Option Addr} {CM:Nat} {cs:Array fu} {H:Hp} {R0:Nat} {H1:Hp} (h0:Ft H R0 0 H) (h:sk P e size b CM sc cs H R0=some (v,H1,R,W)):Ft H R W H1:=by
 have kP:Ft H R0 (2^H.n) (H.push (.cells cs e (1,0))):=by
  have:=h0.trans (Ft.new H (.cells cs e (1,0)));rw[Nat.or_zero,zFH]at this;exact this
 unfold sk at h;split at h
 .simp only[zAB,zAH]at h;obtain⟨rfl,rfl,rfl,rfl⟩:=h;exact kP
 .rename_i a;cases hs:a.spot.isNone<;>rw[hs]at h<;>simp only[zAU,zAR]at h
  .cases h
  cases hz:Nat.beq sc 0<;>rw[hz]at h<;>simp only[zAU,zAR]at h
  .split at h<;>try(cases h;done)
   rename_i c e' fz hg;cases hb:(Nat.beq a.off 0&&Nat.beq e' e&&Nat.beq c.size (sc*size)&&Nat.ble fz.1 1&&Nat.beq fz.2 0&&Nat.ble P.globals.size a.block&&Nat.blt 0 size)<;>rw[hb]at h<;>simp only[zAU,zAR]at h
   .cases h
   simp only[zAB,zAH]at h;obtain⟨rfl,rfl,rfl,rfl⟩:=h;have:=(h0.trans (Ft.write (H:=H) (b:=a.block) (by rw[hg];rfl) none)).trans (Ft.new (H.put a.block none) (.cells cs e (1,0)));rw[Nat.or_zero,Nat.or_zero,zFH,zEY]at this;rw[zEY]at this;rw[zEY (2^H.n)];exact this
  .simp only[zAB,zAH]at h;obtain⟨rfl,rfl,rfl,rfl⟩:=h;exact kP
def QG {P:un} {H:Hp} {H1:Hp} (h:MV P ts xs H=some (v,H1,R,W)):Ft H R W H1:=by
 unfold MV at h;split at h<;>try(cases h;done)
 split at h<;>try(cases h;done)
 split at h<;>try(cases h;done)
 split at h<;>try(cases h;done)
 split at h<;>try(cases h;done)
 split at h<;>try(cases h;done)
 split at h<;>try(cases h;done)
 split at h<;>try(cases h;done)
 rename_i e1;split at h<;>try(cases h;done)
 rename_i e2;unfold MU at h;have a1:=bM P _ e1;have a2:=bM P _ e2;obtain⟨rfl,rfl⟩:=RO.firstCells P _ _ _ _ _ _ _ _ e1;obtain⟨rfl,rfl⟩:=RO.firstCells P _ _ _ _ _ _ _ _ e2;revert h;generalize(Nat.blt _ _&&_&&_&&_&&_&&_&&_)=c;intro h;cases c<;>simp only[zAU,zAR]at h
 .cases h
 .exact JU (by have:=a1.trans a2;rwa [Nat.or_zero]at this) h
def uB {P:un} {r:Operand->fu} {o:Oper} {H:Hp} {H1:Hp} (e:nF P r o H=some (nx,H1,R,W)):Ft H R W H1:=by
 unfold nF at e;cases hE:mN r o.op<;>rw[hE]at e<;>simp only[zAU,zAR]at e
 .cases e
 split at e
 .obtain⟨VH,e1,_⟩:=yE e;exact bM P _ e1
 .split at e
  .rename_i ea;simp only[zAB,zAH]at e;obtain⟨rfl,rfl,rfl,rfl⟩:=e;exact QG ea
  .exact bM P _ e
 .split at e
  .rename_i y hy;subst e;unfold FV at hy;split at hy<;>try(cases hy;done)
   split at hy<;>try(cases hy;done)
   split at hy<;>try(cases hy;done)
   split at hy<;>try(cases hy;done)
   simp only[zAB]at hy;revert hy;generalize(Nat.beq (Qx P _) 1&&CP P _&&Nat.blt _ 4611686018427387904)=c;intro hy;cases c<;>simp only[zAU,zAR]at hy
   .cases hy
   simp only[zAB,zAH]at hy;obtain⟨rfl,rfl,rfl,rfl⟩:=hy;exact Ft.new _ _
  .revert e;generalize sb P _ _=c;intro e;cases c<;>simp only[zAU,zAR]at e
   .cases e
   .exact bM P _ e
 .exact bM P _ e
section
variable {P:un} {S:Nat->Bool} {K:Kz}
def Rl.congr {p:Pi} {Fp:Nat->Prop} {w:nq} (h:Rl P S K p H1 Fp w) (e:∀r,Fp r->H2 r=H1 r):Rl P S K p H2 Fp w:=
 ⟨λr x o y=>h.blk r x o (by rw[<-e r x];exact y),λr s r' x y a b=>h.inj r s r' x y (by rw[<-e r x];exact a) (by rw[<-e s y];exact b),h.lt,h.xm,h.ok,h.gY,h.lx⟩
def Rl.sub {p:Pi} {Fp:Nat->Prop} {w:nq} (h:Rl P S K p H1 Fp w) (e:∀r o,H2 r=some o->H1 r=some o):Rl P S K p H2 Fp w:=
 ⟨λr x o y=>h.blk r x o (e r o y),λr s r' x y a b=>h.inj r s r' x y (by obtain⟨o,ho⟩:=zDD.1 a;rw[e r o ho];rfl) (by obtain⟨o,ho⟩:=zDD.1 b;rw[e s o ho];rfl),h.lt,h.xm,h.ok,h.gY,h.lx⟩
def Mv.wide {W:Nat->Prop} {p:Pi} {m1:Nat} {w:nq} (h:Mv W p n w q n1 w1) (a:m<=n) (b:n1<=m1):Mv W p m w q m1 w1:=by
 have:=h.nn;exact⟨h.le,by omega,λr r' x=>(h.new r r' x).imp id λ⟨c,d,e⟩=>⟨by omega,by omega,e⟩,λr k x=>(h.Aa r k x).imp id λ⟨c,d⟩=>⟨by omega,by omega⟩,h.size,h.keep⟩
def Mv.MY {W1 W:Nat->Prop} {p:Pi} {w:nq} (h:Mv W1 p n w q n1 w1) (k:Mv W2 q n w1 s n1 w2) (h1:∀r,W1 r->W r) (h2:∀r,W2 r->W r):Mv W p n w s n1 w2:=by
 refine⟨h.le.trans k.le,h.nn,λr r' x=>?_,λr j x=>?_,zAM h.size k.size,λr' sM hW=>?_⟩
 .rcases k.new r r' x with x|⟨a1,a2,a3⟩
  .rcases h.new r r' x with x|⟨b1,b2,b3⟩
   .exact .inl x
   .exact .inr ⟨b1,b2,b3.imp id λ⟨u,c1,c2⟩=>⟨u,h1 u c1,c2⟩⟩
  .refine .inr ⟨a1,a2,?_⟩;rcases a3 with a3|⟨u,c1,c2⟩
   .exact .inl (zAM h.size a3)
   .rcases h.new u r' c2 with y|⟨_,_,y|⟨v,d1,d2⟩⟩
    .exact .inr ⟨u,h2 u c1,y⟩
    .exact .inl y
    .exact .inr ⟨v,h1 v d1,d2⟩
 .rcases k.Aa r j x with x|x
  .exact h.Aa r j x
  .exact .inr x
 .rw[k.keep r' (zAZ sM h.size) λr hr x=>?_,h.keep r' sM λr hr=>hW r (h1 r hr)];rcases h.new r r' x with y|⟨_,_,y|⟨v,d1,d2⟩⟩
  .exact hW r (h2 r hr) y
  .omega
  .exact hW v (h1 v d1) d2
def Rl.join {p:Pi} {h0 h1 h2:Nat->Option Obj} {F W:Nat->Prop} {w:nq} (h:Rl P S K p h0 F w) (m:Mv W p n w q n1 w1) (k:Rl P S K q h1 G w1)
 (hG:∀r,W r->G r) (hF:∀r,W r->F r) (hnw:∀r,n<=r->r<n1->W r) (hn:∀r,n<=r->r<n1->∀r',¬p r r') (hW:∀r,W r->(n<=r/\r<n1)\/(h0 r).isSome) (e1:∀r,W r->h2 r=h1 r) (e0:∀r,¬W r->h2 r=h0 r):
 Rl P S K q h2 F w1:=by
 have old:∀r r',¬W r->q r r'->p r r':=λr r' hr hq=>by
  rcases m.new r r' hq with x|⟨a,b,_⟩
  .exact x
  .exact absurd (hnw r a b) hr
 have alive:∀s r',W s->p s r'->(h0 s).isSome:=λs r' hs hp=>by
  rcases hW s hs with⟨a,b⟩|x
  .exact absurd hp (hn s a b r')
  .exact x
 have mixed:∀r s r',W r->¬W s->F s->(h0 s).isSome->q r r'->q s r'->r=s:=λr s r' hr hs Qy hss hqr hqs=>by
  have ps:=old s r' hs hqs;rcases m.new r r' hqr with x|⟨_,_,x|⟨u,hu,hup⟩⟩
  .exact h.inj r s r' (hF r hr) Qy (alive r r' hr x) hss x ps
  .have:=h.lt s r' ps;omega
  .have:=h.inj u s r' (hF u hu) Qy (alive u r' hu hup) hss hup ps;exact absurd (this▸hu) hs
 refine⟨λr Pu o ho=>?_,λr s r' Pu Qy a b x y=>?_,k.lt,k.xm,k.ok,k.gY,k.lx⟩
 .by_cases hr:W r
  .exact k.blk r (hG r hr) o (by rw[<-e1 r hr];exact ho)
  .rw[e0 r hr]at ho;obtain⟨r',o',a1,a2,a3,a4,a5⟩:=h.blk r Pu o ho;refine⟨r',o',m.le _ _ a1,?_,a3.mono m.le,λj hj=>a4 j ?_,a5.imp (λ⟨j,hj⟩=>⟨j,m.le.x _ _ hj⟩) id⟩
   .rw[m.keep r' (h.lt r r' a1) λs hs hp=>hr ?_]
    .exact a2
    .have:=h.inj s r r' (hF s hs) Pu (alive s r' hs hp) (by rw[ho];rfl) hp a1;exact this▸hs
   .rcases m.Aa r j hj with x|⟨a,b⟩
    .exact x
    .exact absurd a1 (hn r a b r')
 .by_cases hr:W r<;>by_cases hs:W s
  .exact k.inj r s r' (hG r hr) (hG s hs) (by rw[<-e1 r hr];exact a) (by rw[<-e1 s hs];exact b) x y
  .rw[e0 s hs]at b;exact mixed r s r' hr hs Qy b x y
  .rw[e0 r hr]at a;exact(mixed s r r' hs hr Pu a y x).symm
  .rw[e0 r hr]at a;rw[e0 s hs]at b;exact h.inj r s r' Pu Qy a b (old r r' hr x) (old s r' hs y)
end
def bH (b:Frame) (tm:Array fu) (ds:List Deferred) (todo:List Item):Frame:={b with tmps:=tm,todo:=todo,defers:=ds,mode:=.run}
section
variable {P:un} {b:Frame} {tm:Array fu} {ds:List Deferred} {k:List Item} {cs:List Frame} {w:nq}
def bN {fr':Frame} {lM:List Frame} {w':nq} (hm:fr.mode=.run) (h:(stepG.exec P true true fr cs none w).bare=.go {frame:=fr',callers:=lM,status:=.running,dying:=none} w'):
 step P (lone fr cs w)=.next (lone fr' lM w'):=by
 refine step_lone_go ?_;rw[<-h];obtain⟨fn,tmps,todo,ds,mode,kind,ro⟩:=fr;simp only at hm;subst hm;rfl
def uC:step P (lone (bH b tm ds (.code .skip::k)) cs w)=.next (lone (bH b tm ds k) cs w):=bN rfl rfl
def MZ {l:Nat}:step P (lone (bH b tm ds (.code (.label l)::k)) cs w)=.next (lone (bH b tm ds k) cs w):=bN rfl rfl
def FW {id:Nat}:step P (lone (bH b tm ds (.inBlock id::k)) cs w)=.next (lone (bH b tm ds k) cs w):=bN rfl rfl
def FX:step P (lone (bH b tm ds (.inScope c::k)) cs w)=.next (lone (bH b tm ds k) cs w):=bN rfl rfl
def eH {x:Code}:step P (lone (bH b tm ds (.code (.seq x y)::k)) cs w)=.next (lone (bH b tm ds (.code x:: .code y::k)) cs w):=bN rfl rfl
def qV {id:Nat}:step P (lone (bH b tm ds (.code (.block id c)::k)) cs w)=.next (lone (bH b tm ds (.code c:: .inBlock id::k)) cs w):=bN rfl rfl
def Ae:step P (lone (bH b tm ds (.code (.loop c)::k)) cs w)=.next (lone (bH b tm ds (.code c:: .inLoop c::k)) cs w):=bN rfl rfl
def JV:step P (lone (bH b tm ds (.inLoop c::k)) cs w)=.next (lone (bH b tm ds (.code c:: .inLoop c::k)) cs w):=bN rfl rfl
def M0:step P (lone (bH b tm ds (.code (.scope c)::k)) cs w)=.next (lone (bH b tm ds (.code c:: .inScope c::k)) cs w):=bN rfl rfl
def oE {c:Operand} {x:Code} {t:Bool} (h:(bH b tm ds (.code (.cond c x y)::k)).eval c=.bool t):
 step P (lone (bH b tm ds (.code (.cond c x y)::k)) cs w)=.next (lone (bH b tm ds (.code (if t then x else y)::k)) cs w):=by
 refine bN rfl ?_;unfold stepG.exec;simp only[bH]at h⊢;rw[h];rfl
def QH {id:Nat} (h:exitTo id k=some k'):step P (lone (bH b tm ds (.code (.exit id)::k)) cs w)=.next (lone (bH b tm ds k') cs w):=by
 refine bN rfl ?_;rw[Go.aD.eL true rfl,h];rfl
def QI {id:Nat} (h:gotoIn id k=some k'):step P (lone (bH b tm ds (.code (.goto id)::k)) cs w)=.next (lone (bH b tm ds k') cs w):=by
 refine bN rfl ?_;rw[Go.aD.eM true rfl,h];rfl
def jz {id:Nat}:step P (lone (bH b tm ds (.code (.region id ops false)::k)) cs w)=.next (lone (bH b tm ds (.inRegion ops (List.range ops.size)::k)) cs w):=bN rfl rfl
def Ip {id:Nat}:∃t w1,w1.heap=w.heap/\step P (lone (bH b tm ds (.code (.region id ops true)::k)) cs w)=.next (lone (bH b tm ds (.inRegion ops (Region.schedule (P.follows .mixedOrders) ops t)::k)) cs w1):=by
 refine⟨(Question.order b.fn id).cut (w.tape w.drawn (.order b.fn id)),{w with drawn:=w.drawn+1},rfl,bN rfl ?_⟩;unfold stepG.exec;simp[bH,choose,Sem.run,pure,Question.forced]
def eI:step P (lone (bH b tm ds (.inRegion ops []::k)) cs w)=.next (lone (bH b tm ds k) cs w):=bN rfl rfl
def Af (b:Frame) (tm:Array fu) (ds:List Deferred) (k:List Item) (x:Operand):(bH b tm ds k).eval x=match x with
 |.tmp t=>tm.getD t undef
 |.const v=>v
 |.global g=>.pointer (some ⟨g,0,none⟩)
 |.func f=>.func (.func f) #[] #[]:=by cases x<;>rfl
def jM (tm:Array fu) (dst:Option Tmp) (v:fu):Array fu:=match dst with
 |some d=>tm.setIfInBounds d v
 |none=>tm
def lB {i:Nat} (v:fu) {o:Oper} (ho:ops[i]?=some o):
 (bH b tm ds (.inRegion ops (i::rest)::k)).finish v=bH b (jM tm o.dst v) ds (.inRegion ops rest::k):=by
 unfold Frame.finish bH jM;simp only[ho,zDT];cases o.dst<;>rfl
def qW:Op->Bool
 |.defer _=>false
 |_=>true
def Ag {i:Nat} {o:Oper} (ho:ops[i]?=some o) (hw:Region.wanted o (yielded ops tm)=true) (hd:qW o.op=true):
 stepG.exec P true true (bH b tm ds (.inRegion ops (i::rest)::k)) cs none w=stepG.apply P true (bH b tm ds (.inRegion ops (i::rest)::k)) cs none (execOp (bH b tm ds (.inRegion ops (i::rest)::k)).eval o) w:=by
 have e1:(Option.map (λx=>Region.wanted x (yielded ops tm)) ops[i]?).getD false=true:=by rw[ho];exact hw
 unfold stepG.exec;simp only[bH,e1,zBM];unfold stepG.oper;simp only[Frame.oper?,ho];cases b.roundOf with
 |none=>rfl
 |some l=>cases h:o.op<;>first|rfl|(rw[h]at hd;cases hd)
def pv {i:Nat} {o:Oper} (ho:ops[i]?=some o) (hw:Region.wanted o (yielded ops tm)=false):
 step P (lone (bH b tm ds (.inRegion ops (i::rest)::k)) cs w)=.next (lone (bH b (jM tm o.dst undef) ds (.inRegion ops rest::k)) cs w):=by
 refine bN rfl ?_;have e1:(Option.map (λx=>Region.wanted x (yielded ops tm)) ops[i]?).getD false=false:=by rw[ho];exact hw
 rw[<-lB undef ho];unfold stepG.exec;simp only[bH,e1,zAL,zBC];rfl
def sm (P:un):Next->Option Frame
 |.enter f args=>some (Frame.enter P f args .normal)
 |.round l f tmps a c=>some (Frame.round l f tmps a c .normal)
 |_=>none
def QJ:List Item->Bool
 |.call .. ::_=>false
 |.extern .. ::_=>false
 |_=>true
def jN (hc:QJ fr.todo=true) {s:Sem Next} (hr:s.run P w=.ok nx w1):
 (∀v,nx=.value v->(stepG.apply P true fr cs none s w).bare=.go {frame:=fr.finish v,callers:=cs,status:=.running,dying:=none} w1)/\
 (nx=.skip->(stepG.apply P true fr cs none s w).bare=.go {frame:=fr.finish undef,callers:=cs,status:=.running,dying:=none} w1)/\
 (∀g,sm P nx=some g->(stepG.apply P true fr cs none s w).bare=.go {frame:=g,callers:=fr::cs,status:=.running,dying:=none} w1):=by
 have hk:∀(ds:List Deferred),(match fr.todo with|.call _ true _ _::_=>CallKind.wrapped|_=>.normal)=.normal:=by
  intro _;generalize fr.todo=t at hc;cases t with
  |nil=>rfl
  |cons i t=>cases i<;>first|rfl|cases hc
 have hk:=hk [];refine⟨λv e=>?_,λe=>?_,λg e=>?_⟩
 .subst e;unfold stepG.apply;simp only[Sem.runT_eq,hr,zBM,GStep.bare_after];rfl
 .subst e;unfold stepG.apply;simp only[Sem.runT_eq,hr,zBM,GStep.bare_after];rfl
 .obtain⟨fn,tmps,todo,ds,mode,kind,ro⟩:=fr;simp only at hk hc;cases nx<;>simp only[sm,zAB,reduceCtorEq]at e
  .subst e;unfold stepG.apply;simp only[Sem.runT_eq,hr,zBM,GStep.bare_after];cases todo with
   |nil=>rfl
   |cons i t=>cases i<;>first|rfl|cases hc
  .subst e;unfold stepG.apply;simp only[Sem.runT_eq,hr,zBM,GStep.bare_after];cases todo with
   |nil=>rfl
   |cons i t=>cases i<;>first|rfl|cases hc
def zai (P:un) (nx:Next) (fr:Frame) (cs:List Frame) (w:nq) (Q:fu->nq->Prop):Prop:=
 ∃g v w1,sm P nx=some g/\Steps P (lone g (fr::cs) w) (lone (fr.finish v) cs w1)/\Q v w1
end
end Go.aD
