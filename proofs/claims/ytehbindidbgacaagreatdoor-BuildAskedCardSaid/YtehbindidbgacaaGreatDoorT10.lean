/- A part. Conditions: none. -/
import Derived.Test.YtehbindidbgacaaGreatDoorT09
set_option linter.all false
namespace Go.Ev
open Go.aB (aa bi bn eS bu fC bR bN bQ aC aD bB d8 cz cy bH aA aU aT bY bG bl)
variable {H H1:Hp} {H2:Nat->Option Obj} {R R1 W1 id n n1 sc size sl:Nat} {W:Nat->Prop} {a:Addr} {c y:Code} {e t:TypeId} {fr:Frame} {i:TypeInfo} {k':List Item} {nx:Next} {o:Oper} {ops:Array Oper} {q:Pi} {r:Operand->Value} {rest:List Nat} {ts:Array TypeId} {v x x' z:Value} {w1 w2:World} {xs:Array Value} {α β:Type}
theorem wD {c:Nat} (h:c<n):Builtin.nextslicecap n c<=2*n+768:=by
 unfold Builtin.nextslicecap;split
 .omega
 .split
  .omega
  .have:∀(r c:Nat),c<n+(n+768)/4+1->Builtin.growBy n r c<=2*n+768:=by
    intro r;induction r with
    |zero=>intro c hc;simp only[Builtin.growBy];omega
    |succ r ih=>
     intro c hc;simp only[Builtin.growBy];split
     .omega
     .exact ih _ (by omega)
   exact this 4 c (by omega)
def RO (P:Program) (s:Sem α):Prop:=∀H a H1 R W,an P s H=some (a,H1,R,W)->H1=H/\W=0
theorem RO.pure {P:Program} (a:α):RO P (Pure.pure a:Sem α):=fun H b H1 R W h=>by
 have h:some (a,H,0,0)=some (b,H1,R,W):=h;simp only[Option.some.injEq,Prod.mk.injEq]at h;exact⟨h.2.1.symm,h.2.2.2.symm⟩
theorem RO.none {P:Program} {s:Sem α} (h:∀H,an P s H=.none):RO P s:=fun H a H1 R W e=>by rw[h]at e;cases e
theorem RO.load {P:Program} {k:Value->Sem α} (h:∀v,RO P (k v)):RO P (Sem.load .plain a k):=fun H b H1 R W e=>by
 simp only[an]at e;split at e<;>try(cases e;done)
 split at e<;>try(cases e;done)
 split at e<;>try(cases e;done)
 obtain⟨R0,e2,_⟩:=eH e;exact h _ _ _ _ _ _ e2
theorem RO.loadCells (P:Program):∀(n:Nat) (a:Addr) (i:Nat) (acc:Array Value),RO P (Go.loadCellsFrom a i n acc)
 |0,_,_,_=>RO.pure _
 |n+1,a,i,acc=>by
  simp only[Go.loadCellsFrom];exact RO.load fun v=>RO.loadCells P n a (i+1) _
theorem RO.firstCells (P:Program) (s n:Nat) (x:Value):RO P (Builtin.firstCells s n x):=by
 cases x<;>first|exact RO.none fun _=>rfl|skip
 .exact RO.pure _
 .rename_i a l c;cases a with
  |none=>exact RO.pure _
  |some a=>exact RO.loadCells P _ a 0 _
def ud:Value->Option Nat
 |.slice _ n _=>some n
 |.string s=>some s.size
 |_=>none
theorem qn (h:ud x=some n):Builtin.lenOf x=Pure.pure n:=by
 cases x<;>simp only[ud,Option.some.injEq,reduceCtorEq]at h<;>(subst h;rfl)
def mc (P:Program) (e:TypeId) (size:Nat) (b:Option Addr) (ue sc:Nat) (cs:Array Value) (H:Hp) (R:Nat):Rs Value:=
 match b with
 |none=>some (.slice (some ⟨H.n,0,none⟩) ue ue,H.push (.cells cs e (1,0)),R,2^H.n)
 |some a=>bif a.spot.isNone then bif Nat.beq sc 0 then some (.slice (some ⟨H.n,0,none⟩) ue ue,H.push (.cells cs e (1,0)),R,2^H.n)
  else match H.get a.block with
   |some (.cells c e' fz)=>bif Nat.beq a.off 0&&Nat.beq e' e&&Nat.beq c.size (sc*size)&&Nat.ble fz.1 1&&Nat.beq fz.2 0&&Nat.ble P.globals.size a.block&&Nat.blt 0 size then
     some (.slice (some ⟨H.n,0,none⟩) ue ue,(H.put a.block none).push (.cells cs e (1,0)),R,2^H.n|||2^a.block)else none
   |_=>none else none
def Bw (P:Program) (e:TypeId) (i:TypeInfo) (b:Option Addr) (sl sc n:Nat) (z:Value) (old new:Array Value) (H:Hp) (R:Nat):Rs Value:=
 bif Nat.blt sc (sl+n)&&Nat.ble ((2*(sl+n)+768)*i.bytes) (2^48)&&Nat.blt (sl+n) (2^62)&&Nat.beq z.cells.size i.size&&Nat.beq new.size (n*i.size)&&Nat.beq old.size (sl*i.size)&&new.all cu then
  mc P e i.size b (sl+n) sc (old++new) H R else none
def Bx (P:Program) (ts:Array TypeId) (xs:Array Value) (H:Hp):Rs Value:=
 match ts[0]? with
 |none=>none
 |some sT=>match(xs[0]?:Option Value)with
  |some (.slice b sl sc)=>match(xs[1]?:Option Value)with
   |none=>none
   |some x=>match P.underlying sT with
    |some (.slice e)=>match P.info? e with
     |none=>none
     |some i=>match ud x with
      |none=>none
      |some n=>match i.zero with
       |none=>none
       |some z=>match an P (Builtin.firstCells i.size sl (.slice b sl sc)) H with
        |none=>none
        |some (old,_,R1,_)=>match an P (Builtin.firstCells i.size n x) H with
         |none=>none
         |some (new,_,R2,_)=>Bw P e i b sl sc n z old new H (R1|||R2)
    |_=>none
  |_=>none
section
variable {P:Program} {F:Array Func} {S:Nat->Bool} {K:Kz} {p:Pi} {Fp:Nat->Prop} {w:World}
theorem cD (Q:Program) (f:α->Sem β) {a:α}:∀(s:Sem α) (w:World),s.run Q w=.ok a w1->(s>>=f).run Q w=(f a).run Q w1:=by
 intro s;show∀(w:World),s.run Q w=.ok a w1->(s.bind f).run Q w=(f a).run Q w1;induction s with
 |pure x=>intro w e;simp only[Sem.run,Result.ok.injEq]at e;obtain⟨rfl,rfl⟩:=e;rfl
 |load m a k ih=>
  intro w e;simp only[Sem.bind,Sem.run]at e⊢;split
  .rename_i h;rw[h]at e;exact ih _ w e
  .rename_i h;rw[h]at e;simp only at e;split
   .rename_i h2;rw[h2]at e;exact ih _ w e
   .rename_i h2;rw[h2]at e;cases e
 |store m a v k ih=>
  intro w e;cases xO:cu v with
  |false=>cases v<;>first|(cases xO;done)|(simp only[Sem.run]at e;cases e)
  |true=>
   have key:∀{γ:Type} (k:Sem γ),(Sem.store m a v k).run Q w=match w.cell? a with
    |some _=>if w.frozen? a then .halt (.unsupported (.unsafePointer "a write to bytes that a string shares")) w else k.run Q (w.setCell a v)
    |none=>match w.farStore Q a v (m== .atomic)with
     |.ok (w,_)=>k.run Q w
     |.error h=>.halt h w:=fun k=>by cases v<;>first|(cases xO;done)|rfl
   simp only[Sem.bind];rw[key]at e⊢;split
   .rename_i h;rw[h]at e;simp only at e;split
    .rename_i h2;rw[if_pos h2]at e;cases e
    .rename_i h2;rw[if_neg h2]at e;exact ih _ e
   .rename_i h;rw[h]at e;simp only at e;split
    .rename_i h2;rw[h2]at e;exact ih _ e
    .rename_i h2;rw[h2]at e;cases e
 |new o k ih=>intro w e;exact ih _ _ e
 |shape r k ih=>intro w e;exact ih _ _ e
 |freeze a n k ih=>intro w e;exact ih _ e
 |frozen a k ih=>intro w e;exact ih _ _ e
 |getObj r k ih=>
  intro w e;simp only[Sem.bind,Sem.run]at e⊢;cases ho:w.heap[r]? with
  |none=>rw[ho]at e;cases e
  |some o'=>rw[ho]at e;cases o'<;>first|exact ih _ _ e|(cases e;done)
 |setObj r o k ih=>
  intro w e;simp only[Sem.bind,Sem.run]at e⊢;cases ho:w.heap[r]? with
  |none=>rw[ho]at e;cases e
  |some o'=>rw[ho]at e;cases o'<;>first|exact ih _ e|(cases e;done)
 |choose q k ih=>
  intro w e;simp only[Sem.bind,Sem.run]at e⊢;split at e
  .rename_i hq;simp only[hq,if_true];exact ih _ _ e
  .rename_i hq;simp only[hq,if_false,Bool.false_eq_true];exact ih _ _ e
 |sys c k ih=>intro w e;exact ih _ _ e
 |program k ih=>intro w e;exact ih _ _ e
 |mark m k ih=>intro w e;exact ih _ e
 |halt x=>intro w e;simp only[Sem.run]at e;cases e
theorem run_typeInfo (h:P.info? t=some i) (f:TypeInfo->Sem β) (w:World):(Go.typeInfo t>>=f).run (aa P F) w=(f i).run (aa P F) w:=by
 show(Sem.bind (match(aa P F).info? t with|some i=>Pure.pure i|none=>Go.stuck "no such type") f).run (aa P F) w=_;rw[bY,h];rfl
theorem run_underlying {i:TypeDesc} (h:P.underlying t=some i) (f:TypeDesc->Sem β) (w:World):(Go.underlying t>>=f).run (aa P F) w=(f i).run (aa P F) w:=by
 show(Sem.bind (match(aa P F).underlying t with|some i=>Pure.pure i|none=>Go.stuck "no such type") f).run (aa P F) w=_;rw[aA,h];rfl
theorem run_sizeOf (h:P.info? t=some i) (f:Nat->Sem β) (w:World):(Go.sizeOf t>>=f).run (aa P F) w=(f i.size).run (aa P F) w:=by
 show((Go.typeInfo t>>=fun i=>Pure.pure i.size)>>=f).run (aa P F) w=_;have:=cD (aa P F) f (a:=i.size) (w1:=w) (Go.typeInfo t>>=fun i=>Pure.pure i.size) w (by rw[run_typeInfo h];rfl);exact this
theorem pH (h:P.info? t=some i) (hz:i.zero=some z) (f:Value->Sem β) (w:World):(Go.zeroValue t>>=f).run (aa P F) w=(f z).run (aa P F) w:=
 cD (aa P F) f (a:=z) (w1:=w) (Go.zeroValue t) w (by unfold Go.zeroValue;rw[run_typeInfo h,hz];rfl)
theorem run_choose {q:Question} (hq:q.forced=false) (f:Nat->Sem β) (w:World):(Go.choose q>>=f).run (aa P F) w=(f (q.cut (w.tape w.drawn q))).run (aa P F) {w with drawn:=w.drawn+1}:=by
 show(Sem.choose q f).run _ _=_;simp only[Sem.run,hq,Bool.false_eq_true,if_false]
theorem run_askRoom (n:Nat) (f:Unit->Sem β) (w:World):(Go.askRoom n>>=f).run (aa P F) w=(f ()).run (aa P F) w:=by
 unfold Go.askRoom;split<;>rfl
theorem wE (ht:j0 P ts=true) (t:TypeId) {sT:TypeId} {b:Option Addr} (h0:ts[0]?=some sT) (h1:xs[0]?=some (.slice b sl sc)) (h2:xs[1]?=some x)
 (hu:P.underlying sT=some (.slice e)) (hi:P.info? e=some i) (P8:∀t1,ts[1]?=some t1->(P.underlying t1).isSome) (w:World):(Builtin.append_ ts t xs).run (aa P F) w=(bu e b sl sc i.size x).run (aa P F) w:=by
 unfold Builtin.append_;rw[h0,h1,h2];simp only;rw[run_underlying hu];simp only;rw[run_sizeOf hi];cases h3:ts[1]? with
 |none=>
  unfold aB.bu aB.fC aB.bR;cases b<;>simp only[pure_bind,Bool.false_eq_true,if_false,Bool.not_false,if_true,false_or]
 |some t1=>
  obtain⟨u,TW⟩:=Option.isSome_iff_exists.1 (P8 t1 h3);simp only[j0,h3,TW]at ht;simp only;rw[run_underlying TW];have e0:(match u with|.int _=>true|_=>false)=false:=by cases u<;>first|(cases ht;done)|rfl
  unfold aB.bu aB.fC aB.bR;cases u<;>first|(cases ht;done)|skip
  all_goals(cases b<;>simp only[pure_bind,Bool.false_eq_true,if_false,Bool.not_false,if_true,false_or])
end
section
variable {P:Program} {F:Array Func} {S:Nat->Bool} {K:Kz} {p:Pi} {Fp:Nat->Prop} {w:World}
theorem Rl.heap {H:Nat->Option Obj} (h:Rl P S K p H Fp w) (e:w2.heap=w.heap):Rl P S K p H Fp w2:=
 ⟨fun r x o y=>by rw[e];exact h.blk r x o y,h.inj,fun r r' x=>by rw[e];exact h.lt r r' x,h.xm,h.ok,by rw[e];exact h.dY⟩
theorem Mv.heap (h:Mv W p n w q n1 w1) (e:w2.heap=w1.heap):Mv W p n w q n1 w2:=
 ⟨h.le,h.nn,h.new,h.rY,by rw[e];exact h.size,fun r a b=>by rw[e];exact h.keep r a b⟩
theorem Mv.By (h:Mv W p n w q n1 w1) {w0:World} (e:w0.heap=w.heap):Mv W p n w0 q n1 w1:=
 ⟨h.le,h.nn,fun r r' x=>by rw[e];exact h.new r r' x,h.rY,by rw[e];exact h.size,fun r a b=>by rw[e]at a⊢;exact h.keep r a b⟩
def aK (s:Sem α):Prop:=∀Q w b w1,s.run Q w=.ok b w1->w1=w
theorem aK.loadCells:∀(n:Nat) (a:Addr) (i:Nat) (acc:Array Value),aK (Go.loadCellsFrom a i n acc)
 |0,_,_,_=>fun Q w b w1 h=>by
  have h:Result.ok _ w=.ok b w1:=h;simp only[Result.ok.injEq]at h;exact h.2.symm
 |n+1,a,i,acc=>fun Q w b w1 h=>by
  simp only[Go.loadCellsFrom]at h;have h:(Sem.load .plain (a.add i) fun v=>Go.loadCellsFrom a (i+1) n (acc.push v)).run Q w=.ok b w1:=h;simp only[Sem.run]at h;split at h
  .exact aK.loadCells n a (i+1) _ _ _ _ _ h
  .split at h
   .exact aK.loadCells n a (i+1) _ _ _ _ _ h
   .cases h
theorem aK.firstCells (s n:Nat) (x:Value):aK (Builtin.firstCells s n x):=by
 intro Q w b w1 h;have key:∀c:Array Value,Result.ok c w=.ok b w1->w1=w:=fun c h=>by simp only[Result.ok.injEq]at h;exact h.2.symm
 cases x with
 |string s=>exact key _ h
 |slice a l c=>
  cases a with
  |none=>exact key _ h
  |some a=>exact aK.loadCells _ a 0 _ Q w b w1 h
 |_=>cases h
theorem qo (hr:Rl P S K p H.get Fp w) (hg:P.globals.size<=H.n) (hx:VR S p x x') (hn:∀b c,x=.slice b 0 c->n=0) {cs:Array Value} {Ha:Hp} {W:Nat} (e:an P (Builtin.firstCells size n x) H=some (cs,Ha,R,W))
 (hF:∀r,R.testBit r=true->Fp r) (hw:w2.heap=w.heap):∃fA,(Builtin.firstCells size n x').run (aa P F) w2=.ok fA w2/\AR S p cs fA:=by
 obtain⟨rfl,rfl⟩:=RO.firstCells P size n x _ _ _ _ _ e;obtain⟨fA,w1,q,h1,h2,h3,_⟩:=iK (P:=P) (F:=F) (K:=K) (Builtin.firstCells size n x) (SR.firstCells (P:=P) (F:=F) (S:=S) (K:=K) (N:=0) size n hx hn (hr.heap hw).ok) e (hr.heap hw) hg (fun r a b=>by omega) (fun r h=>.inr (h.elim (hF r) fun h=>by simp at h));have:=aK.firstCells _ _ _ _ _ _ _ h1;subst this;refine⟨fA,h1,AR.mono ⟨fun r r' x=>?_,fun r k x=>?_,fun _ _ _ _ x=>h3.le.x _ _ x⟩ h2⟩
 .rcases h3.new r r' x with y|⟨a,b,_⟩
  .exact y
  .omega
 .rcases h3.rY r k x with y|⟨a,b⟩
  .exact y
  .omega
theorem uf (hx:VR S p x x') (h:ud x=some n):ud x'=some n:=by
 cases hx<;>first|exact h|(simp only[ud,reduceCtorEq]at h;done)
theorem js:∀(n:Nat) (v:Value),plain n v=true->∀u∈v.cells,∃m,plain m u=true:=by
 intro n v h u hu;cases v with
 |agg xs=>
  cases n with
  |zero=>simp[plain]at h
  |succ n=>
   simp only[plain]at h;exact⟨n,Array.all_eq_true'.1 h u (by simpa [Value.cells]using hu)⟩
 |_=>simp[Value.cells]at hu;subst hu;exact⟨n,h⟩
theorem nt {z:Array Value} {X:Value->Prop} (h:∀u∈z,X u) (k:Nat) {j:Nat} {u:Value} (hj:(Builtin.zeroCells z k)[j]?=some u):X u:=by
 unfold Builtin.zeroCells at hj;rw[Array.getElem?_map]at hj;cases hr:(Array.range (k*z.size))[j]? with
 |none=>rw[hr]at hj;cases hj
 |some x=>
  rw[hr]at hj;simp only[Option.map_some,Option.some.injEq]at hj;subst hj;have ao:=(Array.getElem?_eq_some_iff.1 hr).1;simp at ao
  have hz:0<z.size:=by
   rcases Nat.eq_zero_or_pos z.size with h|h
   .rw[h]at ao;omega
   .exact h
  have hm:x%z.size<z.size:=Nat.mod_lt _ hz;rw[getElem!_pos z (x%z.size) hm];exact h _ (Array.getElem_mem hm)
theorem rZ (hi:P.info? e=some i) (hz:i.zero=some z) (P9:∀u∈z.cells,(∃m,plain m u=true)/\K.z e u) (V6:z.cells.size=i.size) {b b':Option Addr} {pm:Nat} (hs:VR S p (.slice b sl sc) (.slice b' sl pm)) (hx:VR S p x x') (hlen:ud x=some n)
 (L6:sc<sl+n) (ua:(2*(sl+n)+768)*i.bytes<=2^48) (L7:sl+n<2^62) {old new:Array Value} (hold:old.size=sl*i.size) (gW:new.size=n*i.size) (xO:∀v∈new,cu v=true)
 (hr:Rl P S K p H.get Fp w) (hg:P.globals.size<=H.n) (ho:∀w2:World,w2.heap=w.heap->∃fA,(Builtin.firstCells i.size sl (.slice b' sl pm)).run (aa P F) w2=.ok fA w2/\AR S p old fA)
 (hw:∀w2:World,w2.heap=w.heap->∃fA,(Builtin.firstCells i.size n x').run (aa P F) w2=.ok fA w2/\AR S p new fA) (he:mc P e i.size b (sl+n) sc (old++new) H R=some (v,H1,R1,W1))
 (hn:∀r',¬p H.n r') (hF:∀r,W1.testBit r=true->(H.n<=r/\r<H1.n)\/Fp r)
 (V7:∀a c e' fz,b=some a->H.get a.block=some (.cells c e' fz)->a.off=0->c.size=sc*i.size->a.spot=none->∀j,j<old.size->old[j]?=c[j]?):
 ∃v' w1 q,(bu e b' sl pm i.size x').run (aa P F) w=.ok v' w1/\VR S q v v'/\Mv (fun r=>W1.testBit r=true) p H.n w q H1.n w1/\Rl P S K q H1.get (fun r=>Fp r\/(H.n<=r/\r<H1.n)) w1:=by
 have I0:Ey P e=i.size:=by unfold Ey;rw[hi];rfl
 have grow:∀{H2:Nat->Option Obj},Rl P S K p H2 Fp w->pm<sl+n->(∀m,H1.get m=if m=H.n then some (.cells (old++new) e (1,0))else H2 m)->v=.slice (some ⟨H.n,0,none⟩) (sl+n) (sl+n)->H1.n=H.n+1->
  ∃v' w1 q,(bu e b' sl pm i.size x').run (aa P F) w=.ok v' w1/\VR S q v v'/\Mv (fun r=>W1.testBit r=true) p H.n w q H1.n w1/\Rl P S K q H1.get (fun r=>Fp r\/(H.n<=r/\r<H1.n)) w1:=by
  intro H2 pr ao L9 hv tp;let w1:World:={w with drawn:=w.drawn+1}
  let k:=w.tape w.drawn (.appendCap (sl+n) pm e)%(2^63-(sl+n))
  obtain⟨EA,Gz,DP⟩:=ho w1 rfl;obtain⟨sa,nB,tf⟩:=hw w1 rfl;let cells:=EA++sa++Builtin.zeroCells z.cells k
  have pn:cells.size=(old++new).size+k*i.size:=by
   show(EA++sa++Builtin.zeroCells z.cells k).size=_;unfold Builtin.zeroCells;simp only[Array.size_append,Array.size_map,Array.size_range,V6,DP.1,tf.1]
  have nf:OR S K p (.cells (old++new) e (1,0)) (.cells cells e (0,0)):=by
   refine .cU e (1,0) (0,0) (by rw[pn];omega) (.inr ⟨fun j _ h=>by omega,fun _=>rfl⟩) (fun j u' hj h2=>?_) fun j u u' h1 h2=>?_
   .have OG:=DP.append tf;have:cells[j]?=(Builtin.zeroCells z.cells k)[j-(EA++sa).size]?:=Array.getElem?_append_right (by rw[<-OG.1];exact hj);rw[this]at h2;exact nt P9 k h2
   have hj:j<(old++new).size:=(Array.getElem?_eq_some_iff.1 h1).1;have OG:=DP.append tf;have:cells[j]?=(EA++sa)[j]?:=Array.getElem?_append_left (by rw[<-OG.1];exact hj);rw[this]at h2;exact OG.2 j u u' h1 h2
  obtain⟨g1,g2⟩:=(pr.heap (w2:=w1) rfl).GT (n:=H.n) (k:=k) hn hg nf ⟨_,_,_,_,_,rfl,rfl,by rw[pn,I0],.inr (by have:=Nat.mod_lt (w.tape w.drawn (.appendCap (sl+n) pm e)) (show 0<2^63-(sl+n) by omega);show w.tape w.drawn (.appendCap (sl+n) pm e)%(2^63-(sl+n))+1<2^63;omega),by decide⟩ L9;refine⟨.slice (some ⟨w.heap.size,0,none⟩) (sl+n) (sl+n+k),_,_,?_,?_,by rw[tp];exact(g2.By (w0:=w) rfl).mono fun _ h=>h.elim,g1.mono fun r h=>h.imp id fun⟨a,b⟩=>by omega⟩
  .unfold aB.bu;rw[qn (uf hx hlen)];simp only[pure_bind];rw[if_neg (by omega),run_typeInfo hi]
   rw[if_neg (by rintro⟨h1,_⟩;have e9:IntKind.i64.max=9223372036854775807:=by decide
                 rw[e9]at h1;omega)]
   unfold aB.fC;rw[run_typeInfo hi,if_neg ?_]
   .unfold aB.bR;rw[run_choose rfl,run_typeInfo hi,run_askRoom];rw[cD (aa P F) _ _ _ Gz,cD (aa P F) _ _ _ nB,pH hi hz];have e0:(Question.appendCap (sl+n) pm e).cut (w.tape w.drawn (.appendCap (sl+n) pm e))=sl+n+k:=rfl;rw[e0];have e1:sl+n+k-(sl+n)=k:=by omega
    rw[e1];rfl
   .have:=wD ao;have:=Nat.mul_le_mul_right i.bytes this;omega
  .rw[hv];exact .dg 0 (sl+n) (.inr ⟨rfl,rfl⟩) (by omega) (.inr ⟨rfl,rfl⟩)
 obtain⟨_,ni⟩:=fK hs;unfold mc at he;cases b with
 |none=>
  simp only[Option.some.injEq,Prod.mk.injEq]at he;obtain⟨rfl,rfl,rfl,rfl⟩:=he;refine grow (H2:=H.get) hr ?_ (fun m=>Hp.iq H _ m) rfl rfl;rcases ni with⟨_,_,e⟩|⟨a,_,e,_⟩|⟨_,_,a,_,e,_⟩
  .omega
  .cases e
  .cases e
 |some a=>
  simp only at he;cases jX:a.spot with
  |some y=>rw[jX]at he;cases he
  |none=>
  rw[jX]at he;simp only[Option.isNone_none,cond_true]at he;by_cases EC:sc=0
  .subst EC;simp only[Nat.beq_refl,cond_true,Option.some.injEq,Prod.mk.injEq]at he;obtain⟨rfl,rfl,rfl,rfl⟩:=he;refine grow (H2:=H.get) hr ?_ (fun m=>Hp.iq H _ m) rfl rfl;rcases ni with⟨_,_,e⟩|⟨a2,_,e,_,_,e2|⟨h0,_⟩⟩|⟨_,_,a2,_,e,_,e2⟩
   .omega
   .omega
   .omega
   .cases e;rw[jX]at e2;cases e2
  .rw[fm EC]at he;simp only[cond_false]at he;split at he<;>try(cases he;done)
   rename_i c e' fz tK;cases hb:(Nat.beq a.off 0&&Nat.beq e' e&&Nat.beq c.size (sc*i.size)&&Nat.ble fz.1 1&&Nat.beq fz.2 0&&Nat.ble P.globals.size a.block&&Nat.blt 0 i.size)<;>rw[hb]at he<;>simp only[cond_true,cond_false]at he
   .cases he
   simp only[Bool.and_eq_true]at hb;obtain⟨⟨⟨⟨⟨⟨b1,b2⟩,b3⟩,b4⟩,b5⟩,b6⟩,b7⟩:=hb;have Qa:i.size≠0:=fun e=>by rw[e]at b7;cases b7
   have b1:=Nat.eq_of_beq_eq_true b1;have b2:=Nat.eq_of_beq_eq_true b2;have b3:=Nat.eq_of_beq_eq_true b3;have b5:=Nat.eq_of_beq_eq_true b5;have b6:=Nat.le_of_ble_eq_true b6;subst b2;simp only[Option.some.injEq,Prod.mk.injEq]at he;obtain⟨rfl,rfl,rfl,rfl⟩:=he
   have bC:a.block≠H.n:=fun e=>by
    rcases ni with⟨e1,_⟩|⟨a2,V8,e1,_,h3,_⟩|⟨_,_,a2,_,e1,_,e2⟩
    .cases e1
    .cases e1;exact hn _ (e▸h3.1)
    .cases e1;rw[jX]at e2;cases e2
   have Bv:Fp a.block:=(hF a.block (by rw[Nat.testBit_or,(tb _ _).2 rfl,Bool.or_true])).resolve_left fun⟨x,y⟩=>by
    have y:a.block<H.n+1:=y;omega
   have L9:∀m,((H.put a.block none).push (.cells (old++new) e' (1,0))).get m=if m=H.n then some (.cells (old++new) e' (1,0))else if m=a.block then none else H.get m:=fun m=>by
    rw[Hp.iq];show(if m=H.n then _ else _)=_;rw[Hp.get_put]
   have Ma:Rl P S K p (fun m=>if m=a.block then none else H.get m) Fp w:=hr.kill fun m=>rfl;rcases ni with⟨e1,_⟩|⟨a2,a',e1,rfl,ha,ku⟩|⟨_,_,a2,_,e1,_,e2⟩
   .cases e1
   .cases e1;rcases Nat.lt_or_ge pm (sl+n)with ao|tz
    .exact grow Ma ao L9 rfl rfl
    ·
     obtain⟨h0,_,k0,pg,rfl⟩:=ku.resolve_left (by omega);obtain⟨o',g1,g2,g3⟩:=hr.at Bv ha.1 tK;obtain⟨c0,e0,Zw,c',dQ,e5,rfl,cb,pJ⟩:=g3.1 k0 pg;cases e5;rw[I0,b3,<-Nat.add_mul]at cb;have zx:a'.spot=none:=ha.2.2.symm.trans jX;have GU:a'.off=0:=ha.2.1.symm.trans b1
     have Mb:(∀j,j<c'.size->¬(dQ.1<=j/\j<dQ.2))/\(S 999999=true->dQ=(0,0)):=by
      cases g2 with
      |cells e fz hw g=>exact⟨fun j _ h=>by omega,fun _=>Prod.ext (by omega) b5⟩
      |cU e fz dQ hl hz hs g=>
       rcases hz with⟨_,hz⟩|hz
       .have Qb:sc*i.size=0:=by omega
        have tS:i.size=0:=by
         rcases Nat.mul_eq_zero.1 Qb with h|h
         .exact absurd h EC
         .exact h
        exact absurd tS Qa
       .exact hz
     have Mc:=Mb.1;obtain⟨cc,Zx,e6,Zy,Gy,_⟩:=g2.mb;cases e6;obtain⟨sa,nB,tf⟩:=hw w rfl;have GV:(a'.add (sl*i.size)).off=sl*i.size:=by unfold Addr.add;split<;>simp_all
     have hle:sl*i.size+n*i.size<=c'.size:=by rw[cb,<-Nat.add_mul];exact Nat.mul_le_mul_right _ tz
     obtain⟨w2,c2,s1,s2,s3,s4,s5,s6,s7,s8⟩:=oz (aa P F) sa.toList (a'.add (sl*i.size)) 0 w c' e' dQ (by rw[dX];exact g1) (lg _ _ zx) (by rw[GV];simp only[Array.length_toList,<-tf.1,gW];omega) Mc (fun u hu=>by
      obtain⟨j,hj,V9⟩:=List.getElem_of_mem hu;have th:j<sa.size:=by simpa using hj
      have mL:j<new.size:=by rw[tf.1];exact th
      have hrel:=tf.2 j new[j] sa[j] (Array.getElem?_eq_getElem mL) (Array.getElem?_eq_getElem th);have:u=sa[j]:=by rw[<-V9];simp
      rw[this,<-hrel.cu];exact xO _ (Array.getElem_mem mL))
     rw[GV,Nat.add_zero]at s6 s7 s8;rw[dX]at s3 s4;have We:sl*i.size+n*i.size=(sl+n)*i.size:=(Nat.add_mul ..).symm;have hk:(sl+n)*i.size+(sc+k0-(sl+n))*i.size=(sc+k0)*i.size:=by rw[<-Nat.add_mul];congr 1;omega
     have nf:OR S K p (.cells (old++new) e' (1,0)) (.cells c2 e' dQ):=by
      refine .cU e' (1,0) dQ (by rw[s5,Array.size_append,hold,gW];omega) (.inr ⟨by rw[s5];exact Mc,Mb.2⟩) (fun j u' hj h2=>?_) fun j u u' h1 h2=>?_
      .rw[Array.size_append,hold,gW]at hj;rw[s8 j (by simp only[Array.length_toList,<-tf.1,gW];omega)]at h2
       have Wf:c.size<=j:=by
        rw[b3];exact Nat.le_trans (Nat.mul_le_mul_right _ (Nat.le_of_lt L6)) (by omega)
       cases g2 with
       |cells e fz hw g=>
        have:=(Array.getElem?_eq_some_iff.1 h2).1;rw[<-g.1]at this;omega
       |cU e fz dQ hl hz hs g=>exact hs j u' Wf h2
      rw[Array.getElem?_append]at h1;by_cases hj:j<old.size
      .rw[if_pos hj]at h1;rw[s6 j (by omega)]at h2;rw[V7 a c e' fz rfl tK b1 b3 jX j hj]at h1;exact Gy j u u' h1 h2
      .rw[if_neg hj]at h1;have ao:=(Array.getElem?_eq_some_iff.1 h1).1;have:=s7 (j-old.size) (by simp only[Array.length_toList,<-tf.1];exact ao);rw[show sl*i.size+(j-old.size)=j by omega]at this;rw[this]at h2;exact tf.2 _ u u' h1 (by simpa using h2)
     obtain⟨r1,r2⟩:=hr.reuse (n:=H.n) (s:=a.block) (r':=a'.block) (k:=sc+k0-(sl+n)) hn hg b6 Bv ha.1 (by rw[tK];rfl) nf ⟨_,_,_,_,_,rfl,rfl,by rw[s5,I0,Array.size_append,hold,gW,cb];omega,.inr (by
      rcases pJ.1 with pJ|pJ
      .rw[b3]at pJ;rcases Nat.mul_eq_zero.1 pJ with h|h
       .exact absurd h EC
       .exact absurd h Qa
      .omega),by decide⟩ L9 s2 s4 s3
     refine⟨.slice (some a') (sl+n) (sc+k0),w2,_,?_,?_,r2.mono fun r h=>by subst h;rw[Nat.testBit_or,(tb _ _).2 rfl,Bool.or_true],r1.mono fun r h=>h.imp id fun⟨x,y⟩=>by
      have y:r<H.n+1:=y;omega⟩
     .unfold aB.bu;rw[qn (uf hx hlen)];simp only[pure_bind];rw[if_pos tz,cD (aa P F) _ _ _ nB];rw[cD (aa P F) _ _ _ s1];rfl
     .have ea:a'=⟨a'.block,0,none⟩:=by
       obtain⟨x,y,z⟩:=a';simp only at GU zx;subst GU;subst zx;rfl
      have hv:VR S (zA p H.n a'.block (sc+k0-(sl+n))) (.slice (some ⟨H.n,0,none⟩) (sl+n) (sl+n)) (.slice (some ⟨a'.block,0,none⟩) (sl+n) ((sl+n)+(sc+k0-(sl+n)))):=.dg 0 (sl+n) (.inr ⟨rfl,rfl⟩) (by omega) (.inr ⟨rfl,rfl⟩);have e8:(sl+n)+(sc+k0-(sl+n))=sc+k0:=by omega
      rw[e8]at hv;rw[ea];exact hv
   .cases e1;rw[jX]at e2;cases e2
end
section
variable {P:Program} {F:Array Func} {S:Nat->Bool} {K:Kz} {p:Pi} {Fp:Nat->Prop} {w:World}
theorem j9 (P:Program) {c:Array Value} {fz:Nat×Nat} (hg:H.get a.block=some (.cells c e fz)):∀(n i:Nat) (acc:Array Value) {cs:Array Value} {H1:Hp} {R W:Nat},an P (Go.loadCellsFrom a i n acc) H=some (cs,H1,R,W)->
 ∃l:Array Value,cs=acc++l/\l.size=n/\∀j,j<n->l[j]?=c[(a.add (i+j)).off]?
 |0,i,acc,cs,H1,R,W,h=>by
  have h:some (acc,H,0,0)=some (cs,H1,R,W):=h;simp only[Option.some.injEq,Prod.mk.injEq]at h;exact⟨#[],by simp[h.1],rfl,fun j hj=>absurd hj (Nat.not_lt_zero j)⟩
 |n+1,i,acc,cs,H1,R,W,h=>by
  simp only[Go.loadCellsFrom]at h;have h:an P (Sem.load .plain (a.add i) fun v=>Go.loadCellsFrom a (i+1) n (acc.push v)) H=some (cs,H1,R,W):=h;simp only[an]at h;rw[dX,hg]at h;simp only at h;split at h<;>try(cases h;done)
  split at h<;>try(cases h;done)
  rename_i v hv;obtain⟨R0,h2,_⟩:=eH h;obtain⟨l,h3,h4,h5⟩:=j9 P hg n (i+1) _ h2;refine⟨#[v]++l,by rw[h3];simp,by simp[h4];omega,fun j hj=>?_⟩;cases j with
  |zero=>rw[Array.getElem?_append_left (by simp),Nat.add_zero];exact hv.symm
  |succ j=>
   have:=h5 j (by omega);rw[show i+(j+1)=i+1+j by omega,<-this];simp[Array.getElem?_append]
def KW (P:Program) (K:Kz):Prop:=∀e i z,P.info? e=some i->i.zero=some z->∀u∈z.cells,K.z e u
theorem wF (P9:au P) (hZ:KW P K) (ht:j0 P ts=true) (P8:∀t1,ts[1]?=some t1->(P.underlying t1).isSome) (t:TypeId) {aQ:Array Value} (h:AR S p xs aQ) (e:Bx P ts xs H=some (v,H1,R1,W1))
 (hr:Rl P S K p H.get Fp w) (hg:P.globals.size<=H.n) (hn:∀r,H.n<=r->r<H1.n->∀r',¬p r r') (hF:∀r,(R1.testBit r=true\/W1.testBit r=true)->(H.n<=r/\r<H1.n)\/Fp r):
 ∃v' w1 q,(Builtin.append_ ts t aQ).run (aa P F) w=.ok v' w1/\VR S q v v'/\Mv (fun r=>W1.testBit r=true) p H.n w q H1.n w1/\Rl P S K q H1.get (fun r=>Fp r\/(H.n<=r/\r<H1.n)) w1:=by
 unfold Bx at e;split at e<;>try(cases e;done)
 rename_i sT h0;split at e<;>try(cases e;done)
 rename_i b sl sc h1;split at e<;>try(cases e;done)
 rename_i x h2;split at e<;>try(cases e;done)
 rename_i el hu;split at e<;>try(cases e;done)
 rename_i i hi;split at e<;>try(cases e;done)
 rename_i n hlen;split at e<;>try(cases e;done)
 rename_i z hz;split at e<;>try(cases e;done)
 rename_i old Ha Ra Wa ea;split at e<;>try(cases e;done)
 rename_i new Hb Rb Wb eb;unfold Bw at e;cases hb:(Nat.blt sc (sl+n)&&Nat.ble ((2*(sl+n)+768)*i.bytes) (2^48)&&Nat.blt (sl+n) (2^62)&&Nat.beq z.cells.size i.size&&Nat.beq new.size (n*i.size)&&Nat.beq old.size (sl*i.size)&&new.all cu)<;>rw[hb]at e<;>simp only[cond_true,cond_false]at e
 .cases e
 simp only[Bool.and_eq_true,Nat.blt_eq]at hb;obtain⟨⟨⟨⟨⟨⟨b1,b2⟩,b3⟩,b4⟩,b5⟩,b6⟩,b7⟩:=hb;have b2:=Nat.le_of_ble_eq_true b2;have b4:=Nat.eq_of_beq_eq_true b4;have b5:=Nat.eq_of_beq_eq_true b5;have b6:=Nat.eq_of_beq_eq_true b6;obtain⟨s',lV,hs⟩:=h.get h1;obtain⟨x',mG,hx⟩:=h.get h2;have Qc:∃b' pm,s'=.slice b' sl pm:=by cases hs<;>exact⟨_,_,rfl⟩
 obtain⟨b',pm,rfl⟩:=Qc
 have gW:H1.n=H.n+1/\R1=Ra|||Rb:=by
  unfold mc at e;split at e
  .simp only[Option.some.injEq,Prod.mk.injEq]at e;obtain⟨rfl,rfl,rfl,rfl⟩:=e;exact⟨rfl,rfl⟩
  .rename_i a;cases jX:a.spot.isNone<;>rw[jX]at e<;>simp only[cond_true,cond_false]at e
   .cases e
   cases EC:Nat.beq sc 0<;>rw[EC]at e<;>simp only[cond_true,cond_false]at e
   .split at e<;>try(cases e;done)
    rename_i c e' fz _;cases L2:(Nat.beq a.off 0&&Nat.beq e' el&&Nat.beq c.size (sc*i.size)&&Nat.ble fz.1 1&&Nat.beq fz.2 0&&Nat.ble P.globals.size a.block&&Nat.blt 0 i.size)<;>rw[L2]at e<;>simp only[cond_true,cond_false]at e
    .cases e
    simp only[Option.some.injEq,Prod.mk.injEq]at e;obtain⟨rfl,rfl,rfl,rfl⟩:=e;exact⟨rfl,rfl⟩
   .simp only[Option.some.injEq,Prod.mk.injEq]at e;obtain⟨rfl,rfl,rfl,rfl⟩:=e;exact⟨rfl,rfl⟩
 obtain⟨tp,rfl⟩:=gW
 have LL:∀{size n:Nat} {x:Value} {cs:Array Value} {Ha:Hp} {R W:Nat},an P (Builtin.firstCells size n x) H=some (cs,Ha,R,W)->(∀r,R.testBit r=true->(Ra|||Rb).testBit r=true)->(∀r,R.testBit r=true->(H.get r).isSome->∃r',p r r')->∀r,R.testBit r=true->Fp r:=by
  intro size n x cs Ha R W e1 ED hp r qe;obtain⟨rfl,rfl⟩:=RO.firstCells P size n x _ _ _ _ _ e1;have vD:=be P _ e1;rcases hF r (.inl (ED r qe))with⟨x,y⟩|y
  .rcases vD.rd r qe with⟨u,v⟩|u
   .omega
   .obtain⟨r',mC⟩:=hp r qe u;exact absurd mC (hn r x y r')
  .exact y
 have known:∀{size n:Nat} {x x':Value} {cs:Array Value} {Ha:Hp} {R W:Nat},VR S p x x'->an P (Builtin.firstCells size n x) H=some (cs,Ha,R,W)->∀r,R.testBit r=true->∃r',p r r':=by
  intro size n x x' cs Ha R W hx e1 r Md
  have key:∀(n i:Nat) (a:Addr) (acc cs:Array Value) (Ha:Hp) (R W:Nat),an P (Go.loadCellsFrom a i n acc) H=some (cs,Ha,R,W)->R.testBit r=true->r=a.block:=by
   intro n;induction n with
   |zero=>
    intro i a acc cs Ha R W e hb;have e:some (acc,H,0,0)=some (cs,Ha,R,W):=e;simp only[Option.some.injEq,Prod.mk.injEq]at e;obtain⟨_,_,rfl,_⟩:=e;simp at hb
   |succ n ih=>
    intro i a acc cs Ha R W e hb;simp only[Go.loadCellsFrom]at e;have e:an P (Sem.load .plain (a.add i) fun v=>Go.loadCellsFrom a (i+1) n (acc.push v)) H=some (cs,Ha,R,W):=e;simp only[an]at e;split at e<;>try(cases e;done)
    split at e<;>try(cases e;done)
    split at e<;>try(cases e;done)
    obtain⟨R0,e2,rfl⟩:=eH e;rw[Nat.testBit_or,Bool.or_eq_true,tb,dX]at hb;rcases hb with hb|hb
    .exact ih _ _ _ _ _ _ _ e2 hb
    .exact hb
  cases hx with
  |slice o sp l c g hX=>rw[key _ 0 _ _ _ _ _ _ e1 Md];exact⟨_,g⟩
  |dg o l g h0 hx=>rw[key _ 0 _ _ _ _ _ _ e1 Md];exact⟨_,g⟩
  |bF o o' c' g=>rw[key _ 0 _ _ _ _ _ _ e1 Md];exact⟨_,g⟩
  |bA l c=>
   have e1:some (#[],H,0,0)=some (cs,Ha,R,W):=e1;simp only[Option.some.injEq,Prod.mk.injEq]at e1;obtain⟨_,_,rfl,_⟩:=e1;simp at Md
  |string s=>
   have e1:some (_,H,0,0)=some (cs,Ha,R,W):=e1;simp only[Option.some.injEq,Prod.mk.injEq]at e1;obtain⟨_,_,rfl,_⟩:=e1;simp at Md
  |_=>cases e1
 have F1:=LL ea (fun r h=>by rw[Nat.testBit_or,h,Bool.true_or]) fun r h _=>known hs ea r h;have F2:=LL eb (fun r h=>by rw[Nat.testBit_or,h,Bool.or_true]) fun r h _=>known hx eb r h;rw[wE ht t h0 lV mG hu hi P8]
 refine rZ hi hz (fun u hu=>⟨js _ _ (P9 _ _ _ hi hz) u hu,hZ _ _ _ hi hz u hu⟩) b4 hs hx hlen b1 b2 b3 b6 b5 (fun u hu=>Array.all_eq_true'.1 b7 u hu) hr hg (fun w2 h2=>qo hr hg hs (fun b c e=>by cases e;rfl) ea F1 h2) (fun w2 h2=>qo hr hg hx (fun b c e=>by subst e;simp only[ud,Option.some.injEq]at hlen;exact hlen.symm) eb F2 h2) e
  (fun r'=>hn H.n (Nat.le_refl _) (by omega) r') (fun r h=>hF r (.inr h)) ?_
 intro a c e' fz Wg tK zs pn jX j hj;subst Wg;obtain⟨l,h3,h4,h5⟩:=j9 P tK _ 0 #[] ea;rw[h3,Array.empty_append];have mL:j<sl*i.size:=by omega
 rw[h5 j mL];have:(a.add (0+j)).off=j:=by unfold Addr.add;split<;>simp_all
 rw[this]
end
def gJ (P:Program) (S:Nat->Bool) (o:Op):Bool:=
 match o with
 |.slice .. |.convert ..=>!S 999999&&o.operands.all (cY P S)
 |.call ⟨.builtin .append,_,ts⟩=>jl P S o&&(match ts[1]? with|some t=>(P.underlying t).isSome|none=>true)
 |o=>jl P S o
def I1:Value->Bool
 |.slice ..=>true
 |_=>false
def Bz (mx:Option Operand) (x:Value):Rs Next->Rs Next
 |some (.value (.slice (some a) l 0),H1,R,W)=>bif mx.isNone&&I1 x then(match l,a.spot with|0,none=>some (.value (.slice (some ⟨a.block,a.off,some 0⟩) 0 0),H1,R,W)|_,_=>none)else some (.value (.slice (some a) l 0),H1,R,W)
 |x=>x
def ug (P:Program) (e:TypeId):Bool:=match P.info? e with
 |some i=>match i.zero with
  |some (.int .u8 (.ofNat 0))=>true
  |_=>false
 |none=>false
theorem wG {P:Program} (h:ug P e=true):∃i,P.info? e=some i/\i.zero=some (.int .u8 0):=by
 unfold ug at h;split at h<;>try(cases h;done)
 rename_i i hi;split at h<;>try(cases h;done)
 rename_i hz;exact⟨i,hi,hz⟩
def wH (P:Program) (s d:TypeId) (x:Value) (H:Hp):Option (Rs Next):=
 match P.underlying s with
 |some .string=>match P.underlying d with
  |some (.slice e)=>match P.underlying e with
   |some (.int .u8)=>match x with
    |.string bs=>some (bif Nat.beq (Ey P e) 1&&ug P e&&Nat.blt bs.size 4611686018427387904 then some (.value (.slice (some ⟨H.n,0,bif Nat.beq bs.size 0 then some 0 else none⟩) bs.size bs.size),H.push (.cells (bs.data.map fun b=>.int .u8 b.toNat) e (1,0)),0,2^H.n)else none)
    |_=>some none
   |_=>some none
  |_=>none
 |_=>none
def ju (P:Program) (r:Operand->Value) (o:Oper) (H:Hp):Rs Next:=
 bif i6 r o.op then match o.op with
 |.slice _ x _ _ mx=>Bz mx (r x) (an P (execOp r o) H)
 |.call ⟨.builtin .append,as,ts⟩=>match Bx P ts (as.map r) H with
  |some (v,H1,R,W)=>some (.value v,H1,R,W)
  |none=>an P (execOp r o) H
 |.convert s d x=>match wH P s d (r x) H with
  |some y=>y
  |none=>bif gT P s d then an P (execOp r o) H else none
 |_=>an P (execOp r o) H
 else none
section
variable {P:Program} {F:Array Func} {S:Nat->Bool} {K:Kz} {p:Pi} {Fp:Nat->Prop} {w:World}
theorem uh (a:Array Obj) (o:Obj) (f:Obj->Obj):(a.push o).modify a.size f=a.push (f o):=by
 apply Array.ext_getElem?;intro i;rw[Array.getElem?_modify,Array.getElem?_push,Array.getElem?_push];by_cases h:i=a.size
 .subst h;simp
 .rw[if_neg h,if_neg h,if_neg (Ne.symm h)]
theorem sb {s d:TypeId} {bs:ByteArray} (h1:P.underlying s=some .string) (h2:P.underlying d=some (.slice e)) (h3:P.underlying e=some (.int .u8)) (hz:Ey P e=1) (h8:K.z e (.int .u8 0)) (ye:S 999999=false) (TX:bs.size<4611686018427387904)
 (hr:Rl P S K p H.get Fp w) (hg:P.globals.size<=H.n) (hn:∀r',¬p H.n r') (hv:v=.slice (some ⟨H.n,0,bif Nat.beq bs.size 0 then some 0 else none⟩) bs.size bs.size) (hH:H1=H.push (.cells (bs.data.map fun b=>.int .u8 b.toNat) e (1,0))):
 ∃v' w1 q,(Go.convert s d (.string bs)).run (aa P F) w=.ok v' w1/\VR S q v v'/\Mv (fun r=>(2^H.n).testBit r=true) p H.n w q H1.n w1/\Rl P S K q H1.get (fun r=>Fp r\/(H.n<=r/\r<H1.n)) w1:=by
 subst hH;let w1:World:={w with drawn:=w.drawn+1}
 let k:=w.tape w.drawn (.appendCap bs.size 0 e)%(2^63-bs.size)
 let el:Array Value:=bs.data.map fun b=>.int .u8 b.toNat
 let cells:=el++Array.replicate k (.int .u8 0)
 have pn:cells.size=el.size+k*Ey P e:=by simp[cells,hz]
 have I2:el.size=bs.size:=by simp[el]
 have nf:OR S K p (.cells el e (1,0)) (.cells cells e (cells.size,cells.size+1)):=by
  refine .cU e _ _ (by omega) (.inr ⟨fun j hj h=>by simp only at h;omega,fun h=>by rw[ye]at h;cases h⟩) (fun j u' hj b=>?_) fun j u u' a b=>?_
  .have:cells[j]?=(Array.replicate k (Value.int .u8 0))[j-el.size]?:=Array.getElem?_append_right hj;rw[this,Array.getElem?_replicate]at b;split at b
   .simp only[Option.some.injEq]at b;subst b;exact⟨⟨0,rfl⟩,h8⟩
   .cases b
  have hj:=(Array.getElem?_eq_some_iff.1 a).1;have:cells[j]?=el[j]?:=Array.getElem?_append_left hj;rw[this]at b;have:u'=u:=by rw[a]at b;exact(Option.some.inj b).symm
  subst this;have a2:(bs.data.map fun b=>Value.int .u8 b.toNat)[j]?=some u':=a;rw[Array.getElem?_map]at a2;cases hx:bs.data[j]? with
  |none=>rw[hx]at a2;cases a2
  |some y=>
   rw[hx]at a2;simp only[Option.map_some,Option.some.injEq]at a2;rw[<-a2];exact .int _ _
 obtain⟨g1,g2⟩:=(hr.heap (w2:=w1) rfl).GT (n:=H.n) (k:=k) hn hg nf ⟨_,_,_,_,_,rfl,rfl,pn,(Nat.eq_zero_or_pos bs.size).imp (fun h=>by rw[I2];exact h) fun h=>by
  have:=Nat.mod_lt (w.tape w.drawn (.appendCap bs.size 0 e)) (show 0<2^63-bs.size by omega);show w.tape w.drawn (.appendCap bs.size 0 e)%(2^63-bs.size)+1<2^63;omega,by decide⟩ (fun m=>Hp.iq H _ m)
 have aV:∃w2,(Go.convert s d (.string bs)).run (aa P F) w=.ok (.slice (some ⟨w.heap.size,0,none⟩) bs.size (bs.size+k)) w2/\w2.heap=w.heap.push (.cells cells e (cells.size,cells.size+1)):=by
  refine⟨{w1 with heap:=w.heap.push (.cells cells e (cells.size,cells.size+1))},?_,rfl⟩;unfold Go.convert;rw[run_underlying h1,run_underlying h2];simp only;rw[run_underlying h3];simp only;unfold Conv.stringToBytes;rw[run_choose rfl];have e0:(Question.appendCap bs.size 0 e).cut (w.tape w.drawn (.appendCap bs.size 0 e))=bs.size+k:=rfl;rw[e0];have e1:bs.size+k-bs.size=k:=by omega
  rw[e1];simp only[Go.newRow,Go.newObj,Go.markStringish,Go.shape,Go.freeze,bind,Sem.bind,Pure.pure,Sem.run,World.shape?,World.freeze,cells,el];simp;show Result.ok _ (World.freeze _ _ 1)=_;unfold World.freeze;simp only[Nat.one_ne_zero,if_false];rw[uh];rfl
 obtain⟨w2,c1,c2⟩:=aV;refine⟨_,w2,_,c1,?_,(g2.By (w0:=w) rfl|>.mono fun _ h=>h.elim).heap c2,(g1.heap c2).mono fun r h=>h.imp id fun⟨a,b⟩=>?_⟩
 .rw[hv];by_cases h0:bs.size=0
  .rw[h0];exact .bF 0 0 _ (.inr ⟨rfl,rfl⟩)
  .rw[fm h0];exact .dg 0 bs.size (.inr ⟨rfl,rfl⟩) (by omega) (.inr ⟨rfl,rfl⟩)
 .have b:r<H.n+1:=b;omega
structure Ok (P:Program) (F:Array Func) (S:Nat->Bool):Prop where
 fy:au P
 cR:ai P
 kv:gU P F S
theorem qp {mx:Option Operand} {y:Rs Next} (e:Bz mx x y=some (nx,H1,R1,W1)):
 ∃I3,y=some (I3,H1,R1,W1)/\((mx.isNone&&I1 x)=false/\nx=I3\/(∀a l,I3≠ .value (.slice (some a) l 0))/\nx=I3\/∃a,a.spot=none/\I3=.value (.slice (some a) 0 0)/\nx=.value (.slice (some ⟨a.block,a.off,some 0⟩) 0 0)):=by
 unfold Bz at e;split at e
 .rename_i a l H2 R2 W2;cases hb:(mx.isNone&&I1 x)<;>rw[hb]at e<;>simp only[cond_true,cond_false]at e
  .simp only[Option.some.injEq,Prod.mk.injEq]at e;obtain⟨rfl,rfl,rfl,rfl⟩:=e;exact⟨_,rfl,.inl ⟨rfl,rfl⟩⟩
  .split at e
   .simp only[Option.some.injEq,Prod.mk.injEq]at e;obtain⟨rfl,rfl,rfl,rfl⟩:=e;rename_i jX;exact⟨_,rfl,.inr (.inr ⟨a,jX,rfl,rfl⟩)⟩
   .cases e
 .rename_i bC;refine⟨nx,e,.inr (.inl ⟨fun a l h=>?_,rfl⟩)⟩;subst h;exact bC _ _ _ _ _ e
theorem kA (hk:Ok P F S) (hZ:KW P K) {r':Operand->Value} (h:ie P S p r r') (o:Oper) (ho:gJ P S o.op=true) (e:ju P r o H=some (nx,H1,R1,W1))
 (hr:Rl P S K p H.get Fp w) (hg:P.globals.size<=H.n) (hn:∀r,H.n<=r->r<H1.n->∀r',¬p r r') (hF:∀r,(R1.testBit r=true\/W1.testBit r=true)->(H.n<=r/\r<H1.n)\/Fp r):
 ∃px w1 q,(execOp r' o).run (aa P F) w=.ok px w1/\NX S K q nx px/\Mv (fun r=>W1.testBit r=true) p H.n w q H1.n w1/\Rl P S K q H1.get (fun r=>Fp r\/(H.n<=r/\r<H1.n)) w1:=by
 have plain:jl P S o.op=true->i6 r o.op=true->an P (execOp r o) H=some (nx,H1,R1,W1)->∃px w1 q,(execOp r' o).run (aa P F) w=.ok px w1/\NX S K q nx px/\Mv (fun r=>W1.testBit r=true) p H.n w q H1.n w1/\Rl P S K q H1.get (fun r=>Fp r\/(H.n<=r/\r<H1.n)) w1:=fun h1 h2 h3=>
  iK (P:=P) (F:=F) _ (SR.execOp (P:=P) (F:=F) (S:=S) (K:=K) (N:=0) hk.fy hk.cR hk.kv h o h1 h2 hr.ok) h3 hr hg hn hF
 unfold ju at e;cases hE:i6 r o.op<;>rw[hE]at e<;>simp only[cond_true,cond_false]at e
 .cases e
 split at e
 ·
  rename_i t x lo hi mx bq;rw[bq]at ho hE;simp only[gJ,Bool.and_eq_true,Bool.not_eq_true']at ho;obtain⟨ye,ho⟩:=ho
  have aG:∀y∈o.op.operands,cY P S y=true:=by
   rw[bq];intro y hy;obtain⟨j,hj,he⟩:=Array.mem_iff_getElem.1 hy;have:=Array.all_eq_true.1 ho j hj;rw[he]at this;exact this
  obtain⟨I3,e1,ik⟩:=qp e;obtain⟨px,w1,q,c1,c2,c3,c4⟩:=iK (P:=P) (F:=F) _ (SR.Ew ye (P:=P) (F:=F) (S:=S) (K:=K) (N:=0) h o bq aG hE hr.ok) e1 hr hg hn hF;refine⟨px,w1,q,c1,?_,c3,c4⟩;rcases c2 with c2|⟨Wh,v,v',rfl,rfl,⟨b,l,c,hx⟩,a,a',l2,c',rfl,rfl,ha,jX⟩
  .rcases ik with⟨_,rfl⟩|⟨_,rfl⟩|⟨a,I4,rfl,rfl⟩
   .exact c2
   .exact c2
   .cases c2 with
    |value hv=>
     cases hv with
     |slice o sp l c g hX=>
      simp only at I4;subst I4;exact .value (.bF _ _ _ g)
     |dg o l g h0 hx=>exact absurd h0 (Nat.lt_irrefl 0)
     |bF o o' c' g=>cases I4
  .rcases ik with⟨hb,rfl⟩|⟨bC,rfl⟩|⟨a2,_,e2,rfl⟩
   .rw[Wh,hx]at hb;cases hb
   .exact absurd rfl (bC _ _)
   .simp only[Next.value.injEq,Value.slice.injEq,Option.some.injEq]at e2;obtain⟨rfl,rfl,_⟩:=e2;obtain⟨b1,b2,b3⟩:=a';simp only at jX ha;subst jX;exact .value (.bF _ _ _ ha)
 ·
  rename_i as ts bq;rw[bq]at ho;simp only[gJ,Bool.and_eq_true]at ho;rw[<-bq]at ho;split at e
  .rename_i v H2 R2 W2 ea;simp only[Option.some.injEq,Prod.mk.injEq]at e;obtain⟨rfl,rfl,rfl,rfl⟩:=e;have Gz:=ho.1;rw[bq]at Gz;simp only[jl,ic,Bool.and_eq_true]at Gz
   have ha:AR S p (as.map r) (as.map r'):=h.many fun x hx=>by
    have hm:x∈(Op.call ⟨.builtin .append,as,ts⟩).operands:=by simp[Op.operands,Call.operands,hx]
    obtain⟨j,hj,he⟩:=Array.mem_iff_getElem.1 hm;have:=Array.all_eq_true.1 Gz.1 j hj;rw[he]at this;exact this
   obtain⟨v',w1,q,c1,c2,c3,c4⟩:=wF (P:=P) (F:=F) hk.fy hZ Gz.2 (fun t1 h1=>by have:=ho.2;rw[h1]at this;exact this) o.type ha ea hr hg hn hF;refine⟨.value v',w1,q,?_,.value c2,c3,c4⟩;unfold execOp;rw[bq];show((resolve r' ⟨.builtin .append,as,ts⟩ o.type>>=fun d=>invoke d.target d.args):Sem Next).run (aa P F) w=_;have c3:=cD (aa P F) (fun v=>(Pure.pure (Next.value v):Sem Next)) _ w c1;exact c3
  .exact plain ho.1 hE e
 ·
  rename_i s d x bq;rw[bq]at ho;simp only[gJ,Op.operands,Bool.and_eq_true,Bool.not_eq_true']at ho;obtain⟨ye,ho⟩:=ho;have hx:VR S p (r x) (r' x):=h.at (by simpa using ho)
  split at e
  .rename_i y hy;subst e;unfold wH at hy;split at hy<;>try(cases hy;done)
   rename_i h1;split at hy<;>try(cases hy;done)
   rename_i el h2;split at hy<;>try(cases hy;done)
   rename_i h3;split at hy<;>try(cases hy;done)
   rename_i bs TX;simp only[Option.some.injEq]at hy;cases hz:(Nat.beq (Ey P el) 1&&ug P el&&Nat.blt bs.size 4611686018427387904)<;>rw[hz]at hy<;>simp only[cond_true,cond_false]at hy
   .cases hy
   simp only[Bool.and_eq_true]at hz;obtain⟨i8,Wi,Wj⟩:=wG hz.1.2;simp only[Option.some.injEq,Prod.mk.injEq]at hy;obtain⟨rfl,rfl,rfl,rfl⟩:=hy
   have Qd:r' x=.string bs:=by
    rw[TX]at hx;generalize r' x=z at hx;cases hx;rfl
   obtain⟨v',w1,q,c1,c2,c3,c4⟩:=sb (P:=P) (F:=F) h1 h2 h3 (Nat.eq_of_beq_eq_true hz.1.1) (hZ _ _ _ Wi Wj _ (by simp[Value.cells])) ye (Nat.le_of_ble_eq_true hz.2) hr hg (fun r'=>hn _ (Nat.le_refl _) (by simp[Hp.push]) r') (v:=.slice (some ⟨H.n,0,bif Nat.beq bs.size 0 then some 0 else none⟩) bs.size bs.size) rfl (H1:=H.push (.cells (bs.data.map fun b=>.int .u8 b.toNat) el (1,0))) rfl;refine⟨.value v',w1,q,?_,.value c2,c3,c4⟩;unfold execOp;rw[bq];show((convert s d (r' x)>>=fun v=>(Pure.pure (Next.value v):Sem Next))).run (aa P F) w=_;rw[Qd];exact cD (aa P F) (fun v=>(Pure.pure (Next.value v):Sem Next)) _ w c1
  .cases hc:gT P s d<;>rw[hc]at e<;>simp only[cond_true,cond_false]at e
   .cases e
   .refine plain ?_ hE e;rw[bq];simp only[jl,hc,Bool.and_true];exact ho
 .rename_i h1 h2 h3;refine plain ?_ hE e;unfold gJ at ho;split at ho
  .rename_i bq;exact absurd bq (h1 _ _ _ _ _)
  .rename_i bq;exact absurd bq (h3 _ _ _)
  .rename_i bq;exact absurd bq (h2 _ _)
  .exact ho
end
theorem zB {P:Program} {b:Option Addr} {ue:Nat} {cs:Array Value} {R0 W:Nat} (h0:Ft H R0 0 H) (h:mc P e size b ue sc cs H R0=some (v,H1,R,W)):Ft H R W H1:=by
 have gW:Ft H R0 (2^H.n) (H.push (.cells cs e (1,0))):=by
  have:=h0.trans (Ft.new H (.cells cs e (1,0)));rw[Nat.or_zero,Nat.zero_or]at this;exact this
 unfold mc at h;split at h
 .simp only[Option.some.injEq,Prod.mk.injEq]at h;obtain⟨rfl,rfl,rfl,rfl⟩:=h;exact gW
 .rename_i a;cases hs:a.spot.isNone<;>rw[hs]at h<;>simp only[cond_true,cond_false]at h
  .cases h
  cases hz:Nat.beq sc 0<;>rw[hz]at h<;>simp only[cond_true,cond_false]at h
  .split at h<;>try(cases h;done)
   rename_i c e' fz hg;cases hb:(Nat.beq a.off 0&&Nat.beq e' e&&Nat.beq c.size (sc*size)&&Nat.ble fz.1 1&&Nat.beq fz.2 0&&Nat.ble P.globals.size a.block&&Nat.blt 0 size)<;>rw[hb]at h<;>simp only[cond_true,cond_false]at h
   .cases h
   simp only[Option.some.injEq,Prod.mk.injEq]at h;obtain⟨rfl,rfl,rfl,rfl⟩:=h;have:=(h0.trans (Ft.write (H:=H) (b:=a.block) (by rw[hg];rfl) none)).trans (Ft.new (H.put a.block none) (.cells cs e (1,0)));rw[Nat.or_zero,Nat.or_zero,Nat.zero_or,Nat.or_comm]at this;rw[Nat.or_comm]at this;rw[Nat.or_comm (2^H.n)];exact this
  .simp only[Option.some.injEq,Prod.mk.injEq]at h;obtain⟨rfl,rfl,rfl,rfl⟩:=h;exact gW
theorem EE {P:Program} {W:Nat} (h:Bx P ts xs H=some (v,H1,R,W)):Ft H R W H1:=by
 unfold Bx at h;split at h<;>try(cases h;done)
 split at h<;>try(cases h;done)
 split at h<;>try(cases h;done)
 split at h<;>try(cases h;done)
 split at h<;>try(cases h;done)
 split at h<;>try(cases h;done)
 split at h<;>try(cases h;done)
 split at h<;>try(cases h;done)
 rename_i e1;split at h<;>try(cases h;done)
 rename_i e2;unfold Bw at h;have a1:=be P _ e1;have a2:=be P _ e2;obtain⟨rfl,rfl⟩:=RO.firstCells P _ _ _ _ _ _ _ _ e1;obtain⟨rfl,rfl⟩:=RO.firstCells P _ _ _ _ _ _ _ _ e2;revert h;generalize(Nat.blt _ _&&_&&_&&_&&_&&_&&_)=c;intro h;cases c<;>simp only[cond_true,cond_false]at h
 .cases h
 .exact zB (by have:=a1.trans a2;rwa [Nat.or_zero]at this) h
theorem nC {P:Program} {W:Nat} (e:ju P r o H=some (nx,H1,R,W)):Ft H R W H1:=by
 unfold ju at e;cases hE:i6 r o.op<;>rw[hE]at e<;>simp only[cond_true,cond_false]at e
 .cases e
 split at e
 .obtain⟨I3,e1,_⟩:=qp e;exact be P _ e1
 .split at e
  .rename_i ea;simp only[Option.some.injEq,Prod.mk.injEq]at e;obtain⟨rfl,rfl,rfl,rfl⟩:=e;exact EE ea
  .exact be P _ e
 .split at e
  .rename_i y hy;subst e;unfold wH at hy;split at hy<;>try(cases hy;done)
   split at hy<;>try(cases hy;done)
   split at hy<;>try(cases hy;done)
   split at hy<;>try(cases hy;done)
   simp only[Option.some.injEq]at hy;revert hy;generalize(Nat.beq (Ey P _) 1&&ug P _&&Nat.blt _ 4611686018427387904)=c;intro hy;cases c<;>simp only[cond_true,cond_false]at hy
   .cases hy
   simp only[Option.some.injEq,Prod.mk.injEq]at hy;obtain⟨rfl,rfl,rfl,rfl⟩:=hy;exact Ft.new _ _
  .revert e;generalize gT P _ _=c;intro e;cases c<;>simp only[cond_true,cond_false]at e
   .cases e
   .exact be P _ e
 .exact be P _ e
section
variable {P:Program} {S:Nat->Bool} {K:Kz}
theorem Rl.congr {p:Pi} {H1:Nat->Option Obj} {Fp:Nat->Prop} {w:World} (h:Rl P S K p H1 Fp w) (e:∀r,Fp r->H2 r=H1 r):Rl P S K p H2 Fp w:=
 ⟨fun r x o y=>h.blk r x o (by rw[<-e r x];exact y),fun r s r' x y a b=>h.inj r s r' x y (by rw[<-e r x];exact a) (by rw[<-e s y];exact b),h.lt,h.xm,h.ok,h.dY⟩
theorem Rl.sub {p:Pi} {H1:Nat->Option Obj} {Fp:Nat->Prop} {w:World} (h:Rl P S K p H1 Fp w) (e:∀r o,H2 r=some o->H1 r=some o):Rl P S K p H2 Fp w:=
 ⟨fun r x o y=>h.blk r x o (e r o y),fun r s r' x y a b=>h.inj r s r' x y (by obtain⟨o,ho⟩:=Option.isSome_iff_exists.1 a;rw[e r o ho];rfl) (by obtain⟨o,ho⟩:=Option.isSome_iff_exists.1 b;rw[e s o ho];rfl),h.lt,h.xm,h.ok,h.dY⟩
theorem Mv.wide {p:Pi} {m m1:Nat} {w:World} (h:Mv W p n w q n1 w1) (a:m<=n) (b:n1<=m1):Mv W p m w q m1 w1:=by
 have:=h.nn;exact⟨h.le,by omega,fun r r' x=>(h.new r r' x).imp id fun⟨c,d,e⟩=>⟨by omega,by omega,e⟩,fun r k x=>(h.rY r k x).imp id fun⟨c,d⟩=>⟨by omega,by omega⟩,h.size,h.keep⟩
theorem Mv.BA {W1 W2:Nat->Prop} {p s:Pi} {w:World} (h:Mv W1 p n w q n1 w1) (k:Mv W2 q n w1 s n1 w2) (h1:∀r,W1 r->W r) (h2:∀r,W2 r->W r):Mv W p n w s n1 w2:=by
 refine⟨h.le.trans k.le,h.nn,fun r r' x=>?_,fun r j x=>?_,Nat.le_trans h.size k.size,fun r' mC hW=>?_⟩
 .rcases k.new r r' x with x|⟨a1,a2,a3⟩
  .rcases h.new r r' x with x|⟨b1,b2,b3⟩
   .exact .inl x
   .exact .inr ⟨b1,b2,b3.imp id fun⟨u,c1,c2⟩=>⟨u,h1 u c1,c2⟩⟩
  .refine .inr ⟨a1,a2,?_⟩;rcases a3 with a3|⟨u,c1,c2⟩
   .exact .inl (Nat.le_trans h.size a3)
   .rcases h.new u r' c2 with y|⟨_,_,y|⟨v,d1,d2⟩⟩
    .exact .inr ⟨u,h2 u c1,y⟩
    .exact .inl y
    .exact .inr ⟨v,h1 v d1,d2⟩
 .rcases k.rY r j x with x|x
  .exact h.rY r j x
  .exact .inr x
 .rw[k.keep r' (Nat.lt_of_lt_of_le mC h.size) fun r hr x=>?_,h.keep r' mC fun r hr=>hW r (h1 r hr)];rcases h.new r r' x with y|⟨_,_,y|⟨v,d1,d2⟩⟩
  .exact hW r (h2 r hr) y
  .omega
  .exact hW v (h1 v d1) d2
theorem Rl.join {p:Pi} {h0 h1 h2:Nat->Option Obj} {F G:Nat->Prop} {w:World} (h:Rl P S K p h0 F w) (m:Mv W p n w q n1 w1) (k:Rl P S K q h1 G w1)
 (hG:∀r,W r->G r) (hF:∀r,W r->F r) (Wl:∀r,n<=r->r<n1->W r) (hn:∀r,n<=r->r<n1->∀r',¬p r r') (hW:∀r,W r->(n<=r/\r<n1)\/(h0 r).isSome) (e1:∀r,W r->h2 r=h1 r) (e0:∀r,¬W r->h2 r=h0 r):
 Rl P S K q h2 F w1:=by
 have old:∀r r',¬W r->q r r'->p r r':=fun r r' hr hq=>by
  rcases m.new r r' hq with x|⟨a,b,_⟩
  .exact x
  .exact absurd (Wl r a b) hr
 have alive:∀s r',W s->p s r'->(h0 s).isSome:=fun s r' hs hp=>by
  rcases hW s hs with⟨a,b⟩|x
  .exact absurd hp (hn s a b r')
  .exact x
 have mixed:∀r s r',W r->¬W s->F s->(h0 s).isSome->q r r'->q s r'->r=s:=fun r s r' hr hs Ez TY Wm Wn=>by
  have ps:=old s r' hs Wn;rcases m.new r r' Wm with x|⟨_,_,x|⟨u,hu,TZ⟩⟩
  .exact h.inj r s r' (hF r hr) Ez (alive r r' hr x) TY x ps
  .have:=h.lt s r' ps;omega
  .have:=h.inj u s r' (hF u hu) Ez (alive u r' hu TZ) TY TZ ps;exact absurd (this▸hu) hs
 refine⟨fun r DT o ho=>?_,fun r s r' DT Ez a b x y=>?_,k.lt,k.xm,k.ok,k.dY⟩
 .by_cases hr:W r
  .exact k.blk r (hG r hr) o (by rw[<-e1 r hr];exact ho)
  .rw[e0 r hr]at ho;obtain⟨r',o',a1,a2,a3,a4,a5⟩:=h.blk r DT o ho;refine⟨r',o',m.le _ _ a1,?_,a3.mono m.le,fun j hj=>a4 j ?_,a5.imp (fun⟨j,hj⟩=>⟨j,m.le.x _ _ hj⟩) id⟩
   .rw[m.keep r' (h.lt r r' a1) fun s hs hp=>hr ?_]
    .exact a2
    .have:=h.inj s r r' (hF s hs) DT (alive s r' hs hp) (by rw[ho];rfl) hp a1;exact this▸hs
   .rcases m.rY r j hj with x|⟨a,b⟩
    .exact x
    .exact absurd a1 (hn r a b r')
 .by_cases hr:W r<;>by_cases hs:W s
  .exact k.inj r s r' (hG r hr) (hG s hs) (by rw[<-e1 r hr];exact a) (by rw[<-e1 s hs];exact b) x y
  .rw[e0 s hs]at b;exact mixed r s r' hr hs Ez b x y
  .rw[e0 r hr]at a;exact(mixed s r r' hs hr DT a y x).symm
  .rw[e0 r hr]at a;rw[e0 s hs]at b;exact h.inj r s r' DT Ez a b (old r r' hr x) (old s r' hs y)
end
def a8 (b:Frame) (tm:Array Value) (ds:List Deferred) (todo:List Item):Frame:={b with tmps:=tm,todo:=todo,defers:=ds,mode:=.run}
section
variable {P:Program} {b:Frame} {tm:Array Value} {ds:List Deferred} {k:List Item} {cs:List Frame} {w:World}
theorem bg {Me:Frame} {fA:List Frame} {w':World} (hm:fr.mode=.run) (h:(stepG.exec P true true fr cs none w).bare=.go {frame:=Me,callers:=fA,status:=.running,dying:=none} w'):
 step P (lone fr cs w)=.next (lone Me fA w'):=by
 refine step_lone_go ?_;rw[<-h];obtain⟨fn,tmps,todo,ds,mode,kind,ro⟩:=fr;simp only at hm;subst hm;rfl
theorem nD:step P (lone (a8 b tm ds (.code .skip::k)) cs w)=.next (lone (a8 b tm ds k) cs w):=bg rfl rfl
theorem BB {l:Nat}:step P (lone (a8 b tm ds (.code (.label l)::k)) cs w)=.next (lone (a8 b tm ds k) cs w):=bg rfl rfl
theorem wI:step P (lone (a8 b tm ds (.inBlock id::k)) cs w)=.next (lone (a8 b tm ds k) cs w):=bg rfl rfl
theorem wJ:step P (lone (a8 b tm ds (.inScope c::k)) cs w)=.next (lone (a8 b tm ds k) cs w):=bg rfl rfl
theorem cV {x:Code}:step P (lone (a8 b tm ds (.code (.seq x y)::k)) cs w)=.next (lone (a8 b tm ds (.code x:: .code y::k)) cs w):=bg rfl rfl
theorem lh:step P (lone (a8 b tm ds (.code (.block id c)::k)) cs w)=.next (lone (a8 b tm ds (.code c:: .inBlock id::k)) cs w):=bg rfl rfl
theorem se:step P (lone (a8 b tm ds (.code (.loop c)::k)) cs w)=.next (lone (a8 b tm ds (.code c:: .inLoop c::k)) cs w):=bg rfl rfl
theorem zC:step P (lone (a8 b tm ds (.inLoop c::k)) cs w)=.next (lone (a8 b tm ds (.code c:: .inLoop c::k)) cs w):=bg rfl rfl
theorem BC:step P (lone (a8 b tm ds (.code (.scope c)::k)) cs w)=.next (lone (a8 b tm ds (.code c:: .inScope c::k)) cs w):=bg rfl rfl
theorem jM {c:Operand} {x:Code} {t:Bool} (h:(a8 b tm ds (.code (.cond c x y)::k)).eval c=.bool t):
 step P (lone (a8 b tm ds (.code (.cond c x y)::k)) cs w)=.next (lone (a8 b tm ds (.code (if t then x else y)::k)) cs w):=by
 refine bg rfl ?_;unfold stepG.exec;simp only[a8]at h⊢;rw[h];rfl
theorem EF (h:exitTo id k=some k'):step P (lone (a8 b tm ds (.code (.exit id)::k)) cs w)=.next (lone (a8 b tm ds k') cs w):=by
 refine bg rfl ?_;rw[Go.aB.cZ true rfl,h];rfl
theorem EG (h:gotoIn id k=some k'):step P (lone (a8 b tm ds (.code (.goto id)::k)) cs w)=.next (lone (a8 b tm ds k') cs w):=by
 refine bg rfl ?_;rw[Go.aB.da true rfl,h];rfl
theorem fG:step P (lone (a8 b tm ds (.code (.region id ops false)::k)) cs w)=.next (lone (a8 b tm ds (.inRegion ops (List.range ops.size)::k)) cs w):=bg rfl rfl
theorem yh:∃t w1,w1.heap=w.heap/\step P (lone (a8 b tm ds (.code (.region id ops true)::k)) cs w)=.next (lone (a8 b tm ds (.inRegion ops (Region.schedule (P.follows .mixedOrders) ops t)::k)) cs w1):=by
 refine⟨(Question.order b.fn id).cut (w.tape w.drawn (.order b.fn id)),{w with drawn:=w.drawn+1},rfl,bg rfl ?_⟩;unfold stepG.exec;simp[a8,choose,Sem.run,pure,Question.forced]
theorem cW:step P (lone (a8 b tm ds (.inRegion ops []::k)) cs w)=.next (lone (a8 b tm ds k) cs w):=bg rfl rfl
theorem sf (b:Frame) (tm:Array Value) (ds:List Deferred) (k:List Item) (x:Operand):(a8 b tm ds k).eval x=match x with
 |.tmp t=>tm.getD t undef
 |.const v=>v
 |.global g=>.pointer (some ⟨g,0,none⟩)
 |.func f=>.func (.func f) #[] #[]:=by cases x<;>rfl
def fS (tm:Array Value) (dst:Option Tmp) (v:Value):Array Value:=match dst with
 |some d=>tm.setIfInBounds d v
 |none=>tm
theorem ir {i:Nat} (v:Value) (ho:ops[i]?=some o):
 (a8 b tm ds (.inRegion ops (i::rest)::k)).finish v=a8 b (fS tm o.dst v) ds (.inRegion ops rest::k):=by
 unfold Frame.finish a8 fS;simp only[ho,Option.bind_some];cases o.dst<;>rfl
def li:Op->Bool
 |.defer _=>false
 |_=>true
theorem sg {i:Nat} (ho:ops[i]?=some o) (hw:Region.wanted o (yielded ops tm)=true) (hd:li o.op=true):
 stepG.exec P true true (a8 b tm ds (.inRegion ops (i::rest)::k)) cs none w=stepG.apply P true (a8 b tm ds (.inRegion ops (i::rest)::k)) cs none (execOp (a8 b tm ds (.inRegion ops (i::rest)::k)).eval o) w:=by
 have e1:(Option.map (fun x=>Region.wanted x (yielded ops tm)) ops[i]?).getD false=true:=by rw[ho];exact hw
 unfold stepG.exec;simp only[a8,e1,if_true];unfold stepG.oper;simp only[Frame.oper?,ho];cases b.roundOf with
 |none=>rfl
 |some l=>cases h:o.op<;>first|rfl|(rw[h]at hd;cases hd)
theorem ka {i:Nat} (ho:ops[i]?=some o) (hw:Region.wanted o (yielded ops tm)=false):
 step P (lone (a8 b tm ds (.inRegion ops (i::rest)::k)) cs w)=.next (lone (a8 b (fS tm o.dst undef) ds (.inRegion ops rest::k)) cs w):=by
 refine bg rfl ?_;have e1:(Option.map (fun x=>Region.wanted x (yielded ops tm)) ops[i]?).getD false=false:=by rw[ho];exact hw
 rw[<-ir undef ho];unfold stepG.exec;simp only[a8,e1,Bool.false_eq_true,if_false];rfl
def me (P:Program):Next->Option Frame
 |.enter f args=>some (Frame.enter P f args .normal)
 |.round l f tmps a c=>some (Frame.round l f tmps a c .normal)
 |_=>none
def EH:List Item->Bool
 |.call .. ::_=>false
 |.extern .. ::_=>false
 |_=>true
theorem fT (hc:EH fr.todo=true) {s:Sem Next} (hr:s.run P w=.ok nx w1):
 (∀v,nx=.value v->(stepG.apply P true fr cs none s w).bare=.go {frame:=fr.finish v,callers:=cs,status:=.running,dying:=none} w1)/\
 (nx=.skip->(stepG.apply P true fr cs none s w).bare=.go {frame:=fr.finish undef,callers:=cs,status:=.running,dying:=none} w1)/\
 (∀g,me P nx=some g->(stepG.apply P true fr cs none s w).bare=.go {frame:=g,callers:=fr::cs,status:=.running,dying:=none} w1):=by
 have hk:∀(ds:List Deferred),(match fr.todo with|.call _ true _ _::_=>CallKind.wrapped|_=>.normal)=.normal:=by
  intro _;generalize fr.todo=t at hc;cases t with
  |nil=>rfl
  |cons i t=>cases i<;>first|rfl|cases hc
 have hk:=hk [];refine⟨fun v e=>?_,fun e=>?_,fun g e=>?_⟩
 .subst e;unfold stepG.apply;simp only[Sem.runT_eq,hr,if_true,GStep.bare_after];rfl
 .subst e;unfold stepG.apply;simp only[Sem.runT_eq,hr,if_true,GStep.bare_after];rfl
 .obtain⟨fn,tmps,todo,ds,mode,kind,ro⟩:=fr;simp only at hk hc;cases nx<;>simp only[me,Option.some.injEq,reduceCtorEq]at e
  .subst e;unfold stepG.apply;simp only[Sem.runT_eq,hr,if_true,GStep.bare_after];cases todo with
   |nil=>rfl
   |cons i t=>cases i<;>first|rfl|cases hc
  .subst e;unfold stepG.apply;simp only[Sem.runT_eq,hr,if_true,GStep.bare_after];cases todo with
   |nil=>rfl
   |cons i t=>cases i<;>first|rfl|cases hc
def Mf (P:Program) (nx:Next) (fr:Frame) (cs:List Frame) (w:World) (Q:Value->World->Prop):Prop:=
 ∃g v w1,me P nx=some g/\Steps P (lone g (fr::cs) w) (lone (fr.finish v) cs w1)/\Q v w1
end
end Go.Ev
