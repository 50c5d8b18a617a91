/- A part. Conditions: none. -/
import Derived.Test.YtddlcmejelobdaaGreatDoorT00
set_option linter.all false
namespace Go.aD
variable {a a':Addr} {c n r r':Nat} {dJ es es1:Array Event} {de xs:Array fu} {iO w w' w1:nq} {o o' x x':Obj} {t:a00} {v v':fu} {α β γ δ:Type}
abbrev ai (P:un) (F:Array Func):un:={P with funcs:=F}
def jn (p:Pi) (a a':Addr):Prop:=p a.block a'.block/\a.off=a'.off/\a.spot=a'.spot
def jn.mono {p q:Pi} (h:Le p q) (x:jn p a a'):jn q a a':=⟨h _ _ x.1,x.2⟩
def jn.add {p:Pi} (x:jn p a a') (n:Nat):jn p (a.add n) (a'.add n):=by
 unfold Addr.add;split
 .exact x
 .exact⟨x.1,by simp[x.2.1],rfl⟩
def jn.ptr {S:Nat->Bool} {p:Pi} (x:jn p a a'):VR S p (.pointer (some a)) (.pointer (some a')):=by
 obtain⟨b,o,sp⟩:=a;obtain⟨b',o',S8⟩:=a';obtain⟨h1,h2,h3⟩:=x;simp only at h1 h2 h3;subst h2;subst h3;exact .ptr o sp h1
def jn.sl {S:Nat->Bool} {p:Pi} (x:jn p a a') (hX:S 999999=true->∀k,¬p.x a.block k) (l c:Nat):VR S p (.slice (some a) l c) (.slice (some a') l c):=by
 obtain⟨b,o,sp⟩:=a;obtain⟨b',o',S8⟩:=a';obtain⟨h1,h2,h3⟩:=x;simp only at h1 h2 h3;subst h2;subst h3;exact .slice o sp l c h1 hX
def ER (S:Nat->Bool) (p:Pi) (e e':MapEntry):Prop:=VR S p e.key e'.key/\VR S p e.val e'.val/\e.born=e'.born
def ER.mono {S:Nat->Bool} {p q:Pi} (h:Le p q) {e e':MapEntry} (x:ER S p e e'):ER S q e e':=⟨x.1.mono h,x.2.1.mono h,x.2.2⟩
structure Kz where
 k:Code->Prop
 z:a00->fu->Prop
instance : CoeFun Kz (λ_ => Code -> Prop) := ⟨Kz.k⟩
inductive OR (S:Nat->Bool) (K:Kz) (p:Pi):Obj->Obj->Prop
 |cells {c c':Array fu} (e:a00) (fz:Nat×Nat) (hw:p.l=true->fz.1<=fz.2) (h:AR S p c c'):OR S K p (.cells c e fz) (.cells c' e fz)
 |cS {c c':Array fu} (hl:p.l=true) (e:a00) (fz gA:Nat×Nat) (hc:c.size<=c'.size) (hz:(fz.1=0/\c.size<=fz.2)\/((∀i,i<c'.size->¬(gA.1<=i/\i<gA.2))/\(S 999999=true->gA=(0,0)))) (hs:∀(i:Nat) (v':fu),c.size<=i->c'[i]?=some v'->(∃n,plain n v'=true)/\K.z e v') (h:∀(i:Nat) (v v':fu),c[i]?=some v->c'[i]?=some v'->VR S p v v'):OR S K p (.cells c e fz) (.cells c' e gA)
 |map {es dJ:Array MapEntry} (k:Nat) (h:es.size=dJ.size) (g:∀(i:Nat) (e e':MapEntry),es[i]?=some e->dJ[i]?=some e'->ER S p e e'):OR S K p (.map es k) (.map dJ k)
 |loop {l l':Loop} (h1:l.state=l'.state) (h2:l.pending=l'.pending) (h3:l.fn=l'.fn) (h4:AR S p l.tmps l'.tmps) (h5:l.params=l'.params)
   (h6:l.assign=l'.assign) (h7:l.body=l'.body) (h8:p l.defers l'.defers) (k1:S l.fn=true) (k2:K l.assign) (k3:K l.body) (k4:∀c,l.pending=some c->K c) (k5:K (.label (100000+l.fn))):OR S K p (.loop l) (.loop l')
 |number {a a':Addr} (l:Bool) (h:jn p a a'):OR S K p (.number a l) (.number a' l)
 |eR:OR S K p (.deferred none) (.deferred none)
 |eS:OR S K p (.deferred (some [])) (.deferred (some []))
def OR.mono {S:Nat->Bool} {K:Kz} {p q:Pi} (h:Le p q) (x:OR S K p o o'):OR S K q o o':=by
 cases x with
 |cells e fz hw g=>exact .cells e fz (λx=>hw (h.l.symm.trans x)) (g.mono h)
 |cS hl e fz gA hc hz hs g=>exact .cS (h.l.trans hl) e fz gA hc hz hs λi v v' a b=>(g i v v' a b).mono h
 |map k g1 g2=>exact .map k g1 λi e e' a b=>(g2 i e e' a b).mono h
 |loop h1 h2 h3 h4 h5 h6 h7 h8 k1 k2 k3 k4 k5=>exact .loop h1 h2 h3 (h4.mono h) h5 h6 h7 (h _ _ h8) k1 k2 k3 k4 k5
 |number l g=>exact .number l (g.mono h)
 |eR=>exact .eR
 |eS=>exact .eS
def ShO (S:Nat->Bool) (p:Pi) (o o':Obj):Prop:=
 ∃c c' e fz,o=.cells c e (0,c.size)/\o'=.cells c' e fz/\AR S p c c'
def ShO.mono {S:Nat->Bool} {p q:Pi} (h:Le p q) (x:ShO S p o o'):ShO S q o o':=by
 obtain⟨c,c',e,fz,h1,h2,h3⟩:=x;exact⟨c,c',e,fz,h1,h2,h3.mono h⟩
def jH (o o':Obj):Prop:=∀c e fz c' e' gA,o=.cells c e fz->o'=.cells c' e' gA->c'.size=c.size
structure qy (P:un) (p:Pi):Prop where
 inj:∀r r' s s',p r r'->p s s'->(p.l=true->r<P.globals.size)->(r=s↔r'=s')
 fix:∀r r',p r r'->(r<P.globals.size↔r'<P.globals.size)
 one:∀r r' s',p r r'->p r s'->r'=s'
 xv:p.l=false->∀r k,¬p.x r k
def qy.two {P:un} {p:Pi} (h:qy P p) (hl:p.l=false) (r r' s s':Nat) (a:p r r') (b:p s s'):r=s↔r'=s':=h.inj r r' s s' a b λx=>by rw[hl]at x;cases x
structure WR (P:un) (S:Nat->Bool) (K:Kz) (N:Nat) (p:Pi) (w w':nq):Prop where
 inj:∀r r' s s',p r r'->p s s'->(r=s↔r'=s')
 blk:∀r r',p r r'->∃o o',w.heap[r]?=some o/\w'.heap[r']?=some o'/\((r<N/\ShO S p o o')\/(N<=r/\OR S K p o o'))
 low:N<=w.heap.size
 fix:∀r r',p r r'->(r<P.globals.size↔r'<P.globals.size)
 gY:P.globals.size<=w.heap.size
 kZ:P.globals.size<=w'.heap.size
 str:p.l=false
 xv:∀r k,¬p.x r k
def dead:Halt->Prop
 |.stuck _=>True
 |.unsupported (.initOrder _)=>False
 |.unsupported _=>True
 |_=>False
def VR.ew {S:Nat->Bool} {p:Pi} (h:VR S p v v') (g:aD.ew v=true):aD.ew v'=true:=by cases h<;>first|rfl|cases g
def kN (P:un) (m:Mode) (a:Addr) (v:fu) (k:Sem α) (w:nq) (es:Array Event) (h:ew v=false):
 ∃x,(Sem.store m a v k).runT P w es=(.halt x w,es)/\dead x:=by
 cases v<;>first|exact⟨_,rfl,trivial⟩|cases h
def di (P:un) (m:Mode) (a:Addr) (v:fu) (k:Sem α) (w:nq) (es:Array Event) (h:ew v=true):
 (Sem.store m a v k).runT P w es=(match w.cell? a with
   |some _=>if w.frozen? a then(.halt (.unsupported (.unsafePointer "a write to bytes that a string shares")) w,es)else k.runT P (w.setCell a v) (es.push ⟨.cell a,true,m== .atomic⟩)
   |none=>match w.farStore P a v (m== .atomic)with
    |.ok (w',touched)=>k.runT P w' (es++touched.toArray.map (⟨.cell ·,true,m== .atomic⟩))
    |.error h=>(.halt h w,es)):=by
 cases v<;>first|rfl|cases h
def aF (P:un) (s:Sem α):Prop:=∀(w:nq) (es:Array Event),∃h w1 es1,s.runT P w es=(.halt h w1,es1)/\dead h
def uS (P:un) (f:α->Sem β) {h:Halt}:∀(s:Sem α) (w:nq) (es:Array Event),s.runT P w es=(.halt h w1,es1)->(s.bind f).runT P w es=(.halt h w1,es1):=by
 intro s;induction s with
 |pure a=>intro w es e;cases e
 |load m a k ih=>
  intro w es e;simp only[Sem.bind,Sem.runT]at e⊢;cases hc:w.cell? a with
  |some v=>rw[hc]at e;exact ih v _ _ e
  |none=>
   rw[hc]at e;simp only at e⊢;cases hf:w.farLoad P a (m== .atomic)with
   |ok x=>rw[hf]at e;exact ih _ _ _ e
   |error x=>rw[hf]at e;simp only[zAH,Result.halt.injEq]at e⊢;exact e
 |store m a v k ih=>
  intro w es e;cases hv:ew v with
  |false=>
   cases v<;>first|(cases hv;done)|(simp only[Sem.bind,Sem.runT,zAH,Result.halt.injEq]at e⊢;exact e)
  |true=>
   rw[di P m a v k w es hv]at e;show(Sem.store m a v (k.bind f)).runT P w es=_;rw[di P m a v _ w es hv];cases hc:w.cell? a with
   |some u=>
    rw[hc]at e;simp only at e⊢;by_cases hz:w.frozen? a=true
    .simp only[hz,zBM,zAH,Result.halt.injEq]at e⊢;exact e
    .simp only[hz,zAL,zBC]at e⊢;exact ih _ _ e
   |none=>
    rw[hc]at e;simp only at e⊢;cases hf:w.farStore P a v (m== .atomic)with
    |ok x=>rw[hf]at e;exact ih _ _ e
    |error x=>rw[hf]at e;simp only[zAH,Result.halt.injEq]at e⊢;exact e
 |new o k ih=>intro w es e;exact ih _ _ _ e
 |shape r k ih=>intro w es e;exact ih _ _ _ e
 |freeze a n k ih=>intro w es e;exact ih _ _ e
 |frozen a k ih=>intro w es e;exact ih _ _ _ e
 |getObj r k ih=>
  intro w es e;simp only[Sem.bind,Sem.runT]at e⊢;cases ho:w.heap[r]? with
  |none=>rw[ho]at e;simp only[zAH,Result.halt.injEq]at e⊢;exact e
  |some o=>rw[ho]at e;cases o<;>first|exact ih _ _ _ e|(simp only[zAH,Result.halt.injEq]at e⊢;exact e)
 |setObj r o k ih=>
  intro w es e;simp only[Sem.bind,Sem.runT]at e⊢;cases ho:w.heap[r]? with
  |none=>rw[ho]at e;simp only[zAH,Result.halt.injEq]at e⊢;exact e
  |some o'=>rw[ho]at e;cases o'<;>first|exact ih _ _ e|(simp only[zAH,Result.halt.injEq]at e⊢;exact e)
 |choose q k ih=>
  intro w es e;simp only[Sem.bind,Sem.runT]at e⊢;split at e
  .rename_i hq;simp only[hq,zBM];exact ih _ _ _ e
  .rename_i hq;simp only[hq,zBC,zAL];exact ih _ _ _ e
 |sys c k ih=>intro w es e;exact ih _ _ _ e
 |program k ih=>intro w es e;exact ih _ _ _ e
 |mark m k ih=>intro w es e;exact ih _ _ e
 |halt x=>intro w es e;simp only[Sem.bind,Sem.runT,zAH,Result.halt.injEq]at e⊢;exact e
def aF.bind {P:un} {s:Sem α} (h:aF P s) (f:α->Sem β):aF P (s.bind f):=λw es=>
 let⟨x,w1,es1,e,d⟩:=h w es
 ⟨x,w1,es1,uS P f s w es e,d⟩
def eA (P:un):Sem α->Prop
 |.pure _=>False
 |.load _ _ k=>∀v,eA P (k v)
 |.store _ _ _ k=>eA P k
 |.new _ k=>∀r,eA P (k r)
 |.shape .. |.freeze .. |.frozen .. |.choose .. |.sys .. |.halt _=>True
 |.getObj _ k=>∀o,eA P (k o)
 |.setObj _ _ k=>eA P k
 |.program k=>eA P (k P)
 |.mark _ k=>eA P k
def eA.bind {P:un} {f:α->Sem β}:∀{s:Sem α},eA P s->eA P (s.bind f):=by
 intro s;induction s with
 |pure a=>intro h;exact h.elim
 |load m a k ih=>intro h v;exact ih v (h v)
 |store m a v k ih=>intro h;exact ih h
 |new o k ih=>intro h r;exact ih r (h r)
 |shape r k ih=>intro h;exact trivial
 |freeze a n k ih=>intro h;exact trivial
 |frozen a k ih=>intro h;exact trivial
 |getObj r k ih=>intro h o;exact ih o (h o)
 |setObj r o k ih=>intro h;exact ih h
 |choose q k ih=>intro h;exact trivial
 |sys c k ih=>intro h;exact trivial
 |program k ih=>intro h;exact ih P h
 |mark m k ih=>intro h;exact ih h
 |halt x=>intro h;exact trivial
def eA.S9 {P:un} {f:α->Sem β} (g:∀a,eA P (f a)):∀s:Sem α,eA P (s.bind f):=by
 intro s;induction s with
 |pure a=>exact g a
 |load m a k ih=>intro v;exact ih v
 |store m a v k ih=>exact ih
 |new o k ih=>intro r;exact ih r
 |shape r k ih=>exact trivial
 |freeze a n k ih=>exact trivial
 |frozen a k ih=>exact trivial
 |getObj r k ih=>intro o;exact ih o
 |setObj r o k ih=>exact ih
 |choose q k ih=>exact trivial
 |sys c k ih=>exact trivial
 |program k ih=>exact ih P
 |mark m k ih=>exact ih
 |halt x=>exact trivial
def Dd (P:un) (p:Pi) (s:Sem α):Prop:=(p.l=true/\eA P s)\/(p.l=false/\aF P s)
def Dd.bind {P:un} {p:Pi} {s:Sem α} (h:Dd P p s) (f:α->Sem β):Dd P p (s.bind f):=h.imp (λx=>⟨x.1,x.2.bind⟩) λx=>⟨x.1,x.2.bind f⟩
def uu (P:un) (F:Array Func) (S:Nat->Bool) (K:Kz) (N:Nat) (Q:Pi->α->β->Prop):Sem α->Sem β->Pi->Prop
 |.pure a,s',p=>match s' with|.pure b=>Q p a b|_=>False
 |.load m a k,s',p=>match s' with
  |.load m' a' k'=>m=.plain/\m'=.plain/\jn p a a'/\∀v v',VR S p v v'->uu P F S K N Q (k v) (k' v') p
  |_=>False
 |.store m a v k,s',p=>match s' with
  |.store m' a' v' k'=>m=.plain/\m'=.plain/\jn p a a'/\VR S p v v'/\uu P F S K N Q k k' p
  |_=>False
 |.new o k,s',p=>match s' with
  |.new o' k'=>OR S K p o o'/\(p.l=true->jH o o')/\∀r r' q,Le p q->qy P q->q r r'->N<=r->(∀k,¬q.x r k)->uu P F S K N Q (k r) (k' r') q
  |_=>False
 |.shape r k,s',p=>Dd P p (.shape r k)\/∃r' k',s'=.shape r' k'/\p r r'/\∀x,uu P F S K N Q (k x) (k' x) p
 |.freeze a n k,s',p=>p.l=true\/∃a' k',s'=.freeze a' n k'/\jn p a a'/\N<=a.block/\uu P F S K N Q k k' p
 |.frozen a k,_,p=>Dd P p (.frozen a k)
 |.getObj r k,s',p=>match s' with
  |.getObj r' k'=>p r r'/\∀o o',OR S K p o o'->uu P F S K N Q (k o) (k' o') p
  |_=>False
 |.setObj r o k,s',p=>match s' with
  |.setObj r' o' k'=>p r r'/\OR S K p o o'/\(p.l=true->jH o o')/\uu P F S K N Q k k' p
  |_=>False
 |.choose q k,s',p=>p.l=true\/∃k',s'=.choose q k'/\∀n,uu P F S K N Q (k n) (k' n) p
 |.sys ..,_,p=>p.l=true
 |.program k,s',p=>Dd P p (.program k)\/∃k',s'=.program k'/\uu P F S K N Q (k P) (k' (ai P F)) p
 |.mark m k,s',p=>(p.l=true/\m≠ .noRoom)\/Dd P p (.mark m k)\/(m=.noRoom/\∃k',s'=.mark .noRoom k'/\uu P F S K N Q k k' p)
 |.halt h,s',p=>p.l=true\/dead h\/∃v v',h=.panic v/\s'=.halt (.panic v')/\VR S p v v'
def SR (P:un) (F:Array Func) (S:Nat->Bool) (K:Kz) (N:Nat) (Q:Pi->α->β->Prop) (s:Sem α) (s':Sem β) (p:Pi):Prop:=qy P p->uu P F S K N Q s s' p
section
variable {P:un} {F:Array Func} {S:Nat->Bool} {K:Kz} {N:Nat}
def uu.bind {Q:Pi->α->β->Prop} {Q':Pi->γ->δ->Prop} {f:α->Sem γ} {f':β->Sem δ}:
 ∀{s:Sem α} {s':Sem β} {p:Pi},qy P p->uu P F S K N Q s s' p->(∀q a b,Le p q->qy P q->Q q a b->uu P F S K N Q' (f a) (f' b) q)->uu P F S K N Q' (s>>=f) (s'>>=f') p:=by
 intro s;induction s with
 |pure a=>intro s' p hp h g;cases s'<;>first|exact g _ _ _ (Le.refl _) hp h|exact h.elim
 |load m a k ih=>intro s' p hp h g;cases s'<;>first|exact⟨h.1,h.2.1,h.2.2.1,λv v' x=>ih v hp (h.2.2.2 v v' x) g⟩|exact h.elim
 |store m a v k ih=>intro s' p hp h g;cases s'<;>first|exact⟨h.1,h.2.1,h.2.2.1,h.2.2.2.1,ih hp h.2.2.2.2 g⟩|exact h.elim
 |new o k ih=>intro s' p hp h g;cases s'<;>first|exact⟨h.1,h.2.1,λr r' q a b c d n=>ih r b (h.2.2 r r' q a b c d n) λq' x y l=>g q' x y (a.trans l)⟩|exact h.elim
 |shape r k ih=>
  intro s' p hp h g;rcases h with h|⟨r',k',rfl,h1,h2⟩
  .exact .inl (h.bind f)
  .exact .inr ⟨r',λx=>k' x>>=f',rfl,h1,λx=>ih x hp (h2 x) g⟩
 |freeze a n k ih=>
  intro s' p hp h g;rcases h with h|⟨a',k',rfl,h1,h2,h3⟩
  .exact .inl h
  .exact .inr ⟨a',k'>>=f',rfl,h1,h2,ih hp h3 g⟩
 |frozen a k ih=>intro s' p hp h g;exact Dd.bind h f
 |getObj r k ih=>intro s' p hp h g;cases s'<;>first|exact⟨h.1,λo o' a=>ih o hp (h.2 o o' a) g⟩|exact h.elim
 |setObj r o k ih=>intro s' p hp h g;cases s'<;>first|exact⟨h.1,h.2.1,h.2.2.1,ih hp h.2.2.2 g⟩|exact h.elim
 |choose q k ih=>
  intro s' p hp h g;rcases h with h|⟨k',rfl,h1⟩
  .exact .inl h
  .exact .inr ⟨λx=>k' x>>=f',rfl,λn=>ih n hp (h1 n) g⟩
 |sys c k ih=>intro s' p hp h g;exact h
 |program k ih=>
  intro s' p hp h g;rcases h with h|⟨k',rfl,h1⟩
  .exact .inl (h.bind f)
  .exact .inr ⟨λx=>k' x>>=f',rfl,ih P hp h1 g⟩
 |mark m k ih=>
  intro s' p hp h g;rcases h with h|h|⟨rfl,k',rfl,h1⟩
  .exact .inl h
  .exact .inr (.inl (h.bind f))
  .exact .inr (.inr ⟨rfl,k'>>=f',rfl,ih hp h1 g⟩)
 |halt x=>
  intro s' p hp h g;rcases h with h|h|⟨v,v',h1,h2,h3⟩
  .exact .inl h
  .exact .inr (.inl h)
  .exact .inr (.inr ⟨v,v',h1,by rw[h2];rfl,h3⟩)
def SR.bind {Q:Pi->α->β->Prop} {Q':Pi->γ->δ->Prop} {f:α->Sem γ} {f':β->Sem δ} {s:Sem α} {s':Sem β} {p:Pi}
 (h:SR P F S K N Q s s' p) (g:∀q a b,Le p q->Q q a b->SR P F S K N Q' (f a) (f' b) q):SR P F S K N Q' (s>>=f) (s'>>=f') p:=
 λhp=>uu.bind hp (h hp) λq a b hq ho x=>g q a b hq x ho
end
def zB:Sem α->Bool
 |.shape .. |.frozen .. |.mark .. |.program .. |.halt ..=>true
 |_=>false
def SR.lS {P:un} {F:Array Func} {S:Nat->Bool} {K:Kz} {N:Nat} {Q:Pi->α->β->Prop} {s:Sem α} {s':Sem β} {p:Pi} (h:Dd P p s) (hh:zB s=true):SR P F S K N Q s s' p:=by
 intro _;cases s<;>first|(cases hh;done)|exact h|exact .inl h|exact .inr (.inl h)|skip
 rcases h with⟨hl,_⟩|⟨_,h⟩
 .exact .inl hl
 obtain⟨x,w1,es1,e,d⟩:=h default #[];simp only[Sem.runT,zAH,Result.halt.injEq]at e;exact .inr (.inl (e.1.1▸d))
def world:Result α->nq
 |.ok _ w=>w
 |.halt _ w=>w
def Jt:∀(a:Ask α) (w:nq),w.drawn<=(w.ask a).2.drawn:=by
 intro a;induction a with
 |done x=>intro w;exact zAA _
 |ask PQ range k ih=>
  intro w;simp only[World.ask];split
  .exact ih _ w
  .have:=ih ((Question.extern PQ range).cut (w.tape w.drawn (Question.extern PQ range))) {w with drawn:=w.drawn+1};simp only at this;omega
def Ju (w:nq) (c:Sys):w.drawn<=(w.sys c).2.drawn:=by
 unfold World.sys;have:=Jt (Kernel.perform c w.os) w;split
 .exact zAA _
 .rename_i h;rw[h]at this;exact this
def zC (w:nq) (a:Addr) (n:Nat):(w.freeze a n).drawn=w.drawn:=by unfold World.freeze;split<;>rfl
def uT {P:un} {b:Bool} {l:List Addr} (h:w.farStore P a v b=.ok (w',l)):w'.drawn=w.drawn:=by
 unfold World.farStore at h;split at h
 .rename_i at_ u _;cases hv:w.viewStore P at_ u a v b with
  |error e=>rw[hv]at h;cases h
  |ok x=>
   rw[hv]at h;simp only[Except.ok.injEq]at h;subst h;unfold World.viewStore at hv;simp only[bind,Except.bind]at hv;split at hv
   .cases hv
   .split at hv
    .cases hv
    .split at hv
     .split at hv
      .cases hv
      .split at hv
       .cases hv
       .simp only[pure,Except.pure,Except.ok.injEq,zAH]at hv;rw[<-hv.1]
     .cases hv
 .cases h
def pB (P:un):∀(s:Sem α) (w:nq) (es:Array Event),w.drawn<=(world (s.runT P w es).1).drawn:=by
 intro s;induction s with
 |pure a=>intro w es;exact zAA _
 |load m a k ih=>
  intro w es;simp only[Sem.runT];split
  .exact ih _ w _
  .split
   .exact ih _ w _
   .exact zAA _
 |store m a v k ih=>
  intro w es
  have key:∀w1:nq,w1.drawn=w.drawn->∀es1,w.drawn<=(world (k.runT P w1 es1).1).drawn:=λw1 h es1=>by
   have:=ih w1 es1;omega
  cases Hu:ew v with
  |false=>obtain⟨h,e,_⟩:=kN P m a v k w es Hu;rw[e];exact zAA _
  |true=>
   rw[di P m a v k w es Hu];cases w.cell? a with
   |some _=>
    simp only;split
    .exact zAA _
    .exact key (w.setCell a v) rfl _
   |none=>
    simp only;split
    .rename_i h;exact key _ (uT h) _
    .exact zAA _
 |new o k ih=>intro w es;exact ih _ {w with heap:=w.heap.push o} es
 |shape r k ih=>intro w es;exact ih _ w es
 |freeze a n k ih=>intro w es;have:=ih (w.freeze a n) es;rw[zC]at this;exact this
 |frozen a k ih=>intro w es;exact ih _ w es
 |getObj r k ih=>
  intro w es;simp only[Sem.runT];split
  .exact zAA _
  .exact ih _ w _
  .exact zAA _
 |setObj r o k ih=>
  intro w es;simp only[Sem.runT];split
  .exact zAA _
  .exact ih {w with heap:=w.heap.setIfInBounds r o} _
  .exact zAA _
 |choose q k ih=>
  intro w es;simp only[Sem.runT];split
  .exact ih 0 w es
  .have:=ih (q.cut (w.tape w.drawn q)) {w with drawn:=w.drawn+1} es;simp only at this;omega
 |sys c k ih=>intro w es;exact zAM (Ju w c) (ih _ _ _)
 |program k ih=>intro w es;exact ih P w es
 |mark m k ih=>intro w es;exact ih w _
 |halt h=>intro w es;exact zAA _
def ext (p:Pi) (L C c:Nat):Pi:=⟨λr r'=>p r r'\/∃k,k<c/\r=L+k/\r'=C+k,p.x,p.l⟩
def fS (p:Pi) (L C c:Nat):Le p (ext p L C c):=⟨λ_ _ h=>.inl h,λ_ _ h=>h,λ_ _ _ _ h=>h,rfl⟩
def Pi.ext {p q:Pi} (h:∀r r',p r r'↔q r r') (hx:p.x=q.x) (hl:p.l=q.l):p=q:=by
 obtain⟨m,x,l⟩:=p;obtain⟨m',x',l'⟩:=q;cases hx;cases hl;have:m=m':=by funext r r';exact propext (h r r')
 rw[this]
def bU (p:Pi) (L C:Nat):ext p L C 0=p:=Pi.ext (λr r'=>⟨λh=>h.elim id (λ⟨k,hk,_⟩=>absurd hk (zDK k)),.inl⟩) rfl rfl
def qz (p:Pi) (L C c d:Nat):ext (ext p L C c) (L+c) (C+c) d=ext p L C (c+d):=by
 refine Pi.ext (λr r'=>?_) rfl rfl;constructor
 .rintro((h|⟨k,hk,h1,h2⟩)|⟨k,hk,h1,h2⟩)
  .exact .inl h
  .exact .inr ⟨k,by omega,h1,h2⟩
  .exact .inr ⟨c+k,by omega,by omega,by omega⟩
 .rintro(h|⟨k,hk,h1,h2⟩)
  .exact .inl (.inl h)
  .by_cases hc:k<c
   .exact .inl (.inr ⟨k,hc,h1,h2⟩)
   .exact .inr ⟨k-c,by omega,by omega,by omega⟩
def Pn (N:Nat) (p:Pi) (e:Event):Prop:=
 e=noRoomEvent\/(e.sync=false/\∃r r',p r r'/\((∃a:Addr,e.loc=.cell a/\a.block=r')\/e.loc=.obj r')/\(e.write=true->N<=r))
def Pn.mono {N:Nat} {p q:Pi} (h:Le p q) {e:Event} (x:Pn N p e):Pn N q e:=by
 rcases x with x|⟨h1,r,r',h2,h3,h4⟩
 .exact .inl x
 .exact .inr ⟨h1,r,r',h _ _ h2,h3,h4⟩
structure cY (P:un) (S:Nat->Bool) (K:Kz) (N:Nat) (p:Pi) (w w':nq) (c n:Nat) (w1 iO:nq):Prop where
 rel:WR P S K N (ext p w.heap.size w'.heap.size c) w1 iO
 size:w1.heap.size=w.heap.size+c
 nh:iO.heap.size=w'.heap.size+c
 drawn:w1.drawn=w.drawn+n
 ni:iO.drawn=w'.drawn+n
 tape:w1.tape=w.tape
 Hv:iO.tape=w'.tape
 os':iO.os=w'.os
 UT:iO.output=w'.output
 others:∀r',r'<w'.heap.size->(∀r,p r r'->r<N)->iO.heap[r']?=w'.heap[r']?
section
variable {P:un} {F:Array Func} {S:Nat->Bool} {K:Kz} {N:Nat}
def cY.refl {p:Pi} (h:WR P S K N p w w'):cY P S K N p w w' 0 0 w w':=
 ⟨by rw[bU];exact h,rfl,rfl,rfl,rfl,rfl,rfl,rfl,rfl,λ_ _ _=>rfl⟩
def WR.lt {p:Pi} (h:WR P S K N p w w') (x:p r r'):r<w.heap.size/\r'<w'.heap.size:=by
 obtain⟨o,o',h1,h2,_⟩:=h.blk r r' x;exact⟨(zAC.1 h1).1,(zAC.1 h2).1⟩
def cY.trans {p:Pi} {w2 Me:nq} {c2 n2:Nat} (h:cY P S K N p w w' c n w1 iO)
 (k:cY P S K N (ext p w.heap.size w'.heap.size c) w1 iO c2 n2 w2 Me):cY P S K N p w w' (c+c2) (n+n2) w2 Me:=by
 have hr:=k.rel;rw[h.size,h.nh,qz]at hr;refine⟨hr,by rw[k.size,h.size];omega,by rw[k.nh,h.nh];omega,by rw[k.drawn,h.drawn];omega,by rw[k.ni,h.ni];omega,k.tape.trans h.tape,k.Hv.trans h.Hv,k.os'.trans h.os',k.UT.trans h.UT,λr' sM ho=>?_⟩;rw[k.others r' (by rw[h.nh];omega) (λr x=>?_),h.others r' sM ho];rcases x with x|⟨j,_,_,h2⟩
 .exact ho r x
 .omega
def WR.cell {p:Pi} (h:WR P S K N p w w') (ha:jn p a a') (hv:w.cell? a=some v):∃v',w'.cell? a'=some v'/\VR S p v v':=by
 obtain⟨o,o',h1,h2,h3⟩:=h.blk _ _ ha.1;unfold World.cell? at hv⊢;rw[h1]at hv;rw[h2]
 have key:∀(c c':Array fu),AR S p c c'->(if a.spot.isSome=true then none else c[a.off]?)=some v->∃v',(if a'.spot.isSome=true then none else c'[a'.off]?)=some v'/\VR S p v v':=by
  intro c c' hc hx;rw[<-ha.2.2,<-ha.2.1];split at hx
  .cases hx
  .rename_i hs;simp only[hs];exact hc.get hx
 rcases h3 with⟨_,c,c',e,fz,rfl,rfl,hc⟩|⟨_,hc⟩
 .exact key c c' hc hv
 .cases hc with
  |cells e fz hw hc=>exact key _ _ hc hv
  |cS hl=>rw[h.str]at hl;cases hl
  |_=>cases hv
def WR.Zq {p:Pi} (h:WR P S K N p w w') (ha:jn p a a') (PQ:String):∃x,w.noCell a PQ=x/\dead x/\(∀b,w.farLoad P a b=.error (w.noCell a "load: no such cell"))/\(∀v b,w.farStore P a v b=.error (w.noCell a "store: no such cell")):=by
 obtain⟨o,o',h1,h2,h3⟩:=h.blk _ _ ha.1
 have hk:(∀c e,o≠ .pending c e)/\(∀b t,o≠ .view b t):=by
  rcases h3 with⟨_,c,c',e,fz,rfl,rfl,hc⟩|⟨_,hc⟩
  .exact⟨λ_ _ h=>(by cases h),λ_ _ h=>(by cases h)⟩
  .cases hc<;>exact⟨λ_ _ h=>(by cases h),λ_ _ h=>(by cases h)⟩
 refine⟨_,rfl,?_,λb=>?_,λv b=>?_⟩
 .unfold World.noCell;rw[h1];cases o<;>first|trivial|exact absurd rfl (hk.1 _ _)|exact absurd rfl (hk.2 _ _)
 .unfold World.farLoad;rw[h1];cases o<;>first|rfl|exact absurd rfl (hk.2 _ _)
 .unfold World.farStore;rw[h1];cases o<;>first|rfl|exact absurd rfl (hk.2 _ _)
def WR.setCell {p:Pi} (h:WR P S K N p w w') (ha:jn p a a') (hv:VR S p v v') (hN:N<=a.block):WR P S K N p (w.setCell a v) (w'.setCell a' v'):=by
 refine⟨h.inj,λr r' hr=>?_,by simpa [World.setCell]using h.low,h.fix,by simpa [World.setCell]using h.gY,by simpa [World.setCell]using h.kZ,h.str,h.xv⟩;obtain⟨o,o',h1,h2,h3⟩:=h.blk r r' hr;have B9:=h.inj r r' a.block a'.block hr ha.1;by_cases e:r=a.block
 .have e':=B9.1 e;rcases h3 with⟨au,_⟩|⟨xw,hc⟩
  .omega
  .simp only[World.setCell,zBS,e,e',zBM];rw[e]at h1;rw[e']at h2;rw[h1,h2];refine⟨_,_,rfl,rfl,.inr ⟨hN,?_⟩⟩;cases hc with
   |cS hl=>rw[h.str]at hl;cases hl
   |cells el fz hw hc=>
    simp only[ha.2.2,ha.2.1];split
    .exact .cells el fz hw hc
    .exact .cells el fz hw (hc.set _ hv)
   |map k a b=>exact .map k a b
   |loop a b c d e f g h' i j k l m=>exact .loop a b c d e f g h' i j k l m
   |number l g=>exact .number l g
   |eR=>exact .eR
   |eS=>exact .eS
 .have e':r'≠a'.block:=λx=>e (B9.2 x);simp only[World.setCell,zBS,Ne.symm e,Ne.symm e',zBC];exact⟨o,o',h1,h2,h3⟩
def WR.setObj {p:Pi} (h:WR P S K N p w w') {r0 r0':Nat} (ha:p r0 r0') (hx:OR S K p x x') (hN:N<=r0):WR P S K N p {w with heap:=w.heap.setIfInBounds r0 x} {w' with heap:=w'.heap.setIfInBounds r0' x'}:=by
 refine⟨h.inj,λr r' hr=>?_,by simpa using h.low,h.fix,by simpa using h.gY,by simpa using h.kZ,h.str,h.xv⟩;obtain⟨o,o',h1,h2,h3⟩:=h.blk r r' hr;have B9:=h.inj r r' r0 r0' hr ha;have hl:=h.lt ha;by_cases e:r=r0
 .have e':=B9.1 e;subst e;subst e';simp only[zBL,zBM,hl.1,hl.2];exact⟨_,_,rfl,rfl,.inr ⟨hN,hx⟩⟩
 .have e':r'≠r0':=λx=>e (B9.2 x);simp only[zBL,Ne.symm e,Ne.symm e',zBC];exact⟨o,o',h1,h2,h3⟩
def WR.push {p:Pi} (h:WR P S K N p w w') (hx:OR S K p x x'):WR P S K N (ext p w.heap.size w'.heap.size 1) {w with heap:=w.heap.push x} {w' with heap:=w'.heap.push x'}:=by
 have hle:=fS p w.heap.size w'.heap.size 1;refine⟨λr r' s s' hr hs=>?_,λr r' hr=>?_,by simp;have:=h.low;omega,λr r' hr=>?_,by simp;have:=h.gY;omega,by simp;have:=h.kZ;omega,h.str,h.xv⟩
 .rcases hr with hr|⟨k,hk,h1,h2⟩<;>rcases hs with hs|⟨j,hj,h3,h4⟩
  .exact h.inj r r' s s' hr hs
  .have:=h.lt hr;omega
  .have:=h.lt hs;omega
  .omega
 .rcases hr with hr|⟨k,hk,h1,h2⟩
  .obtain⟨o,o',h1,h2,h3⟩:=h.blk r r' hr;have hl:=h.lt hr;refine⟨o,o',by simp only[zBK,zEN hl.1,zBC];exact h1,by simp only[zBK,zEN hl.2,zBC];exact h2,?_⟩;exact h3.imp (λ⟨a,b⟩=>⟨a,b.mono hle⟩) (λ⟨a,b⟩=>⟨a,b.mono hle⟩)
  .have qA:k=0:=by omega
   subst qA;simp only[zCH]at h1 h2;subst h1;subst h2;exact⟨x,x',by simp,by simp,.inr ⟨h.low,hx.mono hle⟩⟩
 .rcases hr with hr|⟨k,hk,h1,h2⟩
  .exact h.fix r r' hr
  .have:=h.gY;have:=h.kZ;omega
def WR.ok {p:Pi} (h:WR P S K N p w w'):qy P p:=⟨λr r' s s' a b _=>h.inj r r' s s' a b,h.fix,λr r' s' a b=>(h.inj r r' r s' a b).1 rfl,λ_=>h.xv⟩
def WR.freeze {p:Pi} (h:WR P S K N p w w') (ha:jn p a a') (n:Nat) (hN:N<=a.block):WR P S K N p (w.freeze a n) (w'.freeze a' n):=by
 unfold World.freeze;split
 .exact h
 .refine⟨h.inj,λr r' hr=>?_,by simpa using h.low,h.fix,by simpa using h.gY,by simpa using h.kZ,h.str,h.xv⟩;obtain⟨o,o',h1,h2,h3⟩:=h.blk r r' hr;have B9:=h.inj r r' a.block a'.block hr ha.1;by_cases e:r=a.block
  .have e':=B9.1 e;rcases h3 with⟨au,_⟩|⟨xw,hc⟩
   .omega
   .simp only[zBS,e,e',zBM];rw[e]at h1;rw[e']at h2;rw[h1,h2];refine⟨_,_,rfl,rfl,.inr ⟨hN,?_⟩⟩;cases hc with
    |cS hl=>rw[h.str]at hl;cases hl
    |cells el fz hw hc=>
     simp only[ha.2.1];exact .cells el _ (λx=>by rw[h.str]at x;cases x) hc
    |map k a b=>exact .map k a b
    |loop a b c d e f g h' i j k l m=>exact .loop a b c d e f g h' i j k l m
    |number l g=>exact .number l g
    |eR=>exact .eR
    |eS=>exact .eS
  .have e':r'≠a'.block:=λx=>e (B9.2 x);simp only[zBS,Ne.symm e,Ne.symm e',zBC];exact⟨o,o',h1,h2,h3⟩
def qB (es:Array α) (e:α):es.push e=es++#[e]:=by simp
def Out (P:un) (F:Array Func) (S:Nat->Bool) (K:Kz) (N:Nat) (Q:Pi->α->β->Prop) (s:Sem α) (s':Sem β) (p:Pi) (w w':nq) (es dJ:Array Event):Prop:=
 (∃h w1 es1,s.runT P w es=(.halt h w1,es1)/\dead h)\/
 ∃c n w1 iO es1 fs,cY P S K N p w w' c n w1 iO/\(∀e∈fs,Pn N (ext p w.heap.size w'.heap.size c) e)/\
  ((∃a b,s.runT P w es=(.ok a w1,es1)/\s'.runT (ai P F) w' dJ=(.ok b iO,dJ++fs)/\Q (ext p w.heap.size w'.heap.size c) a b)\/
   (∃v v',s.runT P w es=(.halt (.panic v) w1,es1)/\s'.runT (ai P F) w' dJ=(.halt (.panic v') iO,dJ++fs)/\VR S (ext p w.heap.size w'.heap.size c) v v'))
def Dd.out {Q:Pi->α->β->Prop} {s:Sem α} {s':Sem β} {p:Pi} (h:Dd P p s) (hw:WR P S K N p w w'):Out P F S K N Q s s' p w w' es dJ:=by
 rcases h with⟨h,_⟩|⟨_,h⟩
 .rw[hw.str]at h;cases h
 .obtain⟨x,w1,es1,e,hd⟩:=h w es;exact .inl ⟨x,w1,es1,e,hd⟩
def Out.head {Q:Pi->α->β->Prop} {s t:Sem α} {s' t':Sem β} {p:Pi} {gs:Array Event}
 (e:s.runT P w es=t.runT P w1 es1) (e':s'.runT (ai P F) w' dJ=t'.runT (ai P F) iO (dJ++gs)) (hm:cY P S K N p w w' c n w1 iO)
 (hg:∀x∈gs,Pn N (ext p w.heap.size w'.heap.size c) x)
 (h:Out P F S K N Q t t' (ext p w.heap.size w'.heap.size c) w1 iO es1 (dJ++gs)):Out P F S K N Q s s' p w w' es dJ:=by
 unfold Out at h⊢;rw[e,e'];rcases h with h|⟨c2,n2,w2,Me,es2,fs,k1,k2,k3⟩
 .exact .inl h
 .rw[hm.size,hm.nh,qz]at k2 k3;refine .inr ⟨c+c2,n+n2,w2,Me,es2,gs++fs,hm.trans k1,λx hx=>?_,?_⟩
  .rcases zEA.1 hx with hx|hx
   .refine(hg x hx).mono ?_;rw[<-qz];exact fS _ _ _ _
   .exact k2 x hx
  .rw[<-zEW];exact k3
def uu.sound {Q:Pi->α->β->Prop}:∀(s:Sem α) {s':Sem β} {p:Pi},uu P F S K N Q s s' p->∀(w w':nq) (es dJ:Array Event) (m:Nat),WR P S K N p w w'->
 (∀j,j<m->∀q,w.tape (w.drawn+j) q=w'.tape (w'.drawn+j) q)->(world (s'.runT (ai P F) w' dJ).1).drawn<=w'.drawn+m->Out P F S K N Q s s' p w w' es dJ:=by
 intro s;induction s with
 |pure a=>
  intro s' p h w w' es dJ m hw hm hd;cases s'<;>first|exact h.elim|skip
  refine .inr ⟨0,0,w,w',es,#[],cY.refl hw,by simp,.inl ⟨_,_,rfl,by simp only[Sem.runT,Array.append_empty];rfl,by rw[bU];exact h⟩⟩
 |load md a k ih=>
  intro s' p h w w' es dJ m hw hm hd;cases s'<;>first|exact h.elim|skip
  rename_i md' a' k';obtain⟨rfl,rfl,ha,hk⟩:=h;cases hv:w.cell? a with
  |none=>
   obtain⟨x,hx,Mf,hf,_⟩:=hw.Zq (P:=P) ha "load: no such cell";exact .inl ⟨_,w,es,by simp only[Sem.runT,hv,hf],hx▸Mf⟩
  |some v=>
   obtain⟨v',qx,hr⟩:=hw.cell ha hv;have e':(Sem.load .plain a' k').runT (ai P F) w' dJ=(k' v').runT (ai P F) w' (dJ++#[⟨.cell a',false,false⟩]):=by simp only[Sem.runT,qx,qB];rfl
   have e:(Sem.load .plain a k).runT P w es=(k v).runT P w (es.push ⟨.cell a,false,false⟩):=by simp only[Sem.runT,hv];rfl
   refine Out.head e e' (cY.refl hw) ?_ (by rw[bU];exact ih v (hk v v' hr) w w' _ _ m hw hm (by rw[<-e'];exact hd));intro x hx;have:x=⟨.cell a',false,false⟩:=by simpa using hx
   subst this;exact .inr ⟨rfl,a.block,a'.block,.inl ha.1,.inl ⟨a',rfl,rfl⟩,λy=>by cases y⟩
 |store md a v k ih=>
  intro s' p h w w' es dJ m hw hm hd;cases s'<;>first|exact h.elim|skip
  rename_i md' a' v' k';obtain⟨rfl,rfl,ha,Mg,hk⟩:=h;cases Hu:ew v with
  |false=>obtain⟨x,hx,Mf⟩:=kN P .plain a v k w es Hu;exact .inl ⟨x,w,es,hx,Mf⟩
  |true=>
   have UU:ew v'=true:=by rw[<-Mg.ew];exact Hu
   have e:=di P .plain a v k w es Hu;cases hv:w.cell? a with
   |none=>
    obtain⟨x,hx,Mf,_,hf⟩:=hw.Zq (P:=P) ha "store: no such cell";rw[hv]at e;simp only[hf]at e;exact .inl ⟨_,w,es,e,hx▸Mf⟩
   |some u=>
    rw[hv]at e;simp only at e;by_cases hz:w.frozen? a=true
    .simp only[hz,zBM]at e;exact .inl ⟨_,w,es,e,trivial⟩
    .simp only[hz,zAL,zBC]at e;obtain⟨u',qx,_⟩:=hw.cell ha hv;obtain⟨o,o',h1,h2,h3⟩:=hw.blk _ _ ha.1
     have cq:N<=a.block/\w'.frozen? a'=false:=by
      rcases h3 with⟨_,c,c',el,fz,rfl,rfl,hc⟩|⟨xw,hc⟩
      .exfalso;apply hz;unfold World.frozen?;unfold World.cell? at hv;rw[h1]at hv⊢;simp only at hv⊢;split at hv
       .cases hv
       .have:=(zAC.1 hv).1;simp[this]
      .refine⟨xw,?_⟩;unfold World.frozen? at hz⊢;rw[h1]at hz;rw[h2];cases hc with
       |cS hl=>rw[hw.str]at hl;cases hl
       |cells=>simp only[ha.2.1]at hz;simpa using hz
       |_=>rfl
     have e':=di (ai P F) .plain a' v' k' w' dJ UU;rw[qx]at e';simp only[cq.2,zAL,zBC]at e';have e2:(Sem.store .plain a' v' k').runT (ai P F) w' dJ=k'.runT (ai P F) (w'.setCell a' v') (dJ++#[⟨.cell a',true,false⟩]):=by rw[e',qB];rfl
     have yf:cY P S K N p w w' 0 0 (w.setCell a v) (w'.setCell a' v'):=
      ⟨by rw[bU];exact hw.setCell ha Mg cq.1,by simp[World.setCell],by simp[World.setCell],rfl,rfl,rfl,rfl,rfl,rfl,λr' sM ho=>by
        have:a'.block≠r':=λx=>by have:=ho a.block (x▸ha.1);omega
        simp[World.setCell,zBS,this]⟩
     refine Out.head e e2 yf ?_ (by rw[bU];exact ih hk (w.setCell a v) (w'.setCell a' v') _ _ m (hw.setCell ha Mg cq.1) hm (by rw[<-e2];exact hd));intro x hx;have:x=⟨.cell a',true,false⟩:=by simpa using hx
     subst this;exact .inr ⟨rfl,a.block,a'.block,.inl ha.1,.inl ⟨a',rfl,rfl⟩,λ_=>cq.1⟩
 |new o k ih=>
  intro s' p h w w' es dJ m hw hm hd;cases s'<;>first|exact h.elim|skip
  rename_i o' k';obtain⟨ho,_,hk⟩:=h
  have yf:cY P S K N p w w' 1 0 {w with heap:=w.heap.push o} {w' with heap:=w'.heap.push o'}:=
   ⟨hw.push ho,by simp,by simp,rfl,rfl,rfl,rfl,rfl,rfl,λr' sM _=>by simp[zBK,zEN sM]⟩
  refine Out.head (gs:=#[]) (t:=k w.heap.size) (t':=k' w'.heap.size) (es1:=es) rfl (by simp[-Sem.runT_eq,Sem.runT]) yf (by simp) ?_;exact ih _ (hk _ _ _ (fS p _ _ _) (hw.push ho).ok (.inr ⟨0,by omega,rfl,rfl⟩) hw.low (hw.xv _)) _ _ _ _ m (hw.push ho) hm (by simpa [-Sem.runT_eq,Sem.runT]using hd)
 |shape r k ih=>
  intro s' p h w w' es dJ m hw hm hd;rcases h with h|⟨r',k',rfl,hr,hk⟩
  .exact h.out hw
  have hs:w'.shape? r'=w.shape? r:=by
   obtain⟨o,o',h1,h2,h3⟩:=hw.blk _ _ hr;unfold World.shape?;rw[h1,h2];rcases h3 with⟨_,c,c',e,fz,rfl,rfl,hc⟩|⟨_,hc⟩
   .simp[hc.1]
   .cases hc with
    |cells e fz _ hc=>simp[hc.1]
    |cS hl=>rw[hw.str]at hl;cases hl
    |_=>rfl
  refine Out.head (gs:=#[]) (t:=k (w.shape? r)) (t':=k' (w.shape? r)) (es1:=es) rfl (by simp[-Sem.runT_eq,Sem.runT,hs]) (cY.refl hw) (by simp) ?_;rw[bU];exact ih _ (hk _) _ _ _ _ m hw hm (by simpa [-Sem.runT_eq,Sem.runT,hs]using hd)
 |freeze a n k ih=>
  intro s' p h w w' es dJ m hw hm hd;rcases h with h|⟨a',k',rfl,ha,hN,hk⟩
  .rw[hw.str]at h;cases h
  have lL:=hw.freeze ha n hN
  have cB:∀(v:nq) (b:Addr),(v.freeze b n).heap.size=v.heap.size/\(v.freeze b n).drawn=v.drawn/\(v.freeze b n).tape=v.tape/\(v.freeze b n).os=v.os/\(v.freeze b n).output=v.output:=λv b=>by
   unfold World.freeze;split<;>simp
  have yf:cY P S K N p w w' 0 0 (w.freeze a n) (w'.freeze a' n):=
   ⟨by rw[bU];exact lL,(cB w a).1,(cB w' a').1,(cB w a).2.1,(cB w' a').2.1,(cB w a).2.2.1,(cB w' a').2.2.1,(cB w' a').2.2.2.1,(cB w' a').2.2.2.2,λr' sM ho=>by
     have:a'.block≠r':=λx=>by have:=ho a.block (x▸ha.1);omega
     unfold World.freeze;split
     .rfl
     .simp[zBS,this]⟩
  refine Out.head (gs:=#[]) (t:=k) (t':=k') (es1:=es) rfl (by simp[-Sem.runT_eq,Sem.runT]) yf (by simp) ?_;rw[bU];exact ih hk _ _ _ _ m lL (λj hj q=>by rw[(cB w a).2.1,(cB w a).2.2.1,(cB w' a').2.1,(cB w' a').2.2.1];exact hm j hj q) (by rw[(cB w' a').2.1];simpa [-Sem.runT_eq,Sem.runT]using hd)
 |frozen a k ih=>
  intro s' p h w w' es dJ m hw hm hd;exact h.out hw
 |getObj r k ih=>
  intro s' p h w w' es dJ m hw hm hd;cases s'<;>first|exact h.elim|skip
  rename_i r' k';obtain⟨hr,hk⟩:=h;obtain⟨o,o',h1,h2,h3⟩:=hw.blk _ _ hr
  have pC:∀c e fz,o=.cells c e fz->Out P F S K N Q (Sem.getObj r k) (Sem.getObj r' k') p w w' es dJ:=λc e fz ho=>by
   subst ho;exact .inl ⟨.stuck "getObj: a row of cells",w,es,by simp only[Sem.runT,h1],trivial⟩
  rcases h3 with⟨_,c,c',e,fz,ho,_⟩|⟨_,tS⟩
  .exact pC _ _ _ ho
  .by_cases hl:∃c e fz,o=.cells c e fz
   .obtain⟨c,e,fz,ho⟩:=hl;exact pC _ _ _ ho
   .have EJ:∀c e fz,o≠ .cells c e fz:=λc e fz ho=>hl ⟨c,e,fz,ho⟩;have Zr:∀c e fz,o'≠ .cells c e fz:=by cases tS<;>first|exact absurd rfl (EJ _ _ _)|(exact λ_ _ _ h=>(by cases h))
    have hc:o.isChan=false/\o'.isChan=false:=by cases tS<;>exact⟨rfl,rfl⟩
    have e:(Sem.getObj r k).runT P w es=(k o).runT P w (es.push ⟨.obj r,false,false⟩):=by
     simp only[Sem.runT,h1];cases o<;>first|exact absurd rfl (EJ _ _ _)|(cases hc.1;done)|rfl
    have e':(Sem.getObj r' k').runT (ai P F) w' dJ=(k' o').runT (ai P F) w' (dJ++#[⟨.obj r',false,false⟩]):=by
     simp only[Sem.runT,h2,<-qB];cases o'<;>first|exact absurd rfl (Zr _ _ _)|(cases hc.2;done)|rfl
    refine Out.head e e' (cY.refl hw) ?_ (by rw[bU];exact ih o (hk o o' tS) w w' _ _ m hw hm (by rw[<-e'];exact hd));intro x hx;have:x=⟨.obj r',false,false⟩:=by simpa using hx
    subst this;exact .inr ⟨rfl,r,r',.inl hr,.inr rfl,λy=>by cases y⟩
 |setObj r x k ih=>
  intro s' p h w w' es dJ m hw hm hd;cases s'<;>first|exact h.elim|skip
  rename_i r' x' k';obtain⟨hr,hx,_,hk⟩:=h;obtain⟨o,o',h1,h2,h3⟩:=hw.blk _ _ hr
  have pC:∀c e fz,o=.cells c e fz->Out P F S K N Q (Sem.setObj r x k) (Sem.setObj r' x' k') p w w' es dJ:=λc e fz ho=>by
   subst ho;exact .inl ⟨.stuck "setObj: a row of cells",w,es,by simp only[Sem.runT,h1],trivial⟩
  rcases h3 with⟨_,c,c',e,fz,ho,_⟩|⟨xw,tS⟩
  .exact pC _ _ _ ho
  .by_cases hl:∃c e fz,o=.cells c e fz
   .obtain⟨c,e,fz,ho⟩:=hl;exact pC _ _ _ ho
   .have EJ:∀c e fz,o≠ .cells c e fz:=λc e fz ho=>hl ⟨c,e,fz,ho⟩;have Zr:∀c e fz,o'≠ .cells c e fz:=by cases tS<;>first|exact absurd rfl (EJ _ _ _)|(exact λ_ _ _ h=>(by cases h))
    have hc:x.isChan=false/\x'.isChan=false:=by cases hx<;>exact⟨rfl,rfl⟩
    have e:(Sem.setObj r x k).runT P w es=k.runT P {w with heap:=w.heap.setIfInBounds r x} (es.push ⟨.obj r,true,x.isChan⟩):=by
     simp only[Sem.runT,h1]
    have e':(Sem.setObj r' x' k').runT (ai P F) w' dJ=k'.runT (ai P F) {w' with heap:=w'.heap.setIfInBounds r' x'} (dJ++#[⟨.obj r',true,false⟩]):=by
     simp only[Sem.runT,h2,hc.2,<-qB]
    have lL:=hw.setObj hr hx xw
    have yf:cY P S K N p w w' 0 0 {w with heap:=w.heap.setIfInBounds r x} {w' with heap:=w'.heap.setIfInBounds r' x'}:=
     ⟨by rw[bU];exact lL,by simp,by simp,rfl,rfl,rfl,rfl,rfl,rfl,λs hs ho=>by
       have:r'≠s:=λy=>by have:=ho r (y▸hr);omega
       simp[this]⟩
    refine Out.head e e' yf ?_ (by rw[bU];exact ih hk _ _ _ _ m lL hm (by rw[<-e'];exact hd));intro y hy;have:y=⟨.obj r',true,false⟩:=by simpa using hy
    subst this;exact .inr ⟨rfl,r,r',.inl hr,.inr rfl,λ_=>xw⟩
 |choose q k ih=>
  intro s' p h w w' es dJ m hw hm hd;rcases h with h|⟨k',rfl,hk⟩
  .rw[hw.str]at h;cases h
  by_cases hq:q.forced=true
  .refine Out.head (gs:=#[]) (t:=k 0) (t':=k' 0) (es1:=es) (by simp[-Sem.runT_eq,Sem.runT,hq]) (by simp[-Sem.runT_eq,Sem.runT,hq]) (cY.refl hw) (by simp) ?_;rw[bU];exact ih _ (hk _) _ _ _ _ m hw hm (by simpa [-Sem.runT_eq,Sem.runT,hq]using hd)
  .simp only[Sem.runT,hq,zAL,zBC]at hd;have hdr:=pB (ai P F) (k' (q.cut (w'.tape w'.drawn q))) {w' with drawn:=w'.drawn+1} dJ;simp only at hdr;have Jv:0<m:=by omega
   have ht:=hm 0 Jv q;simp only[zCH]at ht;have lL:WR P S K N p {w with drawn:=w.drawn+1} {w' with drawn:=w'.drawn+1}:=⟨hw.inj,hw.blk,hw.low,hw.fix,hw.gY,hw.kZ,hw.str,hw.xv⟩
   have yf:cY P S K N p w w' 0 1 {w with drawn:=w.drawn+1} {w' with drawn:=w'.drawn+1}:=
    ⟨by rw[bU];exact lL,rfl,rfl,rfl,rfl,rfl,rfl,rfl,rfl,λ_ _ _=>rfl⟩
   refine Out.head (gs:=#[]) (t:=k (q.cut (w.tape w.drawn q))) (t':=k' (q.cut (w.tape w.drawn q))) (es1:=es) (by simp[-Sem.runT_eq,Sem.runT,hq]) (by simp[-Sem.runT_eq,Sem.runT,hq,ht]) yf (by simp) ?_;rw[bU];refine ih _ (hk _) _ _ _ _ (m-1) lL (λj hj q'=>?_) (by simp only[ht,Array.append_empty];omega);have:=hm (j+1) (by omega) q';simp only;rw[show w.drawn+1+j=w.drawn+(j+1) by omega,show w'.drawn+1+j=w'.drawn+(j+1) by omega];exact this
 |sys c k ih=>intro s' p h w w' es dJ m hw;have h:p.l=true:=h;rw[hw.str]at h;cases h
 |program k ih=>
  intro s' p h w w' es dJ m hw hm hd;rcases h with h|⟨k',rfl,h⟩
  .exact h.out hw
  refine Out.head (gs:=#[]) (t:=k P) (t':=k' (ai P F)) (es1:=es) rfl (by simp[-Sem.runT_eq,Sem.runT]) (cY.refl hw) (by simp) ?_;rw[bU];exact ih _ h _ _ _ _ m hw hm (by simpa [-Sem.runT_eq,Sem.runT]using hd)
 |mark mk k ih=>
  intro s' p h w w' es dJ m hw hm hd;rcases h with⟨h,_⟩|h|⟨rfl,k',rfl,hk⟩
  .rw[hw.str]at h;cases h
  .exact h.out hw
  refine Out.head (gs:=#[noRoomEvent]) (t:=k) (t':=k') (es1:=es.push noRoomEvent) rfl (by simp[-Sem.runT_eq,Sem.runT,noRoomEvent]) (cY.refl hw) (λx hx=>.inl (by simpa using hx)) ?_;rw[bU];exact ih hk _ _ _ _ m hw hm (by simpa [-Sem.runT_eq,Sem.runT,noRoomEvent]using hd)
 |halt x=>
  intro s' p h w w' es dJ m hw hm hd;rcases h with h|h|⟨v,v',rfl,rfl,hr⟩
  .rw[hw.str]at h;cases h
  .exact .inl ⟨x,w,es,rfl,h⟩
  .exact .inr ⟨0,0,w,w',es,#[],cY.refl hw,by simp,.inr ⟨v,v',rfl,by simp[-Sem.runT_eq,Sem.runT],by rw[bU];exact hr⟩⟩
def SR.sound {Q:Pi->α->β->Prop} {s:Sem α} {s':Sem β} {p:Pi} (h:SR P F S K N Q s s' p) (w w':nq) (es dJ:Array Event) (m:Nat) (hw:WR P S K N p w w')
 (hm:∀j,j<m->∀q,w.tape (w.drawn+j) q=w'.tape (w'.drawn+j) q) (hd:(world (s'.runT (ai P F) w' dJ).1).drawn<=w'.drawn+m):Out P F S K N Q s s' p w w' es dJ:=
 uu.sound s (h hw.ok) w w' es dJ m hw hm hd
end
def bC (P:un):Prop:=∀t i v,P.info? t=some i->i.zero=some v->plain 50 v=true
section
variable (P:un) (F:Array Func)
def lT (t:a00):(ai P F).info? t=P.info? t:=rfl
def dU (t:a00):(ai P F).underlying t=P.underlying t:=rfl
def tT (t:a00):(ai P F).underlyingId t=P.underlyingId t:=rfl
def lg:(ai P F).depth=P.depth:=rfl
def fp (t:a00):(ai P F).cellsOf t=P.cellsOf t:=rfl
def fq (t:a00):(ai P F).bytesOf t=P.bytesOf t:=rfl
def nk:∀(d:Nat) (t:a00),(ai P F).eqGuardType d t=P.eqGuardType d t
 |0,_=>rfl
 |d+1,t=>by
  have ih:=nk d;simp only[Program.eqGuardType,ih];rfl
def Ca:∀(d:Nat) (t u:a00),(ai P F).alikeButTags d t u=P.alikeButTags d t u
 |0,_,_=>rfl
 |d+1,t,u=>by
  have ih:=Ca d;simp only[Program.alikeButTags,ih]
def lh (t:a00):(ai P F).stoodInHeld t=P.stoodInHeld t:=by
 simp only[Program.stoodInHeld,Program.stoodInAs];have h:∀u v,(ai P F).alikeButTags (ai P F).depth u v=P.alikeButTags P.depth u v:=λu v=>Ca P F _ u v;simp only[h,tT];rfl
def dV:∀(d:Nat) (t:a00) (o:Nat),byteOfCell (ai P F) d t o=byteOfCell P d t o
 |0,_,_=>rfl
 |d+1,t,o=>by
  have ih:=dV d;simp only[byteOfCell,ih,fp,fq];rfl
def pf:∀(d:Nat) (t:a00) (o:Nat),cellOfByte (ai P F) d t o=cellOfByte P d t o
 |0,_,_=>rfl
 |d+1,t,o=>by
  have ih:=pf d;simp only[cellOfByte,ih,fp,fq];rfl
def fw (d:Nat) (t:a00) (c o:Nat) (b:Int):cellAtBytes (ai P F) d t c o b=cellAtBytes P d t c o b:=by
 simp only[cellAtBytes,dV,pf,fp,fq];rfl
end
section
variable {P:un} {F:Array Func} {S:Nat->Bool} {K:Kz} {N:Nat} {p:Pi}
abbrev QV (S:Nat->Bool):Pi->fu->fu->Prop:=λq v v'=>VR S q v v'
abbrev QA (S:Nat->Bool):Pi->Array fu->Array fu->Prop:=λq v v'=>AR S q v v'
abbrev QE (α:Type):Pi->α->α->Prop:=λ_ a b=>a=b
abbrev QN (N:Nat):Pi->Addr->Addr->Prop:=λq a b=>jn q a b/\N<=a.block/\∀k,¬q.x a.block k
abbrev QD:Pi->Addr->Addr->Prop:=λq a b=>jn q a b
def SR.pure {Q:Pi->α->β->Prop} {a:α} {b:β} (h:Q p a b):SR P F S K N Q (Pure.pure a) (Pure.pure b) p:=λ_=>h
def SR.stuck {Q:Pi->α->β->Prop} {x:String} {s':Sem β}:SR P F S K N Q (Go.stuck x:Sem α) s' p:=λ_=>.inr (.inl trivial)
def SR.unsupported {Q:Pi->α->β->Prop} {u:Unsupported} {s':Sem β} (h:∀g,u≠ .initOrder g:=by intro g;exact λh=>by cases h):SR P F S K N Q (Go.unsupported u:Sem α) s' p:=λ_=>.inr (.inl (by cases u<;>first|trivial|exact absurd rfl (h _)))
def SR.goPanic {Q:Pi->α->β->Prop} (h:VR S p v v'):SR P F S K N Q (Go.goPanic v:Sem α) (Go.goPanic v':Sem β) p:=λ_=>.inr (.inr ⟨v,v',rfl,rfl,h⟩)
def SR.choose (q:Question):SR P F S K N (QE Nat) (Go.choose q) (Go.choose q) p:=λ_=>.inr ⟨_,rfl,λ_=>rfl⟩
def SR.load (h:jn p a a'):SR P F S K N (QV S) (Go.load a) (Go.load a') p:=λ_=>⟨rfl,rfl,h,λ_ _ g=>g⟩
def SR.store (h:jn p a a') (g:VR S p v v'):SR P F S K N (QE Unit) (Go.store a v) (Go.store a' v') p:=λ_=>⟨rfl,rfl,h,g,rfl⟩
def SR.newObj (h:OR S K p o o') (hs:p.l=true->jH o o'):SR P F S K N (λq r r'=>q r r'/\N<=r/\∀k,¬q.x r k) (Go.newObj o) (Go.newObj o') p:=λ_=>⟨h,hs,λ_ _ _ _ _ g l n=>⟨g,l,n⟩⟩
def SR.shape (h:p r r'):SR P F S K N (QE (Option (a00×Nat))) (Go.shape r) (Go.shape r') p:=λ_=>.inr ⟨_,_,rfl,h,λ_=>rfl⟩
def SR.getObj (h:p r r'):SR P F S K N (λq o o'=>OR S K q o o') (Go.getObj r) (Go.getObj r') p:=λ_=>⟨h,λ_ _ g=>g⟩
def SR.setObj (h:p r r') (g:OR S K p o o') (hs:p.l=true->jH o o'):SR P F S K N (QE Unit) (Go.setObj r o) (Go.setObj r' o') p:=λ_=>⟨h,g,hs,rfl⟩
def SR.askRoom (n:Nat):SR P F S K N (QE Unit) (Go.askRoom n) (Go.askRoom n) p:=by
 unfold Go.askRoom;split
 .exact λ_=>.inr (.inr ⟨rfl,_,rfl,rfl⟩)
 .exact λ_=>rfl
def SR.ite {Q:Pi->α->β->Prop} {c:Prop} [Decidable c] {s t:Sem α} {s' t':Sem β} (h:c->SR P F S K N Q s s' p) (g:¬c->SR P F S K N Q t t' p):SR P F S K N Q (if c then s else t) (if c then s' else t') p:=by
 by_cases hc:c
 .simp only[hc,zBM];exact h hc
 .simp only[hc,zBC];exact g hc
def SR.aE {Q':Pi->γ->δ->Prop} {f:α->Sem γ} {f':α->Sem δ} {s s':Sem α} (h:SR P F S K N (QE α) s s' p) (g:∀q a,Le p q->SR P F S K N Q' (f a) (f' a) q):SR P F S K N Q' (s>>=f) (s'>>=f') p:=
 h.bind λq a b hq e=>by subst e;exact g q a hq
def SR.qC {Q':Pi->γ->δ->Prop} {f:un->Sem γ} {f':un->Sem δ} (g:SR P F S K N Q' (f P) (f' (ai P F)) p):SR P F S K N Q' (Go.program>>=f) (Go.program>>=f') p:=λhp=>.inr ⟨_,rfl,g hp⟩
def SR.qD {Q':Pi->γ->δ->Prop} {f:TypeInfo->Sem γ} {f':TypeInfo->Sem δ} (g:∀i,P.info? t=some i->SR P F S K N Q' (f i) (f' i) p):SR P F S K N Q' (Go.typeInfo t>>=f) (Go.typeInfo t>>=f') p:=by
 unfold Go.typeInfo;show SR P F S K N Q' ((Go.program>>=_)>>=f) ((Go.program>>=_)>>=f') p;refine fun hp=>.inr ⟨_,rfl,?_⟩;revert hp;show SR P F S K N Q' (Sem.bind (match P.info? t with|some i=>Pure.pure i|none=>Go.stuck "no such type") f) (Sem.bind (match P.info? t with|some i=>Pure.pure i|none=>Go.stuck "no such type") f') p;cases h:P.info? t with
 |none=>exact SR.stuck (x:= "no such type")
 |some i=>exact g i h
def SR.cT {Q':Pi->γ->δ->Prop} {f:TypeDesc->Sem γ} {f':TypeDesc->Sem δ} (g:∀i,P.underlying t=some i->SR P F S K N Q' (f i) (f' i) p):SR P F S K N Q' (Go.underlying t>>=f) (Go.underlying t>>=f') p:=by
 unfold Go.underlying;refine fun hp=>.inr ⟨_,rfl,?_⟩;revert hp;show SR P F S K N Q' (Sem.bind (match P.underlying t with|some i=>Pure.pure i|none=>Go.stuck "no such type") f) (Sem.bind (match P.underlying t with|some i=>Pure.pure i|none=>Go.stuck "no such type") f') p;cases h:P.underlying t with
 |none=>exact SR.stuck (x:= "no such type")
 |some i=>exact g i h
def SR.zeroValue (hz:bC P) (t:a00):SR P F S K N (λq a b=>a=b/\VR S q a b) (Go.zeroValue t) (Go.zeroValue t) p:=by
 unfold Go.zeroValue;refine SR.qD λi hi=>?_;cases h:i.zero with
 |none=>exact SR.unsupported
 |some v=>exact λ_=>⟨rfl,VR.plain 50 v (hz t i v hi h)⟩
def SR.sizeOf (t:a00):SR P F S K N (QE Nat) (Go.sizeOf t) (Go.sizeOf t) p:=by
 unfold Go.sizeOf;exact SR.qD λi _=>SR.pure rfl
def SR.isAgg (t:a00):SR P F S K N (QE Bool) (Go.isAgg t) (Go.isAgg t) p:=by
 unfold Go.isAgg;refine SR.cT λi _=>?_;cases i<;>exact SR.pure rfl
def SR.loadCellsFrom:∀(n:Nat) {p:Pi} {a a':Addr} (i:Nat) {acc E9:Array fu},jn p a a'->AR S p acc E9->SR P F S K N (QA S) (Go.loadCellsFrom a i n acc) (Go.loadCellsFrom a' i n E9) p
 |0,_,_,_,_,_,_,_,hc=>SR.pure hc
 |n+1,_,_,_,i,_,_,ha,hc=>by
  simp only[Go.loadCellsFrom];refine(SR.load (ha.add i)).bind λq v v' hq hv=>?_;exact SR.loadCellsFrom n (i+1) (ha.mono hq) ((hc.mono hq).push hv)
def SR.loadCells (h:jn p a a') (n:Nat):SR P F S K N (QA S) (Go.loadCells a n) (Go.loadCells a' n) p:=SR.loadCellsFrom n 0 h AR.empty
def SR.storeCells:∀(vs Td:List fu) {p:Pi} {a a':Addr} (i:Nat),jn p a a'->vs.length=Td.length->(∀(j:Nat) v v',vs[j]?=some v->Td[j]?=some v'->VR S p v v')->SR P F S K N (QE Unit) (Go.storeCells a vs i) (Go.storeCells a' Td i) p
 | [],[],_,_,_,_,_,_,_=>SR.pure rfl
 | [],_::_,_,_,_,_,_,hl,_=>by cases hl
 |_::_,[],_,_,_,_,_,hl,_=>by cases hl
 |v::vs,v'::Td,_,_,_,i,ha,hl,hv=>by
  simp only[Go.storeCells];refine(SR.store (ha.add i) (hv 0 v v' rfl rfl)).aE λq _ hq=>?_;exact SR.storeCells vs Td (i+1) (ha.mono hq) (by simpa using hl) λj x x' h1 h2=>(hv (j+1) x x' h1 h2).mono hq
def SR.gQ (h:jn p a a') (hx:AR S p xs de):SR P F S K N (QE Unit) (Go.storeCells a xs.toList) (Go.storeCells a' de.toList) p:=
 SR.storeCells _ _ 0 h (by simpa using hx.1) λj v v' h1 h2=>hx.2 j v v' (by simpa using h1) (by simpa using h2)
def SR.loadVar (t:a00) (h:jn p a a'):SR P F S K N (QV S) (Go.loadVar t a) (Go.loadVar t a') p:=by
 unfold Go.loadVar;refine(SR.isAgg t).aE λq b hq=>?_;have h:=h.mono hq;cases b with
 |true=>
  simp only[zBM];refine(SR.sizeOf t).aE λq n hq=>?_;exact(SR.loadCells (h.mono hq) n).bind λq x x' hq hx=>SR.pure hx.agg
 |false=>exact SR.load h
def SR.storeVar (t:a00) (h:jn p a a') (hv:VR S p v v'):SR P F S K N (QE Unit) (Go.storeVar t a v) (Go.storeVar t a' v') p:=by
 unfold Go.storeVar;refine(SR.sizeOf t).aE λq n hq=>?_;have hc:=(hv.mono hq).cells;rw[<-hc.1];split
 .exact SR.stuck
 .exact SR.gQ (h.mono hq) hc
def SR.newRow (e:a00) (h:AR S p xs de):SR P F S K N (QN N) (Go.newRow e xs) (Go.newRow e de) p:=by
 unfold Go.newRow;exact(SR.newObj (.cells e (0,0) (λ_=>zAA 0) h) λ_ _ _ _ _ _ _ a b=>by cases a;cases b;exact h.1.symm).bind λq r r' _ hr=>SR.pure ⟨⟨hr.1,rfl,rfl⟩,hr.2⟩
def SR.newVar (e:a00) (h:VR S p v v'):SR P F S K N (QN N) (Go.newVar e v) (Go.newVar e v') p:=SR.newRow e h.cells
def SR.part (t:a00) (h:AR S p xs de) (off:Nat):SR P F S K N (QV S) (Go.part t xs off) (Go.part t de off) p:=by
 unfold Go.part;refine(SR.isAgg t).aE λq b hq=>?_;have h:=h.mono hq;cases b with
 |true=>
  simp only[zBM];exact(SR.sizeOf t).aE λq n hq=>SR.pure ((h.mono hq).extract _ _).agg
 |false=>
  simp only[zAL,zBC];cases hx:xs[off]? with
  |none=>exact SR.stuck
  |some v=>obtain⟨v',qx,hr⟩:=h.get hx;rw[qx];exact SR.pure hr
def SR.asIntOf (h:VR S p v v'):SR P F S K N (QE (IntKind×Int)) (Go.asIntOf v) (Go.asIntOf v') p:=by
 cases h<;>first|exact SR.pure rfl|exact SR.unsupported|exact SR.stuck
def SR.asInt (h:VR S p v v'):SR P F S K N (QE Int) (Go.asInt v) (Go.asInt v') p:=(SR.asIntOf h).aE λ_ _ _=>SR.pure rfl
def SR.asBool (h:VR S p v v'):SR P F S K N (QE Bool) (Go.asBool v) (Go.asBool v') p:=by
 cases h<;>first|exact SR.pure rfl|exact SR.stuck
def SR.asAgg (h:VR S p v v'):SR P F S K N (QA S) (Go.asAgg v) (Go.asAgg v') p:=by
 cases h<;>first|exact SR.stuck|(rename_i a b;exact SR.pure ⟨a,b⟩)
def SR.runtimePanic {Q:Pi->α->β->Prop} (e:RuntimeError) (h:∀a b c d,e≠ .typeAssertion a b c d) (h2:e≠ .panicNil) (h3:∀t,e≠ .unhashable t):SR P F S K N Q (Go.runtimePanic e:Sem α) (Go.runtimePanic e:Sem β) p:=by
 unfold Go.runtimePanic;refine SR.qC ?_;simp only[lT,dU];cases e with
 |bounds x y s c=>exact SR.goPanic (VR.plain 5 _ (by simp[plain,strVal]))
 |error m=>exact SR.goPanic (VR.plain 5 _ (by simp[plain,strVal]))
 |plain m=>exact SR.goPanic (VR.plain 5 _ (by simp[plain,strVal]))
 |nilDeref=>exact SR.goPanic (VR.plain 5 _ (by simp[plain,strVal]))
 |typeAssertion a b c d=>exact absurd rfl (h a b c d)
 |panicNil=>exact absurd rfl h2
 |unhashable t=>exact absurd rfl (h3 t)
def SR.err {Q:Pi->α->β->Prop} (m:String):SR P F S K N Q (Go.runtimePanic (.error m):Sem α) (Go.runtimePanic (.error m):Sem β) p:=
 SR.runtimePanic _ (λ_ _ _ _ h=>by cases h) (λh=>by cases h) (λ_ h=>by cases h)
def SR.Mh {Q:Pi->α->β->Prop} (m:String):SR P F S K N Q (Go.runtimePanic (.plain m):Sem α) (Go.runtimePanic (.plain m):Sem β) p:=
 SR.runtimePanic _ (λ_ _ _ _ h=>by cases h) (λh=>by cases h) (λ_ h=>by cases h)
def SR.nilDeref {Q:Pi->α->β->Prop}:SR P F S K N Q (Go.runtimePanic .nilDeref:Sem α) (Go.runtimePanic .nilDeref:Sem β) p:=
 SR.runtimePanic _ (λ_ _ _ _ h=>by cases h) (λh=>by cases h) (λ_ h=>by cases h)
def SR.boundsPanic {Q:Pi->α->β->Prop} (k:IntKind) (x y:Int) (c:BoundsCode):SR P F S K N Q (Go.boundsPanic k x y c:Sem α) (Go.boundsPanic k x y c:Sem β) p:=by
 have key:∀(q:Pi) (b:Bool),SR P F S K N Q (Go.runtimePanic (.bounds (IntKind.i64.wrap x) y b c):Sem α) (Go.runtimePanic (.bounds (IntKind.i64.wrap x) y b c):Sem β) q:=
  λq b=>SR.runtimePanic _ (λ_ _ _ _ h=>by cases h) (λh=>by cases h) (λ_ h=>by cases h)
 unfold Go.boundsPanic;dsimp only;refine SR.ite (λ_=>?_) (λ_=>?_)
 .refine SR.aE (α:=Bool) ?_ λq b hq=>key q b;exact(SR.choose _).aE (Q':=QE Bool) λq n hq=>SR.pure rfl
 .exact key p _
def SR.asAddr (h:VR S p v v'):SR P F S K N QD (Go.asAddr v) (Go.asAddr v') p:=by
 cases h<;>first|exact SR.stuck|exact SR.nilDeref|(rename_i g;exact SR.pure ⟨g,rfl,rfl⟩)
def SR.sureAddr (h:VR S p v v'):SR P F S K N QD (Instr.sureAddr v) (Instr.sureAddr v') p:=by
 cases h<;>first|exact SR.stuck|(rename_i g;exact SR.pure ⟨g,rfl,rfl⟩)
end
end Go.aD
