/- A part. Conditions: none. -/
import Derived.Test.YtddlcmejelobdaaGreatDoorT00
import Derived.Laws.Sem
set_option linter.all false
namespace Go.aq
variable {AK Av hi lo mx nA:Option Value} {Sq ps:Array (Nat×Value)} {a a':Addr} {b b' i i' k k' v v' x x' y y':Value} {c l l' n off:Nat} {cD xs ys z z':Array Value} {q:Pi} {r r':Operand->Value} {t:TypeId} {α β:Type}
section
variable {P:Program} {F:Array Func} {S:Nat->Bool} {K:Kz} {N:Nat} {p:Pi}
theorem SR.EG (f:α->Sem β) (h:∀x q,SR P F S K N (QE β) (f x) (f x) q) (xs:Array α):SR P F S K N (QE (Array β)) (xs.mapM f) (xs.mapM f) p:=by
 rw[Array.mapM_eq_foldlM,<-Array.foldlM_toList];generalize xs.toList=l;generalize(#[]:Array β)=acc;induction l generalizing acc p with
 |nil=>exact SR.pure rfl
 |cons x l ih=>
  simp only[List.foldlM_cons];refine SR.av (α:=Array β) ?_ fun q a hq=>ih a;exact(h x p).av fun q b hq=>SR.pure rfl
inductive PL (S:Nat->Bool) (p:Pi):List (Nat×Value)->List (Nat×Value)->Prop
 |nil:PL S p [] []
 |cons {i:Nat} {v v':Value} {l l':List (Nat×Value)} (h:VR S p v v') (t:PL S p l l'):PL S p ((i,v)::l) ((i,v')::l')
theorem PL.mono (h:Le p q) {l l':List (Nat×Value)} (x:PL S p l l'):PL S q l l':=by
 induction x with
 |nil=>exact .nil
 |cons g _ ih=>exact .cons (g.mono h) ih
theorem PL.map (l:List (Nat×Operand)) (f g:Operand->Value) (h:∀x∈l,VR S p (f x.2) (g x.2)):PL S p (l.map fun(i,x)=>(i,f x)) (l.map fun(i,x)=>(i,g x)):=by
 induction l with
 |nil=>exact .nil
 |cons x l ih=>exact .cons (h x (by simp)) (ih fun y hy=>h y (by simp[hy]))
theorem O9 (h:AR S p xs ys) {cs jH:List (Value×Nat)} (off:Nat) (hc:∀(j:Nat) a b,cs[j]?=some a->jH[j]?=some b->VR S p a.1 b.1/\a.2=b.2) (hl:cs.length=jH.length):
 AR S p (cs.foldl (fun acc (c,j)=>acc.setIfInBounds (off+j) c) xs) (jH.foldl (fun acc (c,j)=>acc.setIfInBounds (off+j) c) ys):=by
 induction cs generalizing jH xs ys with
 |nil=>cases jH with
  |nil=>exact h
  |cons=>cases hl
 |cons c cs ih=>cases jH with
  |nil=>cases hl
  |cons c' jH=>
   have h0:=hc 0 c c' rfl rfl;simp only[List.foldl_cons];rw[h0.2];exact ih (h.set _ h0.1) (fun j a b h1 h2=>hc (j+1) a b h1 h2) (by simpa using hl)
theorem ri (place:Nat->Option (Nat×Nat)):∀{l l':List (Nat×Value)} {xs ys:Array Value},PL S p l l'->AR S p xs ys->
 (Instr.fill place xs l=none/\Instr.fill place ys l'=none)\/∃a b,Instr.fill place xs l=some a/\Instr.fill place ys l'=some b/\AR S p a b:=by
 intro l l' xs ys hl;induction hl generalizing xs ys with
 |nil=>intro h;exact .inr ⟨_,_,rfl,rfl,h⟩
 | @cons i v v' l l' hv _ ih=>
   intro h;simp only[Instr.fill];cases place i with
   |none=>exact .inl ⟨rfl,rfl⟩
   |some x=>
    obtain⟨off,size⟩:=x;simp only;have hc:=hv.cells;rw[<-hc.1,<-h.1];split
    .exact .inl ⟨rfl,rfl⟩
    .refine ih ?_;rw[<-Array.foldl_toList,<-Array.foldl_toList];refine O9 h off (fun j a b h1 h2=>?_) (by simp[hc.1]);simp only[Array.getElem?_toList,Array.getElem?_zipIdx]at h1 h2;cases hx:v.cells[j]? with
     |none=>rw[hx]at h1;cases h1
     |some u=>
      obtain⟨u',Ym,hr⟩:=hc.get hx;rw[hx]at h1;rw[Ym]at h2;simp only[Option.map_some,Option.some.injEq]at h1 h2;subst h1;subst h2;exact⟨hr,rfl⟩
theorem SR.box (e:TypeId) (h:VR S p v v'):SR P F S K N (QV S) (Instr.box e v) (Instr.box e v') p:=
 (SR.newVar e h).bind fun q a a' hq ha=>SR.pure ha.1.ptr
theorem SR.alloc (hz:bc P) (e:TypeId):SR P F S K N (QV S) (Instr.alloc e true (.tuple #[])) (Instr.alloc e true (.tuple #[])) p:=by
 unfold Instr.alloc;refine(SR.zeroValue hz e).bind fun q z z' hq Au=>?_;obtain⟨rfl,hv⟩:=Au;exact(SR.newVar e hv).bind fun q a a' hq ha=>SR.pure ha.1.ptr
theorem SR.build (hz:bc P) (t:TypeId) (h:PL S p ps.toList Sq.toList):SR P F S K N (QV S) (Instr.build t ps) (Instr.build t Sq) p:=by
 unfold Instr.build;refine(SR.zeroValue hz t).bind fun q z z' hq Au=>?_;obtain⟨rfl,hv⟩:=Au;have h:=h.mono hq;refine SR.ci fun d hd=>?_;cases d with
 |struct fields=>
  refine SR.av (α:=Array (Nat×Nat)) (SR.EG _ (fun f q=>(SR.sizeOf f.type).av fun q n hq=>SR.pure rfl) fields) fun q places hq=>?_;rcases ri (fun i=>places[i]?) (h.mono hq) (hv.mono hq).cells with⟨e1,e2⟩|⟨a,b,e1,e2,nz⟩
  .simp only[e1];exact SR.stuck
  .simp only[e1,e2];exact SR.pure nz.agg
 |array n e=>
  refine(SR.sizeOf e).av fun q size hq=>?_;rcases ri (fun i=>some (i*size,size)) (h.mono hq) (hv.mono hq).cells with⟨e1,e2⟩|⟨a,b,e1,e2,nz⟩
  .simp only[e1];exact SR.stuck
  .simp only[e1,e2];exact SR.pure nz.agg
 |_=>exact SR.stuck
theorem qJ (h:AR S p z z') (n:Nat):AR S p ((Array.range n).map (fun i=>z[i%z.size]!)) ((Array.range n).map (fun i=>z'[i%z'.size]!)):=by
 refine AR.ofFn n _ _ fun i=>?_;rw[<-h.1];simp only[getElem!_def];cases hx:z[i%z.size]? with
 |none=>rw[h.none hx];exact VR.plain 1 _ (by simp[plain,default,instInhabitedValue.default])
 |some v=>obtain⟨v',np,hr⟩:=h.get hx;rw[np];exact hr
theorem SR.buildSlice (hz:bc P) (t:TypeId) (len:Nat) (h:PL S p ps.toList Sq.toList):SR P F S K N (QV S) (Instr.buildSlice t len ps) (Instr.buildSlice t len Sq) p:=by
 unfold Instr.buildSlice;refine SR.ci fun d hd=>?_;cases d with
 |slice e=>
  simp only;refine(SR.sizeOf e).av fun q size hq=>?_;have h:=h.mono hq;split
  .exact SR.unsupported
  .have key:∀(q':Pi) (z z':Array Value),Le q q'->AR S q' z z'->SR P F S K N (QV S)
    (match Instr.fill (fun i=>some (i*size,size)) ((Array.range (len*size)).map (z[·%z.size]!)) ps.toList with
      |some cells=>(Go.newRow e cells>>=fun a=>Pure.pure (Value.slice (some a) len len))
      |_=>Go.stuck "buildSlice: a part of the wrong size")
    (match Instr.fill (fun i=>some (i*size,size)) ((Array.range (len*size)).map (z'[·%z'.size]!)) Sq.toList with
      |some cells=>(Go.newRow e cells>>=fun a=>Pure.pure (Value.slice (some a) len len))
      |_=>Go.stuck "buildSlice: a part of the wrong size") q':=by
    intro q' z z' t8 Au;rcases ri (fun i=>some (i*size,size)) (h.mono t8) (qJ Au (len*size))with⟨e1,e2⟩|⟨a,b,e1,e2,nz⟩
    .simp only[e1];exact SR.stuck
    .simp only[e1,e2];exact(SR.newRow e nz).bind fun q a a' hq ha=>SR.pure (ha.1.sl (fun _=>ha.2.2) len len)
   split
   .exact key q #[] #[] (Le.refl _) AR.empty
   .refine(SR.zeroValue hz e).bind fun q2 z z' cw Au=>?_;obtain⟨rfl,hv⟩:=Au;exact key q2 _ _ cw hv.cells
 |_=>exact SR.stuck
theorem SR.loadAt (t:TypeId) (h:VR S p v v'):SR P F S K N (QV S) (Instr.loadAt t v) (Instr.loadAt t v') p:=
 (SR.sureAddr h).bind fun q a a' hq ha=>SR.loadVar t ha
theorem SR.storeAt (t:TypeId) (h:VR S p v v') (hx:VR S p x x'):SR P F S K N (QE Unit) (Instr.storeAt t v x) (Instr.storeAt t v' x') p:=
 (SR.sureAddr h).bind fun q a a' hq ha=>SR.storeVar t ha (hx.mono hq)
theorem SR.fieldAt (s:TypeId) (f:Nat) (hf:∀fs g i,P.underlying s=some (.struct fs)->fs[f]?=some g->P.info? g.type=some i->i.size≠0) (h:VR S p v v'):
 SR P F S K N (QV S) (Instr.fieldAt s v f) (Instr.fieldAt s v' f) p:=by
 unfold Instr.fieldAt;refine SR.ci fun d hd=>?_;cases d with
 |struct fields=>
  simp only;cases hg:fields[f]? with
  |none=>exact SR.stuck
  |some g=>
   simp only;refine(SR.sureAddr h).bind fun q a a' hq ha=>?_;unfold Go.fieldPlace Go.sizeOf;refine SR.bind (Q:=QD) ?_ fun q b b' hq hb=>SR.pure hb.ptr;show SR P F S K N QD ((Go.typeInfo g.type>>=fun i=>Pure.pure i.size)>>=_) ((Go.typeInfo g.type>>=fun i=>Pure.pure i.size)>>=_) q;refine SR.bind (Q:=fun _ (a b:Nat)=>a=b/\a≠0) (SR.ny fun i hi=>SR.pure ⟨rfl,hf fields g i hd hg hi⟩) fun q n n' hq hn=>?_;obtain⟨rfl,hn⟩:=hn;simp only[hn,if_false];exact SR.pure ((ha.mono hq).add _)
 |_=>exact SR.stuck
theorem SR.field (t:TypeId) (f:Nat) (h:VR S p v v'):SR P F S K N (QV S) (Instr.field t v f) (Instr.field t v' f) p:=by
 unfold Instr.field;refine SR.ci fun d hd=>?_;cases d with
 |struct fields=>
  simp only;cases hg:fields[f]? with
  |none=>exact SR.stuck
  |some g=>exact(SR.asAgg h).bind fun q a a' hq ha=>SR.part _ ha _
 |_=>exact SR.stuck
theorem SR.index (t:TypeId) (h:VR S p v v') (hi:VR S p i i'):SR P F S K N (QV S) (Instr.index t v i) (Instr.index t v' i') p:=by
 unfold Instr.index;refine(SR.asIntOf hi).av fun q ki hq=>?_;obtain⟨k,n⟩:=ki;have h:=h.mono hq;refine SR.ci fun d hd=>?_;cases d with
 |array len elem=>
  cases h with
  |agg hx gx=>
   simp only;split
   .exact(SR.sizeOf elem).av fun q m hq=>SR.part elem (AR.mono hq ⟨hx,gx⟩) _
   .exact SR.boundsPanic _ _ _ _
  |_=>exact SR.stuck
 |string=>
  cases h with
  |string s=>
   simp only;split
   .exact SR.pure (.int _ _)
   .exact SR.boundsPanic _ _ _ _
  |_=>exact SR.stuck
 |_=>cases h<;>exact SR.stuck
theorem SR.sliceBound (x x':Value) (h:VR S p x x') (y:Nat) (c:BoundsCode):SR P F S K N (QE Nat) (Instr.sliceBound x y c) (Instr.sliceBound x' y c) p:=by
 unfold Instr.sliceBound;refine(SR.asIntOf h).av fun q ki hq=>?_;obtain⟨k,n⟩:=ki;simp only;split
 .exact SR.pure rfl
 .exact SR.boundsPanic _ _ _ _
def OV (S:Nat->Bool) (p:Pi):Option Value->Option Value->Prop
 |none,none=>True
 |some v,some v'=>VR S p v v'
 |_,_=>False
theorem OV.mono (h:Le p q) {a b:Option Value} (x:OV S p a b):OV S q a b:=by
 cases a<;>cases b<;>first|trivial|exact x.elim|exact VR.mono h x
theorem SR.sliceBounds (b:Bool) (len cap:Nat) (h1:OV S p lo AK) (h2:OV S p hi nA) (h3:OV S p mx Av):
 SR P F S K N (QE (Nat×Nat×Nat)) (Instr.sliceBounds b len cap lo hi mx) (Instr.sliceBounds b len cap AK nA Av) p:=by
 have hb:∀(q:Pi) (x x':Value) (y:Nat) (c:BoundsCode) (f f':Nat->Sem (Nat×Nat×Nat)),Le p q->VR S p x x'->(∀q' n,Le p q'->SR P F S K N (QE (Nat×Nat×Nat)) (f n) (f' n) q')->SR P F S K N (QE (Nat×Nat×Nat)) (Instr.sliceBound x y c>>=f) (Instr.sliceBound x' y c>>=f') q:=
  fun q x x' y c f f' hq hx hf=>(SR.sliceBound x x' (hx.mono hq) y c).av fun q' n t8=>hf q' n (hq.trans t8)
 cases mx<;>cases Av<;>(try exact h3.elim)<;>cases hi<;>cases nA<;>(try exact h2.elim)<;>cases lo<;>cases AK<;>(try exact h1.elim)
 .exact SR.pure rfl
 .exact hb p _ _ _ _ _ _ (Le.refl _) h1 fun q n hq=>SR.pure rfl
 .exact hb p _ _ _ _ _ _ (Le.refl _) h2 fun q n hq=>SR.pure rfl
 .exact hb p _ _ _ _ _ _ (Le.refl _) h2 fun q n hq=>hb q _ _ _ _ _ _ hq h1 fun q n hq=>SR.pure rfl
 .exact hb p _ _ _ _ _ _ (Le.refl _) h3 fun q n hq=>SR.stuck
 .exact hb p _ _ _ _ _ _ (Le.refl _) h3 fun q n hq=>SR.stuck
 .exact hb p _ _ _ _ _ _ (Le.refl _) h3 fun q n hq=>hb q _ _ _ _ _ _ hq h2 fun q n hq=>SR.pure rfl
 .exact hb p _ _ _ _ _ _ (Le.refl _) h3 fun q n hq=>hb q _ _ _ _ _ _ hq h2 fun q n hq=>hb q _ _ _ _ _ _ hq h1 fun q n hq=>SR.pure rfl
theorem SR.vB (hl:p.l=true) (x x':Value) (h:VR S p x x') {y y':Nat} (hy:y<=y') (c:BoundsCode):SR P F S K N (QE Nat) (Instr.sliceBound x y c) (Instr.sliceBound x' y' c) p:=by
 unfold Instr.sliceBound;refine(SR.asIntOf h).av fun q ki hq=>?_;obtain⟨k,n⟩:=ki;simp only;by_cases h1:0<=n/\n<=(y:Int)
 .have h2:0<=n/\n<=(y':Int):=⟨h1.1,by omega⟩
  rw[if_pos h1,if_pos h2];exact SR.pure rfl
 .rw[if_neg h1];unfold Go.boundsPanic;simp only;split
  .exact fun _=>.inl (hq.l.trans hl)
  .exact fun _=>.inl (.inl ⟨hq.l.trans hl,trivial⟩)
theorem SR.tx (hl:p.l=true) (len:Nat) {cap kv:Nat} (hc:cap<=kv) (h1:OV S p lo AK) (h2:OV S p hi nA) (h3:OV S p mx Av):
 SR P F S K N (fun _ a b=>a.1=b.1/\a.2.1=b.2.1/\(a.2.2=b.2.2\/(a.2.2=cap/\b.2.2=kv/\mx=none))) (Instr.sliceBounds true len cap lo hi mx) (Instr.sliceBounds true len kv AK nA Av) p:=by
 have hb:∀(mx:Option Value) (q:Pi) (x x':Value) (y y':Nat) (c:BoundsCode) (f f':Nat->Sem (Nat×Nat×Nat)),y<=y'->Le p q->VR S p x x'->(∀q' n,Le p q'->SR P F S K N (fun _ a b=>a.1=b.1/\a.2.1=b.2.1/\(a.2.2=b.2.2\/(a.2.2=cap/\b.2.2=kv/\mx=none))) (f n) (f' n) q')->SR P F S K N (fun _ a b=>a.1=b.1/\a.2.1=b.2.1/\(a.2.2=b.2.2\/(a.2.2=cap/\b.2.2=kv/\mx=none))) (Instr.sliceBound x y c>>=f) (Instr.sliceBound x' y' c>>=f') q:=
  fun mx q x x' y y' c f f' hy hq hx hf=>(SR.vB (hq.l.trans hl) x x' (hx.mono hq) hy c).av fun q' n t8=>hf q' n (hq.trans t8)
 have l0:∀n:Nat,n<=n:=fun n=>Nat.le_refl n;cases mx<;>cases Av<;>(try exact h3.elim)<;>cases hi<;>cases nA<;>(try exact h2.elim)<;>cases lo<;>cases AK<;>(try exact h1.elim)
 .exact SR.pure ⟨rfl,rfl,.inr ⟨rfl,rfl,rfl⟩⟩
 .exact hb _ p _ _ _ _ _ _ _ (l0 _) (Le.refl _) h1 fun q n hq=>SR.pure ⟨rfl,rfl,.inr ⟨rfl,rfl,rfl⟩⟩
 .exact hb _ p _ _ _ _ _ _ _ hc (Le.refl _) h2 fun q n hq=>SR.pure ⟨rfl,rfl,.inr ⟨rfl,rfl,rfl⟩⟩
 .exact hb _ p _ _ _ _ _ _ _ hc (Le.refl _) h2 fun q n hq=>hb _ q _ _ _ _ _ _ _ (l0 _) hq h1 fun q n hq=>SR.pure ⟨rfl,rfl,.inr ⟨rfl,rfl,rfl⟩⟩
 .exact hb _ p _ _ _ _ _ _ _ hc (Le.refl _) h3 fun q n hq=>SR.stuck
 .exact hb _ p _ _ _ _ _ _ _ hc (Le.refl _) h3 fun q n hq=>SR.stuck
 .exact hb _ p _ _ _ _ _ _ _ hc (Le.refl _) h3 fun q n hq=>hb _ q _ _ _ _ _ _ _ (l0 _) hq h2 fun q n hq=>SR.pure ⟨rfl,rfl,.inl rfl⟩
 .exact hb _ p _ _ _ _ _ _ _ hc (Le.refl _) h3 fun q n hq=>hb _ q _ _ _ _ _ _ _ (l0 _) hq h2 fun q n hq=>hb _ q _ _ _ _ _ _ _ (l0 _) hq h1 fun q n hq=>SR.pure ⟨rfl,rfl,.inl rfl⟩
theorem SR.xX (x x':Value) (h:VR S p x x') (c:BoundsCode):SR P F S K N (fun _ a b=>a=0/\b=0) (Instr.sliceBound x 0 c) (Instr.sliceBound x' 0 c) p:=by
 unfold Instr.sliceBound;refine(SR.asIntOf h).av fun q ki hq=>?_;obtain⟨k,n⟩:=ki;simp only;split
 .exact SR.pure ⟨by omega,by omega⟩
 .exact SR.boundsPanic _ _ _ _
theorem SR.vC (b:Bool) (h1:OV S p lo AK) (h2:OV S p hi nA) (h3:OV S p mx Av):
 SR P F S K N (fun _ a b=>a=(0,0,0)/\b=(0,0,0)) (Instr.sliceBounds b 0 0 lo hi mx) (Instr.sliceBounds b 0 0 AK nA Av) p:=by
 have hb:∀(q:Pi) (x x':Value) (c:BoundsCode) (f f':Nat->Sem (Nat×Nat×Nat)),Le p q->VR S p x x'->(∀q',Le p q'->SR P F S K N (fun _ a b=>a=(0,0,0)/\b=(0,0,0)) (f 0) (f' 0) q')->SR P F S K N (fun _ a b=>a=(0,0,0)/\b=(0,0,0)) (Instr.sliceBound x 0 c>>=f) (Instr.sliceBound x' 0 c>>=f') q:=
  fun q x x' c f f' hq hx hf=>(SR.xX x x' (hx.mono hq) c).bind fun q' n n' t8 hn=>by
   obtain⟨rfl,rfl⟩:=hn;exact hf q' (hq.trans t8)
 cases mx<;>cases Av<;>(try exact h3.elim)<;>cases hi<;>cases nA<;>(try exact h2.elim)<;>cases lo<;>cases AK<;>(try exact h1.elim)
 .exact SR.pure ⟨rfl,rfl⟩
 .exact hb p _ _ _ _ _ (Le.refl _) h1 fun q hq=>SR.pure ⟨rfl,rfl⟩
 .exact hb p _ _ _ _ _ (Le.refl _) h2 fun q hq=>SR.pure ⟨rfl,rfl⟩
 .exact hb p _ _ _ _ _ (Le.refl _) h2 fun q hq=>hb q _ _ _ _ _ hq h1 fun q hq=>SR.pure ⟨rfl,rfl⟩
 .exact hb p _ _ _ _ _ (Le.refl _) h3 fun q hq=>SR.stuck
 .exact hb p _ _ _ _ _ (Le.refl _) h3 fun q hq=>SR.stuck
 .exact hb p _ _ _ _ _ (Le.refl _) h3 fun q hq=>hb q _ _ _ _ _ hq h2 fun q hq=>SR.pure ⟨rfl,rfl⟩
 .exact hb p _ _ _ _ _ (Le.refl _) h3 fun q hq=>hb q _ _ _ _ _ hq h2 fun q hq=>hb q _ _ _ _ _ hq h1 fun q hq=>SR.pure ⟨rfl,rfl⟩
theorem kJ {a a':Option Addr} {c':Nat} (h:VR S p (.slice a l c) (.slice a' l' c')):l=l'/\((a=none/\a'=none/\c=c')\/(∃b b',a=some b/\a'=some b'/\hU p b b'/\((c=c'/\(S 999999=true->∀k,¬p.x b.block k))\/(p.l=true/\0<c/\b.spot=none/\∃k,p.x b.block k/\c'=c+k)))\/(l=0/\c=0/\∃b b',a=some b/\a'=some b'/\((p.l=true/\b.spot=some 0)\/(p.l=false/\c'=0)))):=by
 cases h with
 |cU=>exact⟨rfl,.inl ⟨rfl,rfl,rfl⟩⟩
 |slice o sp l c g hX=>exact⟨rfl,.inr (.inl ⟨_,_,rfl,rfl,⟨g,rfl,rfl⟩,.inl ⟨rfl,hX⟩⟩)⟩
 |cV o l hl g h0 hx=>exact⟨rfl,.inr (.inl ⟨_,_,rfl,rfl,⟨g,rfl,rfl⟩,.inr ⟨hl,h0,rfl,_,hx,rfl⟩⟩)⟩
 |eR o o' c' hl g=>exact⟨rfl,.inr (.inr ⟨rfl,rfl,_,_,rfl,rfl,.inl ⟨hl,rfl⟩⟩)⟩
 |dy hl a a'=>exact⟨rfl,.inr (.inr ⟨rfl,rfl,_,_,rfl,rfl,.inr ⟨hl,rfl⟩⟩)⟩
theorem SR.ok {Q:Pi->α->β->Prop} {s:Sem α} {s':Sem β} (h:nr P p->SR P F S K N Q s s' p):SR P F S K N Q s s' p:=fun hp=>h hp hp
theorem Yn (Db:p.l=true->S 999999=false) (ho:nr P p) (r:Nat):S 999999=true->∀k,¬p.x r k:=fun h=>by
 cases hl:p.l with
 |true=>rw[Db hl]at h;cases h
 |false=>exact ho.tw hl r
theorem hU.slX {p:Pi} (x:hU p a a') (hl:p.l=true) (hs:a.spot=none) (l:Nat) {k:Nat} (h0:0<c) (hx:p.x a.block k):VR S p (.slice (some a) l c) (.slice (some a') l (c+k)):=by
 obtain⟨b,o,sp⟩:=a;obtain⟨b',o',sp'⟩:=a';obtain⟨h1,h2,h3⟩:=x;simp only at h1 h2 h3 hs;subst h2;subst h3;subst hs;exact .cV o l hl h1 h0 hx
theorem fq (a:Addr) (n:Nat):(a.add n).block=a.block:=by unfold Addr.add;split<;>rfl
theorem nB (a:Addr) (n:Nat) (h:a.spot=none):(a.add n).spot=none:=by unfold Addr.add;split<;>simp_all
def KY (q:Pi) (x v v':Value):Prop:=(∃b l c,x=.slice b l c)/\∃a a' l c',v=.slice (some a) l 0/\v'=.slice (some a') l c'/\q a.block a'.block/\a'.spot=none
theorem SR.slice (Db:p.l=true->S 999999=false) (t:TypeId) {x x':Value} {lo AK hi nA mx Av:Option Value} (hx:VR S p x x') (hE:p.l=true->∀b l c,x=.slice (some b) l c->b.spot=none) (h1:OV S p lo AK) (h2:OV S p hi nA) (h3:OV S p mx Av):
 SR P F S K N (fun q v v'=>VR S q v v'\/(p.l=true/\mx=none/\KY q x v v')) (Instr.slice t x lo hi mx) (Instr.slice t x' AK nA Av) p:=by
 unfold Instr.slice;refine SR.ci fun d hd=>?_
 have EH:∀arr,SR P F S K N (fun q v v'=>VR S q v v'\/(p.l=true/\mx=none/\KY q x v v')) (do
  let a<-Go.asAddr x
  let .array n elem<-Go.underlying arr|Go.stuck "Slice: array type expected"
  let(l,h,m)<-Instr.sliceBounds false n n lo hi mx
  let size<-Go.sizeOf elem
  Pure.pure (Value.slice (some (if m=l then a else a.add (l*size))) (h-l) (m-l))) (do
  let a<-Go.asAddr x'
  let .array n elem<-Go.underlying arr|Go.stuck "Slice: array type expected"
  let(l,h,m)<-Instr.sliceBounds false n n AK nA Av
  let size<-Go.sizeOf elem
  Pure.pure (Value.slice (some (if m=l then a else a.add (l*size))) (h-l) (m-l))) p:=by
  intro arr;refine(SR.asAddr hx).bind fun q a a' hq ha=>?_;refine SR.ci fun d hd=>?_;cases d with
  |array n elem=>
   simp only;refine(SR.sliceBounds false n n (h1.mono hq) (h2.mono hq) (h3.mono hq)).av fun q2 b cw=>?_;obtain⟨l,h,m⟩:=b;simp only;refine(SR.sizeOf elem).av fun q3 s gv=>?_;have ha:=(ha.mono cw).mono gv;refine SR.ok fun ho=>?_;have gT:=fun r=>Yn (fun x=>Db (((hq.trans cw).trans gv).l.symm.trans x)) ho r;split
   .exact SR.pure (.inl (ha.sl (gT _) _ _))
   .exact SR.pure (.inl ((ha.add _).sl (gT _) _ _))
  |_=>exact SR.stuck
 cases d with
 |string=>
  cases hx with
  |string s=>
   simp only;cases mx<;>cases Av<;>first|exact h3.elim|skip
   .simp only[Option.isSome_none,Bool.false_eq_true,if_false];refine(SR.sliceBounds false _ _ h1 h2 h3).av fun q2 b cw=>?_;exact SR.pure (.inl (.string _))
   .simp only[Option.isSome_some,if_true];exact SR.stuck
  |_=>exact SR.stuck
 |slice elem=>
  cases x<;>cases x'<;>first|(cases hx;done)|exact SR.stuck|skip
  rename_i a len cap a' Yo kv;obtain⟨rfl,hs⟩:=kJ hx;simp only;have gT:∀{q:Pi},Le p q->nr P q->∀r,S 999999=true->∀k,¬q.x r k:=fun hq ho r=>Yn (fun x=>Db (hq.l.symm.trans x)) ho r;rcases hs with⟨rfl,rfl,rfl⟩|⟨b,b',rfl,rfl,hb,⟨rfl,_⟩|⟨t9,h0,lY,k,Yp,rfl⟩⟩|⟨rfl,rfl,b,b',rfl,rfl,⟨t9,lY⟩|⟨t9,rfl⟩⟩
  .refine(SR.sliceBounds true len cap h1 h2 h3).av fun q2 b cw=>?_;obtain⟨l,h,m⟩:=b;simp only;refine(SR.sizeOf elem).av fun q3 s gv=>?_;split<;>exact SR.pure (.inl (.cU _ _))
  .refine(SR.sliceBounds true len cap h1 h2 h3).av fun q2 b cw=>?_;obtain⟨l,h,m⟩:=b;simp only;refine(SR.sizeOf elem).av fun q3 s gv=>?_;have hb:=(hb.mono cw).mono gv;refine SR.ok fun ho=>?_;split
   .exact SR.pure (.inl (hb.sl (gT (cw.trans gv) ho _) _ _))
   .exact SR.pure (.inl ((hb.add _).sl (gT (cw.trans gv) ho _) _ _))
  .refine(SR.tx t9 len (Nat.le_add_right cap k) h1 h2 h3).bind fun q2 x y cw Kv=>?_;obtain⟨l,h,m⟩:=x;obtain⟨l',h',m'⟩:=y;obtain⟨e1,e2,e3⟩:=Kv;simp only at e1 e2 e3;subst e1;subst e2;simp only;refine(SR.sizeOf elem).av fun q3 s gv=>?_;have hb:=(hb.mono cw).mono gv;have Yp:=gv.x _ _ (cw.x _ _ Yp);rcases e3 with e3|⟨e3,e4,e5⟩
   .subst e3;refine SR.ok fun ho=>?_;split
    .exact SR.pure (.inl (hb.sl (gT (cw.trans gv) ho _) _ _))
    .exact SR.pure (.inl ((hb.add _).sl (gT (cw.trans gv) ho _) _ _))
   .subst e3;subst e4;rcases Nat.lt_or_ge l m with hl|hl
    .have n1:¬m=l:=by omega
     have n2:¬m+k=l:=by omega
     rw[if_neg n1,if_neg n2];have e:m+k-l=(m-l)+k:=by omega
     rw[e];exact SR.pure (.inl ((hb.add _).slX ((cw.trans gv).l.trans t9) (nB _ _ lY) _ (by omega) (by rw[fq];exact Yp)))
    .have:m-l=0:=by omega
     have EI:b'.spot=none:=hb.2.2.symm.trans lY;refine SR.pure (.inr ⟨t9,e5,⟨_,_,_,rfl⟩,?_⟩);rw[this];refine⟨if m=l then b else b.add (l*s),if m+k=l then b' else b'.add (l*s),h-l,m+k-l,?_,?_,?_,?_⟩
     .split<;>rfl
     .split<;>rfl
     .have h1:(if m=l then b else b.add (l*s)).block=b.block:=by split<;>simp only[fq]
      have h2:(if m+k=l then b' else b'.add (l*s)).block=b'.block:=by split<;>simp only[fq]
      rw[h1,h2];exact hb.1
     .split
      .exact EI
      .exact nB _ _ EI
  .have:=hE t9 _ _ _ rfl;rw[lY]at this;cases this
  .refine(SR.vC true h1 h2 h3).bind fun q2 c c' cw tz=>?_;obtain⟨rfl,rfl⟩:=tz;exact(SR.sizeOf elem).av fun q3 s gv=>SR.pure (.inl (.dy ((cw.trans gv).l.trans t9) _ _))
 |pointer arr=>exact EH arr
 |_=>cases hx<;>exact SR.stuck
end
def cx (P:Program):Nat->TypeId->Bool
 |0,_=>false
 |n+1,t=>match P.underlying t with
  |some .bool|some (.int _)|some .string=>true
  |some (.slice _)=>true
  |some (.struct fs)=>!P.stoodInHeld t&&fs.all fun f=>cx P n f.type
  |some (.array _ e)=>cx P n e
  |_=>false
def aI (P:Program):Prop:=∀t i u,P.info? t=some i->i.desc≠ .named "sync.copyChecker" u
section
variable {P:Program} {F:Array Func} {S:Nat->Bool} {K:Kz} {N:Nat} {p:Pi}
theorem SR.rk (f f':α->β->Sem (ForInStep β)):∀(l:List α),(∀x,x∈l->∀b q,Le p q->SR P F S K N (QE (ForInStep β)) (f x b) (f' x b) q)->∀(b:β) (q:Pi),Le p q->SR P F S K N (QE β) (forIn l b f) (forIn l b f') q
 | [],_,b,q,hq=>SR.pure rfl
 |x::l,h,b,q,hq=>by
  simp only[List.forIn_cons];refine(h x (by simp) b q hq).av fun q' r t8=>?_;cases r with
  |done b=>exact SR.pure rfl
  |yield b=>exact SR.rk f f' l (fun y hy=>h y (by simp[hy])) b q' (hq.trans t8)
def NR (p:Pi):Option (Addr×Bool)->Option (Addr×Bool)->Prop
 |none,none=>True
 |some x,some y=>hU p x.1 y.1/\x.2=y.2
 |_,_=>False
theorem SR.numberAt {r r':Nat} (h:p r r'):SR P F S K N (fun q a b=>NR q a b) (Go.numberAt r) (Go.numberAt r') p:=by
 unfold Go.numberAt;refine(SR.shape h).av fun q x hq=>?_;cases x with
 |some y=>exact SR.pure trivial
 |none=>
  refine(SR.getObj (hq _ _ h)).bind fun q o o' hq ho=>?_;cases ho with
  |number l h=>exact SR.pure ⟨h,rfl⟩
  |_=>exact SR.pure trivial
theorem SR.viewAt {r r':Nat} (h:p r r'):SR P F S K N (fun _ a b=>a=none/\b=none) (Go.viewAt r) (Go.viewAt r') p:=by
 unfold Go.viewAt;refine(SR.shape h).av fun q x hq=>?_;cases x with
 |some y=>exact SR.pure ⟨rfl,rfl⟩
 |none=>
  refine(SR.getObj (hq _ _ h)).bind fun q o o' hq ho=>?_;cases ho<;>exact SR.pure ⟨rfl,rfl⟩
theorem SR.behindNumber (h:hU p a a'):SR P F S K N (fun q x y=>hU q x.1 y.1/\x.2=y.2) (Go.behindNumber a) (Go.behindNumber a') p:=by
 unfold Go.behindNumber;refine(SR.numberAt h.1).bind fun q x y hq Kv=>SR.pure ?_;cases x<;>cases y<;>first|exact Kv.elim|exact⟨h.mono hq,rfl⟩|exact Kv
theorem SR.byteOf (h:hU p a a'):SR P F S K N (QE Nat) (Go.byteOf a) (Go.byteOf a') p:=by
 unfold Go.byteOf;rw[<-h.2.2];cases hs:a.spot with
 |some s=>exact SR.pure rfl
 |none=>
  refine SR.nv ?_;try simp only[jL,de,js,df,dU,dR,dS,jr]
  unfold Go.noView;refine SR.bind (Q:=QE Unit) ?_ fun q _ _ hq _=>?_
  .exact(SR.viewAt h.1).bind fun q x y hq Kv=>by rw[Kv.1,Kv.2];exact SR.pure rfl
  .refine(SR.shape (hq _ _ h.1)).av fun q x hq=>?_;cases x with
   |none=>exact SR.stuck
   |some x=>
    obtain⟨e,n⟩:=x;simp only;rw[<-h.2.1];split
    .exact SR.pure rfl
    .split
     .exact SR.pure rfl
     .exact SR.stuck
theorem SR.equalIn (hc:aI P):∀(d n:Nat) (t:TypeId) {p:Pi} {x x' y y':Value},cx P n t=true->VR S p x x'->VR S p y y'->SR P F S K N (QE Bool) (Op.equalIn d t x y) (Op.equalIn d t x' y') p
 |0,_,_,_,_,_,_,_,_,_,_=>SR.unsupported
 |d+1,0,_,_,_,_,_,_,h,_,_=>by simp[cx]at h
 |d+1,n+1,t,p,x,x',y,y',ht,hx,hy=>by
  simp only[Op.equalIn];refine SR.ci fun u hu=>?_;simp only[cx,hu]at ht;cases u with
  |bool=>cases hx<;>cases hy<;>first|exact SR.pure rfl|exact SR.stuck
  |string=>cases hx<;>cases hy<;>first|exact SR.pure rfl|exact SR.stuck
  |int k=>
   cases hx<;>first|exact SR.stuck|(cases hy<;>first|exact SR.stuck|exact SR.unsupported|skip)
   .rename_i k1 a k2 b;simp only;split
    .exact SR.pure rfl
    .exact SR.stuck
   .rename_i k1 a r r' o sp h;rcases a with(_|a)|a<;>first|exact SR.pure rfl|exact SR.unsupported
   .rename_i r r' o sp h k1 a;rcases a with(_|a)|a<;>first|exact SR.pure rfl|exact SR.unsupported
   .rename_i r r' o sp h r2 G7 o2 qq h2;intro hp;refine(SR.behindNumber (a:=⟨r,o,sp⟩) (a':=⟨r',o,sp⟩) ⟨h,rfl,rfl⟩).bind (fun q a a' hq ha=>?_) hp;refine(SR.behindNumber (a:=⟨r2,o2,qq⟩) (a':=⟨G7,o2,qq⟩) ⟨hq _ _ h2,rfl,rfl⟩).bind fun q2 b b' cw hb=>?_;have ha:=ha.1.mono cw;have hb:=hb.1;refine SR.nv ?_;try simp only[jL,de,js,df,dU,dR,dS,jr]
    intro GH;by_cases hg:(a.1.block==b.1.block&&decide (a.1.block<P.globals.size))=true
    .have EJ:(a'.1.block==b'.1.block&&decide (a'.1.block<P.globals.size))=true:=by
      simp only[Bool.and_eq_true,beq_iff_eq,decide_eq_true_eq]at hg⊢;exact⟨(GH.inj _ _ _ _ ha.1 hb.1 fun _=>hg.2).1 hg.1,(GH.fix _ _ ha.1).1 hg.2⟩
     simp only[hg,EJ,if_true];exact(SR.byteOf ha).av (fun q x hq=>(SR.byteOf (hb.mono hq)).av fun q y hq=>SR.pure rfl) GH
    .simp only[hg,if_false,Bool.false_eq_true];by_cases EJ:(a'.1.block==b'.1.block&&decide (a'.1.block<P.globals.size))=true
     .refine absurd ?_ hg;simp only[Bool.and_eq_true,beq_iff_eq,decide_eq_true_eq]at EJ⊢;exact⟨(GH.inj _ _ _ _ ha.1 hb.1 fun _=>(GH.fix _ _ ha.1).2 EJ.2).2 EJ.1,(GH.fix _ _ ha.1).2 EJ.2⟩
     .simp only[EJ,if_false,Bool.false_eq_true];refine SR.ny (fun i hi=>?_) GH;have bC:=fun u=>hc t i u hi;generalize i.desc=ds at bC;cases ds<;>first|exact SR.unsupported|skip
      rename_i nm u;by_cases Kw:nm= "sync.copyChecker"
      .subst Kw;exact absurd rfl (bC u)
      .split
       .rename_i h3;exact absurd (by simpa using h3) (bC _)
       .exact SR.unsupported
  |slice e=>cases hx<;>cases hy<;>first|exact SR.pure rfl|exact SR.stuck
  |struct fs=>
   simp only[Bool.and_eq_true,Bool.not_eq_true']at ht;cases hx<;>first|exact SR.stuck|(cases hy<;>first|exact SR.stuck|skip)
   rename_i xs cD qr Pa ys EC Yq Yr;have ax:AR S p xs cD:=⟨qr,Pa⟩
   have ay:AR S p ys EC:=⟨Yq,Yr⟩
   simp only;refine SR.nv ?_;try simp only[jL,de,js,df,dU,dR,dS,jr]
   simp only[ht.1,Bool.false_eq_true,if_false]
   refine SR.av (α:=Option Bool×Unit) ?_ fun q r hq=>by
    split<;>exact SR.pure rfl
   rw[<-Array.forIn_toList,<-Array.forIn_toList]
   have bG:∀f∈fs.toList,cx P n f.type=true:=fun f hf=>by
    obtain⟨i,hi,he⟩:=List.getElem_of_mem hf;have:=Array.all_eq_true.1 ht.2 i (by simpa using hi);rw[<-he];simpa using this
   refine SR.rk (p:=p) _ _ fs.toList (fun f hf b q2 cw=>?_) _ p (Le.refl _);have ax:=ax.mono cw;have ay:=ay.mono cw;split
   .refine(SR.part f.type ax _).bind fun q3 u u' gv Ys=>?_;refine(SR.part f.type (ay.mono gv) _).bind fun q4 v v' G8 Yt=>?_;refine(SR.equalIn hc d n f.type (bG f hf) (Ys.mono G8) Yt).av fun q5 c Sr=>?_;split<;>exact SR.pure rfl
   .exact SR.pure rfl
  |array len e=>
   cases hx<;>first|exact SR.stuck|(cases hy<;>first|exact SR.stuck|skip)
   rename_i xs cD qr Pa ys EC Yq Yr;have ax:AR S p xs cD:=⟨qr,Pa⟩
   have ay:AR S p ys EC:=⟨Yq,Yr⟩
   simp only;refine(SR.sizeOf e).av fun q m hq=>?_
   refine SR.av (α:=Option Bool×Unit) ?_ fun q r hq=>by
    split<;>exact SR.pure rfl
   simp only[Std.Legacy.Range.forIn_eq_forIn_range'];refine SR.rk (p:=q) _ _ _ (fun i hi b q2 cw=>?_) _ q (Le.refl _);have ax:=(ax.mono hq).mono cw;have ay:=(ay.mono hq).mono cw;refine(SR.part e ax _).bind fun q3 u u' gv Ys=>?_;refine(SR.part e (ay.mono gv) _).bind fun q4 v v' G8 Yt=>?_;refine(SR.equalIn hc d n e ht (Ys.mono G8) Yt).av fun q5 c Sr=>?_;split<;>exact SR.pure rfl
  |_=>cases ht
end
section
variable {P:Program} {F:Array Func} {S:Nat->Bool} {K:Kz} {N:Nat} {p:Pi}
theorem SR.intArith (op:BinOp) (k:IntKind) (x y:Int):SR P F S K N (QV S) (Op.intArith op k x y) (Op.intArith op k x y) p:=by
 cases op<;>first|exact SR.pure (.int _ _)|exact SR.stuck
theorem SR.intDiv (op:BinOp) (k:IntKind) (x y:Int):SR P F S K N (QV S) (Op.intDiv op k x y) (Op.intDiv op k x y) p:=by
 unfold Op.intDiv;split
 .exact SR.err _
 .cases op<;>first|exact SR.pure (.int _ _)|exact SR.stuck
theorem SR.intBits (op:BinOp) (k:IntKind) (x y:Int):SR P F S K N (QV S) (Op.intBits op k x y) (Op.intBits op k x y) p:=by
 cases op<;>first|exact SR.pure (.int _ _)|exact SR.stuck
theorem SR.intCmp (op:BinOp) (x y:Int):SR P F S K N (QV S) (Op.intCmp op x y) (Op.intCmp op x y) p:=by
 cases op<;>first|exact SR.pure (.bool _)|exact SR.stuck
theorem SR.shift (op:BinOp) (k:IntKind) (x:Int) (k':IntKind) (y:Int):SR P F S K N (QV S) (Op.shift op k x k' y) (Op.shift op k x k' y) p:=by
 unfold Op.shift;split
 .exact SR.err _
 .cases op<;>first|exact SR.pure (.int _ _)|exact SR.stuck
theorem SR.stringOp (op:BinOp) (x y:ByteArray):SR P F S K N (QV S) (Op.stringOp op x y) (Op.stringOp op x y) p:=by
 cases op<;>first|exact SR.pure (.bool _)|exact SR.stuck|skip
 unfold Op.stringOp;simp only;split
 .exact SR.unsupported
 .exact SR.pure (.string _)
theorem SR.unary (op:UnOp) (h:VR S p x x'):SR P F S K N (QV S) (Op.unary op x) (Op.unary op x') p:=by
 cases op<;>cases h<;>first|exact SR.pure (.bool _)|exact SR.unsupported|exact SR.stuck|skip
 .rename_i k n;exact SR.intArith .sub k 0 n
 .rename_i k n;exact SR.intBits .xor k (if k.signed then-1 else k.max) n
theorem kK (ts:Array TypeId) (t:TypeId) (a:Addr) (y:Value):Builtin.unsafeAdd_ ts t #[.pointer (some a),y]=(Go.asInt y>>=fun n=>
 if n=0 then(Go.viewAt a.block>>=fun v=>if v.isSome then Go.unsupported (.unsafePointer "Add: at a place where no cell lies")else Pure.pure (.pointer (some a)))
 else if n<0 then Go.unsupported (.unsafePointer "Add: a move by a count below zero")
 else Go.shape a.block>>=fun s=>match s with
  |some (e,cells)=>Go.program>>=fun p=>match cellAtBytes p p.depth e (cells/p.cellsOf e) a.off n with
   |some off=>Pure.pure (.pointer (some {a with off}))
   |none=>Go.unsupported (.unsafePointer "Add")
  |none=>Go.unsupported (.unsafePointer "Add")):=by
 unfold Builtin.unsafeAdd_;show(Go.asInt y>>=_)=_;congr 1;funext n;by_cases h0:n=0
 .simp only[h0,if_true];congr 1
 .by_cases h1:n<0
  .simp only[h0,h1,if_true,if_false];rfl
  .simp only[h0,h1,if_false];congr 1;funext s;cases s<;>rfl
theorem SR.unsafeAdd {ts ts':Array TypeId} {t':TypeId} (h:hU p a a') (hy:VR S p y y'):SR P F S K N (fun q v v'=>∃b b',v=.pointer (some b)/\v'=.pointer (some b')/\hU q b b') (Builtin.unsafeAdd_ ts t #[.pointer (some a),y]) (Builtin.unsafeAdd_ ts' t' #[.pointer (some a'),y']) p:=by
 rw[kK,kK];refine(SR.asInt hy).av fun q n hq=>?_;have h:=h.mono hq;refine SR.ite (fun _=>?_) fun _=>SR.ite (fun _=>SR.unsupported) fun _=>?_
 .exact(SR.viewAt h.1).bind fun q x y hq Kv=>by
   rw[Kv.1,Kv.2];exact SR.pure ⟨_,_,rfl,rfl,h.mono hq⟩
 .refine(SR.shape h.1).av fun q x hq=>?_;cases x with
  |none=>exact SR.unsupported
  |some x=>
   obtain⟨e,cells⟩:=x;refine SR.nv ?_;try simp only[jL,de,js,df,dU,dR,dS,jr]
   simp only[<-h.2.1];split
   .rename_i off _;exact SR.pure ⟨{a with off},{a' with off},rfl,rfl,hq _ _ h.1,rfl,h.2.2⟩
   .exact SR.unsupported
theorem SR.asNumber (h:hU p a a') (l:Bool):SR P F S K N (QV S) (Go.asNumber a l) (Go.asNumber a' l) p:=by
 unfold Go.asNumber;exact(SR.newObj (.number l h) fun _ _ _ _ _ _ _ a=>by cases a).bind fun q r r' hq hr=>SR.pure (.ptr 0 none hr.1)
theorem SR.movedNumber (t:TypeId) (hx:VR S p x x') (hy:VR S p y y'):SR P F S K N (QV S) (Go.movedNumber t x y) (Go.movedNumber t x' y') p:=by
 unfold Go.movedNumber;refine SR.ci fun d hd=>?_;dsimp only;refine SR.ite (fun _=>SR.unsupported) fun _=>?_;cases x with
 |pointer a=>
  cases a with
  |none=>
   cases hx;show SR P F S K N (QV S) (Builtin.unsafeAdd_ #[] t #[.pointer none,y]) (Builtin.unsafeAdd_ #[] t #[.pointer none,y']) p;show SR P F S K N (QV S) (Go.asInt y>>=_) (Go.asInt y'>>=_) p;refine(SR.asInt hy).av fun q n hq=>?_;dsimp only;refine SR.ite (fun _=>SR.unsupported) fun _=>SR.ite (fun _=>SR.unsupported) fun _=>SR.unsupported
  |some a=>
   obtain⟨r,o,sp⟩:=a;cases hx with
   |ptr _ _ h=>
   rename_i r';refine(SR.behindNumber (a:=⟨r,o,sp⟩) (a':=⟨r',o,sp⟩) ⟨h,rfl,rfl⟩).bind fun q a a' hq ha=>?_;obtain⟨a,l⟩:=a;obtain⟨a',l'⟩:=a';obtain⟨ha,hl⟩:=ha;simp only at hl ha;subst hl;simp only;refine(SR.unsafeAdd ha (hy.mono hq)).bind fun q v v' hq hv=>?_;obtain⟨b,b',rfl,rfl,h⟩:=hv;exact SR.asNumber h l
 |_=>
  cases hx<;>exact(SR.stuck:SR P F S K N (QV S) (Go.stuck "unsafe.Add: a pointer and an integer expected") _ p)
theorem SR.twoPlaces {b b':Addr} (ha:hU p a a') (hb:hU p b b'):SR P F S K N (QE (Nat×Nat)) (Op.twoPlaces a b) (Op.twoPlaces a' b') p:=by
 unfold Op.twoPlaces;refine SR.nv ?_;try simp only[jL,de,js,df,dU,dR,dS,jr]
 intro hp
 have e:(a.block !=b.block||decide (a.block>=P.globals.size))=(a'.block !=b'.block||decide (a'.block>=P.globals.size)):=by
  have h1:=hp.inj _ _ _ _ ha.1 hb.1;have h2:=hp.fix _ _ ha.1;rw[Bool.eq_iff_iff];simp only[Bool.or_eq_true,bne_iff_ne,decide_eq_true_eq,ne_eq];by_cases hg:a.block<P.globals.size
  .have h1:=h1 fun _=>hg;omega
  .omega
 rw[e];revert hp;show SR P F S K N (QE (Nat×Nat)) _ _ p;try dsimp only
 refine SR.ite (fun _=>SR.unsupported) fun _=>?_;exact(SR.byteOf ha).av fun q x hq=>(SR.byteOf (hb.mono hq)).av fun q y hq=>SR.pure rfl
theorem SR.addrSub (k:IntKind) {b b':Addr} (ha:hU p a a') (hb:hU p b b'):SR P F S K N (QV S) (Op.addrSub k a b) (Op.addrSub k a' b') p:=
 (SR.twoPlaces ha hb).av fun q x hq=>SR.pure (.int _ _)
theorem SR.addrCmp (op:BinOp) {b b':Addr} (ha:hU p a a') (hb:hU p b b'):SR P F S K N (QV S) (Op.addrCmp op a b) (Op.addrCmp op a' b') p:=by
 refine(SR.twoPlaces ha hb).av fun q x hq=>?_;cases op<;>first|exact SR.pure (.bool _)|exact SR.unsupported
theorem SR.addrMod (k:IntKind) (ha:hU p a a') (n:Int):SR P F S K N (QV S) (Op.addrMod k a n) (Op.addrMod k a' n) p:=by
 unfold Op.addrMod;refine(SR.shape ha.1).av fun q x hq=>?_;cases x with
 |none=>exact SR.unsupported
 |some x=>
  obtain⟨e,m⟩:=x;simp only;refine SR.ny fun i hi=>?_;refine SR.ite (fun _=>SR.unsupported) fun _=>?_;exact(SR.byteOf (ha.mono hq)).av fun q x hq=>SR.pure (.int _ _)
theorem SR.equal (hc:aI P) (ht:cx P n t=true) (hx:VR S p x x') (hy:VR S p y y'):SR P F S K N (QE Bool) (Op.equal t x y) (Op.equal t x' y') p:=
 SR.equalIn hc _ n t ht hx hy
def mh (P:Program) (op:BinOp) (t:TypeId):Bool:=
 match op with
 |.eql|.neq=>cx P 10 t&&!P.eqGuardType P.depth t
 |.add|.sub=>match P.underlying t with|some .unsafePointer=>false|_=>true
 |_=>true
end
section
variable {P:Program} {F:Array Func} {S:Nat->Bool} {K:Kz} {N:Nat} {p:Pi}
theorem SR.Pb (op:BinOp) (t:TypeId) (k k':IntKind) (a b:Int):SR P F S K N (QV S) (Go.binOp op t (.int k a) (.int k' b)) (Go.binOp op t (.int k a) (.int k' b)) p:=by
 have key:∀(s:Sem Value),SR P F S K N (QV S) s s p->SR P F S K N (QV S) (if k≠k' then Go.stuck "BinOp: operands of different kinds" else s) (if k≠k' then Go.stuck "BinOp: operands of different kinds" else s) p:=fun s h=>SR.ite (fun _=>SR.stuck) fun _=>h;cases op;case shl=>exact SR.shift .shl k a k' b
 case shr=>exact SR.shift .shr k a k' b
 case quo=>exact key _ (SR.intDiv .quo k a b)
 case rem=>exact key _ (SR.intDiv .rem k a b)
 case add=>exact key _ (SR.intArith .add k a b)
 case sub=>exact key _ (SR.intArith .sub k a b)
 case mul=>exact key _ (SR.intArith .mul k a b)
 case and=>exact key _ (SR.intBits .and k a b)
 case or=>exact key _ (SR.intBits .or k a b)
 case xor=>exact key _ (SR.intBits .xor k a b)
 case andNot=>exact key _ (SR.intBits .andNot k a b)
 all_goals exact key _ (SR.intCmp _ a b)
theorem SR.Pc (op:BinOp) (t:TypeId) (a b:ByteArray):SR P F S K N (QV S) (Go.binOp op t (.string a) (.string b)) (Go.binOp op t (.string a) (.string b)) p:=by
 cases op;case add=>exact SR.stringOp .add a b
 case sub=>exact SR.stringOp .sub a b
 case mul=>exact SR.stringOp .mul a b
 case quo=>exact SR.stringOp .quo a b
 case rem=>exact SR.stringOp .rem a b
 case and=>exact SR.stringOp .and a b
 case or=>exact SR.stringOp .or a b
 case xor=>exact SR.stringOp .xor a b
 case andNot=>exact SR.stringOp .andNot a b
 case shl=>exact SR.stringOp .shl a b
 case shr=>exact SR.stringOp .shr a b
 case eql=>exact SR.stringOp .eql a b
 case neq=>exact SR.stringOp .neq a b
 case lss=>exact SR.stringOp .lss a b
 case leq=>exact SR.stringOp .leq a b
 case gtr=>exact SR.stringOp .gtr a b
 case geq=>exact SR.stringOp .geq a b
def eG:Value->Value->Bool
 |.int _ _,.int _ _|.string _,.string _=>true
 |_,_=>false
theorem SR.KZ (hc:aI P) (t:TypeId) (hx:VR S p x x') (hy:VR S p y y') (h:eG x y=false):SR P F S K N (QV S) (Go.binOp .mul t x y) (Go.binOp .mul t x' y') p:=by
 cases hx<;>cases hy<;>first|exact SR.stuck|exact SR.unsupported|(cases h;done)|skip
theorem SR.K1 (hc:aI P) (t:TypeId) (hx:VR S p x x') (hy:VR S p y y') (h:eG x y=false):SR P F S K N (QV S) (Go.binOp .quo t x y) (Go.binOp .quo t x' y') p:=by
 cases hx<;>cases hy<;>first|exact SR.stuck|exact SR.unsupported|(cases h;done)|skip
theorem SR.K2 (hc:aI P) (t:TypeId) (hx:VR S p x x') (hy:VR S p y y') (h:eG x y=false):SR P F S K N (QV S) (Go.binOp .rem t x y) (Go.binOp .rem t x' y') p:=by
 cases hx<;>cases hy<;>first|exact SR.stuck|exact SR.unsupported|(cases h;done)|skip
 all_goals
  rename_i r r' o sp g k n;exact SR.bind (SR.behindNumber (a:=⟨r,o,sp⟩) (a':=⟨r',o,sp⟩) ⟨g,rfl,rfl⟩) fun q a a' hq ha=>(SR.addrMod k ha.1 n)
theorem SR.K3 (hc:aI P) (t:TypeId) (hx:VR S p x x') (hy:VR S p y y') (h:eG x y=false):SR P F S K N (QV S) (Go.binOp .and t x y) (Go.binOp .and t x' y') p:=by
 cases hx<;>cases hy<;>first|exact SR.stuck|exact SR.unsupported|(cases h;done)|skip
 .rename_i k n r r' o sp g;exact SR.bind (SR.behindNumber (a:=⟨r,o,sp⟩) (a':=⟨r',o,sp⟩) ⟨g,rfl,rfl⟩) fun q a a' hq ha=>SR.addrMod k ha.1 (n+1)
 .rename_i r r' o sp g k n;exact SR.bind (SR.behindNumber (a:=⟨r,o,sp⟩) (a':=⟨r',o,sp⟩) ⟨g,rfl,rfl⟩) fun q a a' hq ha=>SR.addrMod k ha.1 (n+1)
theorem SR.Pd (hc:aI P) (t:TypeId) (hx:VR S p x x') (hy:VR S p y y') (h:eG x y=false):SR P F S K N (QV S) (Go.binOp .or t x y) (Go.binOp .or t x' y') p:=by
 cases hx<;>cases hy<;>first|exact SR.stuck|exact SR.unsupported|(cases h;done)|skip
theorem SR.K4 (hc:aI P) (t:TypeId) (hx:VR S p x x') (hy:VR S p y y') (h:eG x y=false):SR P F S K N (QV S) (Go.binOp .xor t x y) (Go.binOp .xor t x' y') p:=by
 cases hx<;>cases hy<;>first|exact SR.stuck|exact SR.unsupported|(cases h;done)|skip
theorem SR.AL (hc:aI P) (t:TypeId) (hx:VR S p x x') (hy:VR S p y y') (h:eG x y=false):SR P F S K N (QV S) (Go.binOp .andNot t x y) (Go.binOp .andNot t x' y') p:=by
 cases hx<;>cases hy<;>first|exact SR.stuck|exact SR.unsupported|(cases h;done)|skip
theorem SR.K7 (hc:aI P) (t:TypeId) (hx:VR S p x x') (hy:VR S p y y') (h:eG x y=false):SR P F S K N (QV S) (Go.binOp .shl t x y) (Go.binOp .shl t x' y') p:=by
 cases hx<;>cases hy<;>first|exact SR.stuck|exact SR.unsupported|(cases h;done)|skip
theorem SR.K8 (hc:aI P) (t:TypeId) (hx:VR S p x x') (hy:VR S p y y') (h:eG x y=false):SR P F S K N (QV S) (Go.binOp .shr t x y) (Go.binOp .shr t x' y') p:=by
 cases hx<;>cases hy<;>first|exact SR.stuck|exact SR.unsupported|(cases h;done)|skip
theorem SR.K9 (hc:aI P) (t:TypeId) (hx:VR S p x x') (hy:VR S p y y') (h:eG x y=false):SR P F S K N (QV S) (Go.binOp .lss t x y) (Go.binOp .lss t x' y') p:=by
 cases hx<;>cases hy<;>first|exact SR.stuck|exact SR.unsupported|(cases h;done)|skip
 .rename_i r r' o sp g r2 G7 o2 qq g2
  exact SR.bind (SR.behindNumber (a:=⟨r,o,sp⟩) (a':=⟨r',o,sp⟩) ⟨g,rfl,rfl⟩) fun q a a' hq ha=>
   SR.bind (SR.behindNumber (a:=⟨r2,o2,qq⟩) (a':=⟨G7,o2,qq⟩) ⟨hq _ _ g2,rfl,rfl⟩) fun q2 b b' cw hb=>SR.addrCmp .lss (ha.1.mono cw) hb.1
theorem SR.La (hc:aI P) (t:TypeId) (hx:VR S p x x') (hy:VR S p y y') (h:eG x y=false):SR P F S K N (QV S) (Go.binOp .leq t x y) (Go.binOp .leq t x' y') p:=by
 cases hx<;>cases hy<;>first|exact SR.stuck|exact SR.unsupported|(cases h;done)|skip
 .rename_i r r' o sp g r2 G7 o2 qq g2
  exact SR.bind (SR.behindNumber (a:=⟨r,o,sp⟩) (a':=⟨r',o,sp⟩) ⟨g,rfl,rfl⟩) fun q a a' hq ha=>
   SR.bind (SR.behindNumber (a:=⟨r2,o2,qq⟩) (a':=⟨G7,o2,qq⟩) ⟨hq _ _ g2,rfl,rfl⟩) fun q2 b b' cw hb=>SR.addrCmp .leq (ha.1.mono cw) hb.1
theorem SR.Lb (hc:aI P) (t:TypeId) (hx:VR S p x x') (hy:VR S p y y') (h:eG x y=false):SR P F S K N (QV S) (Go.binOp .gtr t x y) (Go.binOp .gtr t x' y') p:=by
 cases hx<;>cases hy<;>first|exact SR.stuck|exact SR.unsupported|(cases h;done)|skip
 .rename_i r r' o sp g r2 G7 o2 qq g2
  exact SR.bind (SR.behindNumber (a:=⟨r,o,sp⟩) (a':=⟨r',o,sp⟩) ⟨g,rfl,rfl⟩) fun q a a' hq ha=>
   SR.bind (SR.behindNumber (a:=⟨r2,o2,qq⟩) (a':=⟨G7,o2,qq⟩) ⟨hq _ _ g2,rfl,rfl⟩) fun q2 b b' cw hb=>SR.addrCmp .gtr (ha.1.mono cw) hb.1
theorem SR.Lc (hc:aI P) (t:TypeId) (hx:VR S p x x') (hy:VR S p y y') (h:eG x y=false):SR P F S K N (QV S) (Go.binOp .geq t x y) (Go.binOp .geq t x' y') p:=by
 cases hx<;>cases hy<;>first|exact SR.stuck|exact SR.unsupported|(cases h;done)|skip
 .rename_i r r' o sp g r2 G7 o2 qq g2
  exact SR.bind (SR.behindNumber (a:=⟨r,o,sp⟩) (a':=⟨r',o,sp⟩) ⟨g,rfl,rfl⟩) fun q a a' hq ha=>
   SR.bind (SR.behindNumber (a:=⟨r2,o2,qq⟩) (a':=⟨G7,o2,qq⟩) ⟨hq _ _ g2,rfl,rfl⟩) fun q2 b b' cw hb=>SR.addrCmp .geq (ha.1.mono cw) hb.1
theorem SR.Ld (hc:aI P) (t:TypeId) (hu:P.underlying t≠some .unsafePointer) (hx:VR S p x x') (hy:VR S p y y') (h:eG x y=false):SR P F S K N (QV S) (Go.binOp .add t x y) (Go.binOp .add t x' y') p:=by
 have key:∀{a a' b b':Value},VR S p a a'->VR S p b b'->SR P F S K N (QV S) (Go.underlying t>>=fun u=>if(match u with|.unsafePointer=>true|_=>false)=true then Go.movedPointer t a b else Go.movedNumber t a b) (Go.underlying t>>=fun u=>if(match u with|.unsafePointer=>true|_=>false)=true then Go.movedPointer t a' b' else Go.movedNumber t a' b') p:=by
  intro a a' b b' ha hb;refine SR.ci fun d hd=>?_;have bC:d≠ .unsafePointer:=fun e=>hu (e▸hd);cases d<;>first|exact absurd rfl bC|exact SR.movedNumber t ha hb
 have xz:=hx;have hy0:=hy;cases hx<;>cases hy<;>first|exact SR.stuck|exact SR.unsupported|(cases h;done)|exact key xz hy0|exact SR.movedNumber t hy0 xz
theorem SR.Lf (hc:aI P) (t:TypeId) (hx:VR S p x x') (hy:VR S p y y') (h:eG x y=false):SR P F S K N (QV S) (Go.binOp .sub t x y) (Go.binOp .sub t x' y') p:=by
 have xz:=hx;cases hx<;>cases hy<;>first|exact SR.stuck|exact SR.unsupported|(cases h;done)|skip
 .rename_i k n;exact SR.movedNumber t xz (.int k (-n))
 .rename_i r r' o sp g k n;exact SR.movedNumber t xz (.int k (-n))
 .rename_i r r' o sp g r2 G7 o2 qq g2
  exact SR.bind (SR.behindNumber (a:=⟨r,o,sp⟩) (a':=⟨r',o,sp⟩) ⟨g,rfl,rfl⟩) fun q a a' hq ha=>
   SR.bind (SR.behindNumber (a:=⟨r2,o2,qq⟩) (a':=⟨G7,o2,qq⟩) ⟨hq _ _ g2,rfl,rfl⟩) fun q2 b b' cw hb=>SR.addrSub .u64 (ha.1.mono cw) hb.1
theorem az.WO {k:Program->Sem α} (h:az P (k P)):az P (Sem.program k):=fun w es=>h w es
theorem az.stuck (x:String):az P (Go.stuck x:Sem α):=fun w es=>⟨_,w,es,rfl,trivial⟩
theorem jM (ht:cx P n t=true) (h:x=.tuple #[]\/y=.tuple #[]):az P (Op.equal t x y):=by
 obtain⟨d,hd⟩:∃d,Op.maxDepth=d+1:=⟨_,rfl⟩
 unfold Op.equal;rw[hd];simp only[Op.equalIn];unfold Go.underlying;refine az.WO (k:=fun P=>Sem.bind (match P.underlying t with|some i=>Pure.pure i|none=>Go.stuck "no such type") _) ?_;cases n with
 |zero=>simp[cx]at ht
 |succ n=>
 cases hu:P.underlying t with
 |none=>exact az.bind (az.stuck _) _
 |some u=>
  simp only[cx,hu]at ht;cases u<;>first|(cases ht;done)|skip
  all_goals rcases h with rfl|rfl
  all_goals first
   |exact fun w es=>⟨_,w,es,rfl,trivial⟩
   |(cases y<;>exact fun w es=>⟨_,w,es,rfl,trivial⟩)
   |(cases x<;>first|exact fun w es=>⟨_,w,es,rfl,trivial⟩|(rename_i a;cases a<;>exact fun w es=>⟨_,w,es,rfl,trivial⟩)|(rename_i a l c;cases a<;>cases l<;>cases c<;>exact fun w es=>⟨_,w,es,rfl,trivial⟩))
theorem jN (f:Bool->Sem β):vz (Op.equal t x y>>=f)=true:=by
 obtain⟨d,hd⟩:∃d,Op.maxDepth=d+1:=⟨_,rfl⟩
 unfold Op.equal;rw[hd];rfl
theorem qK (t:TypeId) (h:eG x y=false) (hj:x=.tuple #[]\/y=.tuple #[]):Go.binOp .eql t x y=(Op.equal t x y>>=fun b=>Pure.pure (.bool b)):=by
 rcases hj with rfl|rfl
 .cases y<;>rfl
 .cases x<;>rfl
theorem qL (t:TypeId) (h:eG x y=false) (hj:x=.tuple #[]\/y=.tuple #[]):Go.binOp .neq t x y=(Op.equal t x y>>=fun b=>Pure.pure (.bool !b)):=by
 rcases hj with rfl|rfl
 .cases y<;>rfl
 .cases x<;>rfl
theorem SR.qK (hc:aI P) (t:TypeId) (ht:cx P n t=true) (hx:VR S p x x') (hy:VR S p y y') (h:eG x y=false):SR P F S K N (QV S) (Go.binOp .eql t x y) (Go.binOp .eql t x' y') p:=by
 by_cases hj:p.l=false/\(x=.tuple #[]\/y=.tuple #[])
 .rw[aq.qK t h hj.2];exact SR.jJ (.inr ⟨hj.1,az.bind (jM ht hj.2) _⟩) (jN _)
 have key:SR P F S K N (QV S) (Op.equal t x y>>=fun b=>Pure.pure (.bool b)) (Op.equal t x' y'>>=fun b=>Pure.pure (.bool b)) p:=(SR.equal hc ht hx hy).av fun q b hq=>SR.pure (.bool b);cases hx<;>cases hy<;>first|exact key|(cases h;done)|exact absurd ⟨by assumption,.inl rfl⟩ hj|exact absurd ⟨by assumption,.inr rfl⟩ hj
theorem SR.qL (hc:aI P) (t:TypeId) (ht:cx P n t=true) (hx:VR S p x x') (hy:VR S p y y') (h:eG x y=false):SR P F S K N (QV S) (Go.binOp .neq t x y) (Go.binOp .neq t x' y') p:=by
 by_cases hj:p.l=false/\(x=.tuple #[]\/y=.tuple #[])
 .rw[aq.qL t h hj.2];exact SR.jJ (.inr ⟨hj.1,az.bind (jM ht hj.2) _⟩) (jN _)
 have key:SR P F S K N (QV S) (Op.equal t x y>>=fun b=>Pure.pure (.bool !b)) (Op.equal t x' y'>>=fun b=>Pure.pure (.bool !b)) p:=(SR.equal hc ht hx hy).av fun q b hq=>SR.pure (.bool !b);cases hx<;>cases hy<;>first|exact key|(cases h;done)|exact absurd ⟨by assumption,.inl rfl⟩ hj|exact absurd ⟨by assumption,.inr rfl⟩ hj
theorem SR.binOp (hc:aI P) (op:BinOp) (t:TypeId) (ho:mh P op t=true) (hx:VR S p x x') (hy:VR S p y y'):SR P F S K N (QV S) (Go.binOp op t x y) (Go.binOp op t x' y') p:=by
 cases hp:eG x y with
 |true=>
  cases hx<;>first|(cases hp;done)|(cases hy<;>first|(cases hp;done)|exact SR.Pb op t _ _ _ _|exact SR.Pc op t _ _)
 |false=>
  cases op;case add=>exact SR.Ld hc t (fun e=>by simp[mh,e]at ho) hx hy hp
  case sub=>exact SR.Lf hc t hx hy hp
  case mul=>exact SR.KZ hc t hx hy hp
  case quo=>exact SR.K1 hc t hx hy hp
  case rem=>exact SR.K2 hc t hx hy hp
  case and=>exact SR.K3 hc t hx hy hp
  case or=>exact SR.Pd hc t hx hy hp
  case xor=>exact SR.K4 hc t hx hy hp
  case andNot=>exact SR.AL hc t hx hy hp
  case shl=>exact SR.K7 hc t hx hy hp
  case shr=>exact SR.K8 hc t hx hy hp
  case lss=>exact SR.K9 hc t hx hy hp
  case leq=>exact SR.La hc t hx hy hp
  case gtr=>exact SR.Lb hc t hx hy hp
  case geq=>exact SR.Lc hc t hx hy hp
  case eql=>exact SR.qK hc t (by simp only[mh,Bool.and_eq_true]at ho;exact ho.1) hx hy hp
  case neq=>exact SR.qL hc t (by simp only[mh,Bool.and_eq_true]at ho;exact ho.1) hx hy hp
end
section
variable {P:Program} {F:Array Func} {S:Nat->Bool} {K:Kz} {N:Nat} {p:Pi}
theorem SR.AM (t:TypeId) (ht:cx P n t=true):∀d,SR P F S K N (QE Bool) (Op.eqGuardIn d t .nilIface .nilIface) (Op.eqGuardIn d t .nilIface .nilIface) p
 |0=>SR.unsupported
 |d+1=>by
  simp only[Op.eqGuardIn];refine SR.ci fun u hu=>?_;cases n with
  |zero=>simp[cx]at ht
  |succ n=>
   simp only[cx,hu]at ht;cases u<;>first|exact SR.pure rfl|(cases ht;done)
def fS (t:TypeId) (x y:Operand) (a b:Value):Sem Unit:=
 match a,b with
 |.nilIface,.nilIface=>
  if((x matches .const _)||(y matches .const _))=true then Pure.pure ()
  else Op.eqGuardIn Op.maxDepth t .nilIface .nilIface>>=fun g=>if g=true then Go.unsupported (.noEntry "binop/eql: two nil values of an interface type with methods, neither of them the literal nil")else Pure.pure ()
 |.agg xs,.agg ys=>Go.program>>=fun q=>Go.program>>=fun r=>
  if(!q.eqGuardType r.depth t)=true then Pure.pure ()
  else Op.eqGuardIn Op.maxDepth t (.agg xs) (.agg ys)>>=fun g=>if g=true then Go.unsupported (.noEntry "binop/eql: two nil values of an interface type with methods, in a part of a struct or an array")else Pure.pure ()
 |_,_=>Pure.pure ()
theorem oP (t:TypeId) (x y:Operand) (a b:Value):Go.eqGuard .eql t x y a b=fS t x y a b:=by
 cases a<;>cases b<;>rfl
theorem oQ (t:TypeId) (x y:Operand) (a b:Value):Go.eqGuard .neq t x y a b=fS t x y a b:=by
 cases a<;>cases b<;>rfl
theorem SR.fS (t:TypeId) (ht:cx P 10 t=true) (hg:P.eqGuardType P.depth t=false) (x y:Operand) {a a':Value} (ha:VR S p a a') (hb:VR S p b b') (hja:p.l=false->a≠ .tuple #[]) (vD:p.l=false->b≠ .tuple #[]):SR P F S K N (QE Unit) (fS t x y a b) (fS t x y a' b') p:=by
 cases ha<;>first|exact SR.pure rfl|exact absurd rfl (hja (by assumption))|(cases hb<;>first|exact SR.pure rfl|exact absurd rfl (vD (by assumption))|skip)
 .refine SR.ite (fun _=>SR.pure rfl) fun _=>?_;exact(SR.AM t ht Op.maxDepth).av fun q g hq=>SR.ite (fun _=>SR.unsupported) fun _=>SR.pure rfl
 .refine SR.nv (SR.nv ?_);have EJ:(ac P F).eqGuardType (ac P F).depth t=false:=by rw[jr,kI,hg]
  rw[hg,EJ];exact SR.pure rfl
theorem SR.eqGuard (op:BinOp) (t:TypeId) (ho:mh P op t=true) (x y:Operand) {a a':Value} (ha:VR S p a a') (hb:VR S p b b') (hj:p.l=false->¬((op=.eql\/op=.neq)/\(a=.tuple #[]\/b=.tuple #[]))):SR P F S K N (QE Unit) (Go.eqGuard op t x y a b) (Go.eqGuard op t x y a' b') p:=by
 cases op
 case eql=>
  simp only[mh,Bool.and_eq_true,Bool.not_eq_true']at ho;rw[oP,oP];exact SR.fS t ho.1 ho.2 x y ha hb (fun x e=>hj x ⟨.inl rfl,.inl e⟩) fun x e=>hj x ⟨.inl rfl,.inr e⟩
 case neq=>
  simp only[mh,Bool.and_eq_true,Bool.not_eq_true']at ho;rw[oQ,oQ];exact SR.fS t ho.1 ho.2 x y ha hb (fun x e=>hj x ⟨.inr rfl,.inl e⟩) fun x e=>hj x ⟨.inr rfl,.inr e⟩
 all_goals exact SR.pure rfl
def aQ (P:Program) (φ:α->Prop):Sem α->Prop
 |.pure a=>φ a
 |.load _ _ k=>∀v,aQ P φ (k v)
 |.store _ _ _ k=>aQ P φ k
 |.new _ k=>∀r,aQ P φ (k r)
 |.shape _ k=>∀x,aQ P φ (k x)
 |.freeze _ _ k=>aQ P φ k
 |.frozen _ k=>∀x,aQ P φ (k x)
 |.getObj _ k=>∀o,aQ P φ (k o)
 |.setObj _ _ k=>aQ P φ k
 |.choose _ k=>∀n,aQ P φ (k n)
 |.sys _ k=>∀x,aQ P φ (k x)
 |.program k=>aQ P φ (k P)
 |.mark _ k=>aQ P φ k
 |.halt _=>True
theorem aQ.mono {φ ψ:α->Prop} (h:∀a,φ a->ψ a):∀{s:Sem α},aQ P φ s->aQ P ψ s:=by
 intro s;induction s with
 |pure a=>exact h a
 |load m a k ih=>exact fun g v=>ih v (g v)
 |store m a v k ih=>exact fun g=>ih g
 |new o k ih=>exact fun g r=>ih r (g r)
 |shape r k ih=>exact fun g x=>ih x (g x)
 |freeze a n k ih=>exact fun g=>ih g
 |frozen a k ih=>exact fun g x=>ih x (g x)
 |getObj r k ih=>exact fun g o=>ih o (g o)
 |setObj r o k ih=>exact fun g=>ih g
 |choose q k ih=>exact fun g n=>ih n (g n)
 |sys c k ih=>exact fun g x=>ih x (g x)
 |program k ih=>exact fun g=>ih P g
 |mark m k ih=>exact fun g=>ih g
 |halt x=>exact fun g=>g
theorem aQ.bind {φ:α->Prop} {ψ:β->Prop} {f:α->Sem β} (g:∀a,φ a->aQ P ψ (f a)):∀{s:Sem α},aQ P φ s->aQ P ψ (s>>=f):=by
 intro s;induction s with
 |pure a=>exact g a
 |load m a k ih=>exact fun h v=>ih v (h v)
 |store m a v k ih=>exact fun h=>ih h
 |new o k ih=>exact fun h r=>ih r (h r)
 |shape r k ih=>exact fun h x=>ih x (h x)
 |freeze a n k ih=>exact fun h=>ih h
 |frozen a k ih=>exact fun h x=>ih x (h x)
 |getObj r k ih=>exact fun h o=>ih o (h o)
 |setObj r o k ih=>exact fun h=>ih h
 |choose q k ih=>exact fun h n=>ih n (h n)
 |sys c k ih=>exact fun h x=>ih x (h x)
 |program k ih=>exact fun h=>ih P h
 |mark m k ih=>exact fun h=>ih h
 |halt x=>exact fun _=>trivial
theorem aQ.all:∀(s:Sem α),aQ P (fun _=>True) s:=by
 intro s;induction s with
 |pure a=>trivial
 |load m a k ih=>exact ih
 |store m a v k ih=>exact ih
 |new o k ih=>exact ih
 |shape r k ih=>exact ih
 |freeze a n k ih=>exact ih
 |frozen a k ih=>exact ih
 |getObj r k ih=>exact ih
 |setObj r o k ih=>exact ih
 |choose q k ih=>exact ih
 |sys c k ih=>exact ih
 |program k ih=>exact ih P
 |mark m k ih=>exact ih
 |halt x=>trivial
theorem aQ.Tm {ψ:β->Prop} {f:α->Sem β} {s:Sem α} (g:∀a,aQ P ψ (f a)):aQ P ψ (s>>=f):=aQ.bind (fun a _=>g a) (aQ.all s)
theorem aQ.forIn {f:α->β->Sem (ForInStep β)} (I:List α->β->Prop) (J:β->Prop) (h0:∀b,I [] b->J b):∀(l:List α),(∀x m b,I (x::m) b->aQ P (fun r=>match r with|.done c=>J c|.yield c=>I m c) (f x b))->∀b,I l b->aQ P J (forIn l b f)
 | [],_,b,h=>h0 b h
 |x::l,g,b,h=>by
  simp only[List.forIn_cons];refine aQ.bind (φ:=fun r=>match r with|.done c=>J c|.yield c=>I l c) (fun r hr=>?_) (g x l b h);cases r with
  |done c=>exact hr
  |yield c=>exact aQ.forIn I J h0 l g c hr
theorem qI.only {Q:Pi->α->β->Prop} {φ:α->Prop}:∀{s:Sem α} {s':Sem β} {p:Pi},qI P F S K N Q s s' p->aQ P φ s->qI P F S K N (fun q a b=>Q q a b/\φ a) s s' p:=by
 intro s;induction s with
 |pure a=>intro s' p h g;cases s'<;>first|exact⟨h,g⟩|exact h.elim
 |load m a k ih=>intro s' p h g;cases s'<;>first|exact⟨h.1,h.2.1,h.2.2.1,fun v v' x=>ih v (h.2.2.2 v v' x) (g v)⟩|exact h.elim
 |store m a v k ih=>intro s' p h g;cases s'<;>first|exact⟨h.1,h.2.1,h.2.2.1,h.2.2.2.1,ih h.2.2.2.2 g⟩|exact h.elim
 |new o k ih=>intro s' p h g;cases s'<;>first|exact⟨h.1,h.2.1,fun r r' q a b c d n=>ih r (h.2.2 r r' q a b c d n) (g r)⟩|exact h.elim
 |shape r k ih=>
  intro s' p h g;rcases h with h|⟨r',k',rfl,h1,h2⟩
  .exact .inl h
  .exact .inr ⟨r',k',rfl,h1,fun x=>ih x (h2 x) (g x)⟩
 |freeze a n k ih=>
  intro s' p h g;rcases h with h|⟨a',k',rfl,h1,h2,h3⟩
  .exact .inl h
  .exact .inr ⟨a',k',rfl,h1,h2,ih h3 g⟩
 |frozen a k ih=>intro s' p h g;exact h
 |getObj r k ih=>intro s' p h g;cases s'<;>first|exact⟨h.1,fun o o' a=>ih o (h.2 o o' a) (g o)⟩|exact h.elim
 |setObj r o k ih=>intro s' p h g;cases s'<;>first|exact⟨h.1,h.2.1,h.2.2.1,ih h.2.2.2 g⟩|exact h.elim
 |choose q k ih=>
  intro s' p h g;rcases h with h|⟨k',rfl,h1⟩
  .exact .inl h
  .exact .inr ⟨k',rfl,fun n=>ih n (h1 n) (g n)⟩
 |sys c k ih=>intro s' p h g;exact h
 |program k ih=>
  intro s' p h g;rcases h with h|⟨k',rfl,h1⟩
  .exact .inl h
  .exact .inr ⟨k',rfl,ih P h1 g⟩
 |mark m k ih=>
  intro s' p h g;rcases h with h|h|⟨rfl,k',rfl,h1⟩
  .exact .inl h
  .exact .inr (.inl h)
  .exact .inr (.inr ⟨rfl,k',rfl,ih h1 g⟩)
 |halt x=>intro s' p h g;exact h
theorem SR.only {Q:Pi->α->β->Prop} {φ:α->Prop} {s:Sem α} {s':Sem β} (h:SR P F S K N Q s s' p) (g:aQ P φ s):SR P F S K N (fun q a b=>Q q a b/\φ a) s s' p:=fun hp=>qI.only (h hp) g
theorem aQ.ci {γ:Type} {ψ:γ->Prop} {f:TypeDesc->Sem γ} (g:∀i,P.underlying t=some i->aQ P ψ (f i)):aQ P ψ (Go.underlying t>>=f):=by
 unfold Go.underlying;show aQ P ψ (Sem.bind (match P.underlying t with|some i=>Pure.pure i|none=>Go.stuck "no such type") f);cases h:P.underlying t with
 |none=>trivial
 |some u=>exact g u h
def ia:Value->Bool
 |.bool _|.int _ _|.string _|.pointer _=>true
 |_=>false
def mi (P:Program) (t:TypeId):Bool:=match P.underlying t with
 |some .bool|some (.int _)|some .string=>true
 |_=>false
def fA (P:Program) (t:TypeId):Bool:=match P.underlying t with|some (.struct _)|some (.array _ _)=>true|_=>false
def rm (P:Program) (t:TypeId):Nat:=((P.info? t).map (·.size)).getD 0
def vE (P:Program):Nat->TypeId->List Nat
 |0,_=>[]
 |n+1,t=>match P.underlying t with
  |some (.struct fs)=>fs.toList.flatMap fun f=>if f.name= "_" then []else if fA P f.type=true then((vE P n f.type).filter fun o=>decide (o<rm P f.type)).map fun o=>f.offset+o else if mi P f.type=true then [f.offset]else []
  |some (.array len e)=>(List.range' 0 len).flatMap fun i=>if fA P e=true then((vE P n e).filter fun o=>decide (o<rm P e)).map fun o=>i*rm P e+o else if mi P e=true then [i*rm P e]else []
  |_=>[]
def vF (xs:Array Value) (o:Nat):Prop:=∀c,xs[o]?=some c->ia c=true
def mF (P:Program) (n:Nat) (t:TypeId) (x y:Value):Prop:=
 (mi P t=true->ia x=true/\ia y=true)/\(∀xs ys,x=.agg xs->y=.agg ys->∀o∈vE P n t,vF xs o/\vF ys o)/\(fA P t=true->(∃xs,x=.agg xs)/\∃ys,y=.agg ys)
def G9 (P:Program) (t:TypeId) (xs:Array Value) (off:Nat) (v:Value):Prop:=(fA P t=true->v=.agg (xs.extract off (off+rm P t)))/\(fA P t=false->xs[off]?=some v)
theorem aQ.sizeOf (t:TypeId):aQ P (fun n=>n=rm P t) (Go.sizeOf t):=by
 unfold Go.sizeOf Go.typeInfo rm;show aQ P _ (Sem.bind (Sem.bind (.program .pure) fun q=>match q.info? t with|some i=>Pure.pure i|none=>Go.stuck "no such type") fun i=>Pure.pure i.size);show aQ P _ (Sem.bind (match P.info? t with|some i=>Pure.pure i|none=>Go.stuck "no such type") fun i=>Pure.pure i.size);cases h:P.info? t with
 |none=>trivial
 |some i=>exact rfl
theorem aQ.part (t:TypeId) (xs:Array Value) (off:Nat):aQ P (fun v=>G9 P t xs off v) (Go.part t xs off):=by
 unfold Go.part Go.isAgg;refine aQ.bind (φ:=fun b=>b=fA P t) (fun b hb=>?_) (aQ.ci fun u hu=>?_)
 .subst hb;cases h:fA P t with
  |true=>
   simp only[if_true];refine aQ.bind (fun n hn=>?_) (aQ.sizeOf t);subst hn;exact⟨fun _=>rfl,fun h2=>by rw[h]at h2;cases h2⟩
  |false=>
   simp only[Bool.false_eq_true,if_false];cases hx:xs[off]? with
   |none=>trivial
   |some v=>exact⟨fun h2=>(by rw[h]at h2;cases h2),fun _=>hx⟩
 .unfold fA;rw[hu];cases u<;>exact rfl
theorem nC {sz o:Nat} (ho:o<sz) (h:vF (xs.extract off (off+sz)) o):vF xs (off+o):=fun c hc=>by
 refine h c ?_;rw[Array.getElem?_extract];have hs:off+o<xs.size:=(Array.getElem?_eq_some_iff.1 hc).1;rw[if_pos (by omega)];exact hc
def eT (P:Program) (n:Nat) (t:TypeId) (xs ys:Array Value) (off:Nat):Prop:=
 (mi P t=true->vF xs off/\vF ys off)/\(fA P t=true->∀o∈vE P n t,o<rm P t->vF xs (off+o)/\vF ys (off+o))
theorem eT.of {u:Value} (hu:G9 P t xs off u) (hv:G9 P t ys off v) (h:mF P n t u v):eT P n t xs ys off:=by
 refine⟨fun hl=>?_,fun ha o ho ar=>?_⟩
 .have hna:fA P t=false:=by
   unfold mi at hl;unfold fA;split at hl<;>simp_all
  have h1:=h.1 hl;exact⟨fun c hc=>by rw[hu.2 hna]at hc;cases hc;exact h1.1,fun c hc=>by rw[hv.2 hna]at hc;cases hc;exact h1.2⟩
 .have h1:=h.2.1 _ _ (hu.1 ha) (hv.1 ha) o ho;exact⟨nC ar h1.1,nC ar h1.2⟩
theorem jO:∀(d n:Nat) (t:TypeId) (x y:Value),aQ P (fun b=>b=true->mF P n t x y) (Op.equalIn d t x y)
 |0,_,_,_,_=>trivial
 |d+1,n,t,x,y=>by
  simp only[Op.equalIn];refine aQ.ci fun u hu=>?_
  have AN:fA P t=false->mi P t=false->∀s:Sem Bool,aQ P (fun b=>b=true->mF P n t x y) s:=fun h1 h2 s=>
   aQ.mono (fun b _ _=>⟨fun h=>(by rw[h2]at h;cases h),fun xs ys _ _ o ho=>(by
    cases n with
    |zero=>cases ho
    |succ n=>
     unfold fA at h1;rw[hu]at h1;simp only[vE,hu]at ho;cases u<;>first|cases ho|(cases h1)),fun h=>(by rw[h1]at h;cases h)⟩) (aQ.all s)
  have Dc:ia x=true->ia y=true->fA P t=false->∀s:Sem Bool,aQ P (fun b=>b=true->mF P n t x y) s:=fun h1 h2 h3 s=>
   aQ.mono (fun b _ _=>⟨fun _=>⟨h1,h2⟩,fun xs ys e _ o ho=>(by subst e;cases h1),fun h=>(by rw[h3]at h;cases h)⟩) (aQ.all s)
  cases u with
  |bool=>cases x<;>cases y<;>first|exact Dc rfl rfl (by simp[fA,hu]) _|trivial
  |string=>cases x<;>cases y<;>first|exact Dc rfl rfl (by simp[fA,hu]) _|trivial
  |int k=>
   cases x<;>first
    |trivial
    |(cases y<;>first|exact Dc rfl rfl (by simp[fA,hu]) _|trivial)
    |(rename_i o;cases o<;>cases y<;>first|exact Dc rfl rfl (by simp[fA,hu]) _|trivial)
  |struct fs=>
   cases x<;>first|trivial|(cases y<;>first|trivial|skip)
   rename_i xs ys;show aQ P _ (if P.stoodInHeld t=true then _ else _);split
   .trivial
   .refine aQ.bind (φ:=fun(r:Option Bool×Unit)=>(r.1=none->∀f∈fs.toList,f.name≠ "_" ->eT P (n-1) f.type xs ys f.offset)/\∀c,r.1=some c->c=false) (fun r hr=>?_) ?_
    .obtain⟨r1,r2⟩:=r;cases r1 with
     |some c=>exact fun hc=>by have:=hr.2 c rfl;rw[this]at hc;cases hc
     |none=>
      refine fun _=>⟨fun hl=>?_,fun cD EC e1 e2 o ho=>?_,fun _=>⟨⟨_,rfl⟩,_,rfl⟩⟩
      .simp[mi,hu]at hl
      .cases e1;cases e2;cases n with
       |zero=>cases ho
       |succ n=>
        simp only[vE,hu]at ho;obtain⟨f,hf,ho⟩:=List.mem_flatMap.1 ho;by_cases hn:f.name= "_"
        .rw[if_pos hn]at ho;cases ho
        .rw[if_neg hn]at ho;have hp:=hr.1 rfl f hf hn;split at ho
         .rename_i ha;obtain⟨o',h1,rfl⟩:=List.mem_map.1 ho;obtain⟨h1,h2⟩:=List.mem_filter.1 h1;exact hp.2 ha o' h1 (of_decide_eq_true h2)
         .split at ho
          .rename_i hl;rw[List.mem_singleton]at ho;subst ho;exact hp.1 hl
          .cases ho
    .rw[<-Array.forIn_toList];refine aQ.forIn (fun l (r:Option Bool×Unit)=>r.1=none/\∃pre,fs.toList=pre++l/\∀f∈pre,f.name≠ "_" ->eT P (n-1) f.type xs ys f.offset) _ (fun r h=>?_) fs.toList (fun f m b hb=>?_) _ ⟨rfl,[],rfl,fun f h=>by cases h⟩
     .obtain⟨h0,pre,h1,h2⟩:=h;rw[List.append_nil]at h1;exact⟨fun _=>by rw[h1];exact h2,fun c hc=>by rw[h0]at hc;cases hc⟩
     .obtain⟨h0,pre,h1,h2⟩:=hb;have h3:fs.toList=(pre++[f])++m:=by rw[h1,List.append_assoc];rfl
      have step:(f.name≠ "_" ->eT P (n-1) f.type xs ys f.offset)->∀g∈pre++[f],g.name≠ "_" ->eT P (n-1) g.type xs ys g.offset:=fun h g hg hn=>by
       rcases List.mem_append.1 hg with hg|hg
       .exact h2 g hg hn
       .rw[List.mem_singleton]at hg;subst hg;exact h hn
      split
      .rename_i bC;refine aQ.bind (fun u Tn=>?_) (aQ.part f.type xs f.offset);refine aQ.bind (fun v Pe=>?_) (aQ.part f.type ys f.offset);refine aQ.bind (fun c hc=>?_) (jO d (n-1) f.type u v);cases c with
       |false=>exact⟨fun h=>(by cases h),fun c h=>by cases h;rfl⟩
       |true=>exact⟨rfl,_,h3,step fun _=>eT.of Tn Pe (hc rfl)⟩
      .rename_i bC;exact⟨rfl,_,h3,step fun h=>absurd h bC⟩
  |array len e=>
   cases x<;>first|trivial|(cases y<;>first|trivial|skip)
   rename_i xs ys;refine aQ.bind (fun sz bQ=>?_) (aQ.sizeOf e);subst bQ;refine aQ.bind (φ:=fun(r:Option Bool×Unit)=>(r.1=none->∀i∈List.range' 0 len,eT P (n-1) e xs ys (i*rm P e))/\∀c,r.1=some c->c=false) (fun r hr=>?_) ?_
   .obtain⟨r1,r2⟩:=r;cases r1 with
    |some c=>exact fun hc=>by have:=hr.2 c rfl;rw[this]at hc;cases hc
    |none=>
     refine fun _=>⟨fun hl=>?_,fun cD EC e1 e2 o ho=>?_,fun _=>⟨⟨_,rfl⟩,_,rfl⟩⟩
     .simp[mi,hu]at hl
     .cases e1;cases e2;cases n with
      |zero=>cases ho
      |succ n=>
       simp only[vE,hu]at ho;obtain⟨i,hi,ho⟩:=List.mem_flatMap.1 ho;have hp:=hr.1 rfl i hi;split at ho
       .rename_i ha;obtain⟨o',h1,rfl⟩:=List.mem_map.1 ho;obtain⟨h1,h2⟩:=List.mem_filter.1 h1;exact hp.2 ha o' h1 (of_decide_eq_true h2)
       .split at ho
        .rename_i hl;rw[List.mem_singleton]at ho;subst ho;exact hp.1 hl
        .cases ho
   .simp only[Std.Legacy.Range.forIn_eq_forIn_range']
    have Pf:∀l,l=List.range' 0 len->aQ P (fun(r:Option Bool×Unit)=>(r.1=none->∀i∈List.range' 0 len,eT P (n-1) e xs ys (i*rm P e))/\∀c,r.1=some c->c=false) (forIn l (none,()) fun i r=>(Go.part e xs (i*rm P e))>>=fun u=>(Go.part e ys (i*rm P e))>>=fun v=>Op.equalIn d e u v>>=fun c=>if(!c)=true then Pure.pure (ForInStep.done (some false,()))else Pure.pure (ForInStep.yield (none,()))):=fun l hl=>by
     refine aQ.forIn (fun l (r:Option Bool×Unit)=>r.1=none/\∃pre,List.range' 0 len=pre++l/\∀i∈pre,eT P (n-1) e xs ys (i*rm P e)) _ (fun r h=>?_) l (fun f m b hb=>?_) _ ⟨rfl,[],hl.symm,fun f h=>by cases h⟩
     .obtain⟨h0,pre,h1,h2⟩:=h;rw[List.append_nil]at h1;exact⟨fun _=>by rw[h1];exact h2,fun c hc=>by rw[h0]at hc;cases hc⟩
     .obtain⟨h0,pre,h1,h2⟩:=hb;have h3:List.range' 0 len=(pre++[f])++m:=by rw[h1,List.append_assoc];rfl
      refine aQ.bind (fun u Tn=>?_) (aQ.part e xs _);refine aQ.bind (fun v Pe=>?_) (aQ.part e ys _);refine aQ.bind (fun c hc=>?_) (jO d (n-1) e u v);cases c with
      |false=>exact⟨fun h=>(by cases h),fun c h=>by cases h;rfl⟩
      |true=>
       refine⟨rfl,_,h3,fun g hg=>?_⟩;rcases List.mem_append.1 hg with hg|hg
       .exact h2 g hg
       .rw[List.mem_singleton]at hg;subst hg;exact eT.of Tn Pe (hc rfl)
    exact Pf _ (by simp)
  |_=>exact AN (by simp[fA,hu]) (by simp[mi,hu]) _
inductive EL (S:Nat->Bool) (p:Pi):List MapEntry->List MapEntry->Prop
 |nil:EL S p [] []
 |cons {e e':MapEntry} {l l':List MapEntry} (h:ER S p e e') (t:EL S p l l'):EL S p (e::l) (e'::l')
theorem EL.mono (h:Le p q) {l l':List MapEntry} (x:EL S p l l'):EL S q l l':=by
 induction x with
 |nil=>exact .nil
 |cons g _ ih=>exact .cons (g.mono h) ih
theorem EL.of:∀{l l':List MapEntry},l.length=l'.length->(∀(i:Nat) e e',l[i]?=some e->l'[i]?=some e'->ER S p e e')->EL S p l l'
 | [],[],_,_=>.nil
 | [],_::_,h,_=>by cases h
 |_::_,[],h,_=>by cases h
 |e::l,e'::l',h,g=>.cons (g 0 e e' rfl rfl) (EL.of (by simpa using h) fun i a b h1 h2=>g (i+1) a b h1 h2)
theorem oR {S:Nat->Bool} (hJ:S JK=false) (h:S JK=true):False:=by rw[hJ]at h;cases h
theorem pE (d:TypeDesc) {a a':Value} (ha:VR S p a a') (hb:VR S p b b'):Instr.sameNow d a b=Instr.sameNow d a' b':=by
 cases ha with
 |oO _ hj hv=>cases d<;>cases a'<;>first|(cases hv;done)|rfl
 |_=>
  cases hb with
  |oO _ hj hv=>cases d<;>cases b'<;>first|(cases hv;done)|rfl
  |_=>cases d<;>rfl
theorem vG {d:TypeDesc} {a:Value} {c:Bool} (h:Instr.sameNow d a b=some c):ia a=true/\ia b=true:=by
 cases d<;>cases a<;>first|(cases h;done)|(cases b<;>first|(cases h;done)|exact⟨rfl,rfl⟩)
theorem xY (d:TypeDesc) (hk:VR S p k k'):∀{l l':List MapEntry},EL S p l l'->∀i,
 (Instr.findNow d k l i=none/\Instr.findNow d k' l' i=none)\/(Instr.findNow d k l i=some none/\Instr.findNow d k' l' i=some none)\/
   ∃j v v',Instr.findNow d k l i=some (some (i+j,v))/\Instr.findNow d k' l' i=some (some (i+j,v'))/\VR S p v v'/\∃e,l[j]?=some e/\ia k=true/\ia e.key=true:=by
 intro l l' h;induction h with
 |nil=>intro i;exact .inr (.inl ⟨rfl,rfl⟩)
 | @cons e e' l l' he _ ih=>
   intro i;simp only[Instr.findNow];rw[pE d hk he.1];cases hs:Instr.sameNow d k' e'.key with
   |none=>exact .inl ⟨rfl,rfl⟩
   |some b=>
    have hl:=vG ((pE d hk he.1).trans hs);cases b with
    |true=>exact .inr (.inr ⟨0,_,_,rfl,rfl,he.2.1,e,rfl,hl.1,hl.2⟩)
    |false=>
     rcases ih (i+1)with h|h|⟨j,v,v',h1,h2,h3,e2,h4,h5,h6⟩
     .exact .inl h
     .exact .inr (.inl h)
     .refine .inr (.inr ⟨j+1,v,v',?_,?_,h3,e2,by simpa using h4,h5,h6⟩)
      .rw[show i+(j+1)=i+1+j by omega];exact h1
      .rw[show i+(j+1)=i+1+j by omega];exact h2
def FR (S:Nat->Bool) (p:Pi) (G:Nat->Prop):Option (Nat×Value)->Option (Nat×Value)->Prop
 |none,none=>True
 |some x,some y=>x.1=y.1/\VR S p x.2 y.2/\G x.1
 |_,_=>False
theorem SR.findAsking (hc:aI P) (ht:cx P n t=true) (G:Nat->Prop):∀{l l':List MapEntry} {p:Pi} {k k':Value} (i:Nat),(∀j e,l[j]?=some e->mF P 10 t k e.key->G (i+j))->VR S p k k'->EL S p l l'->
 SR P F S K N (fun q a b=>FR S q G a b) (Instr.findAsking t k l i) (Instr.findAsking t k' l' i) p
 | [],_,p,k,k',i,hG,hk,h=>by cases h;exact SR.pure trivial
 |e::l,_,p,k,k',i,hG,hk,h=>by
  cases h with
  | @cons _ e' _ l' he hl=>
  simp only[Instr.findAsking];refine((SR.equal hc ht hk he.1).only (jO Op.maxDepth 10 t k e.key)).bind fun q b b' hq hb=>?_;obtain⟨rfl,hb⟩:=hb;refine SR.ite (fun hx=>SR.pure ⟨rfl,he.2.1.mono hq,hG 0 e rfl (hb hx)⟩) fun _=>SR.findAsking hc ht G (i+1) (fun j e2 h1 h2=>?_) (hk.mono hq) (hl.mono hq);have:=hG (j+1) e2 (by simpa using h1) h2;rwa [show i+(j+1)=i+1+j by omega]at this
theorem SR.findKey (hc:aI P) (ht:cx P n t=true) {l l':List MapEntry} (hk:VR S p k k') (h:EL S p l l'):
 SR P F S K N (fun q a b=>FR S q (fun j=>∃e,l[j]?=some e/\mF P 10 t k e.key) a b) (Instr.findKey t k l) (Instr.findKey t k' l') p:=by
 unfold Instr.findKey;refine SR.ci fun u hu=>?_;rcases xY u hk h 0 with⟨e1,e2⟩|⟨e1,e2⟩|⟨j,v,v',e1,e2,hv,e,he,h5,h6⟩
 .rw[e1,e2];refine SR.findAsking hc ht _ 0 (fun j e he hg=>?_) hk h;exact⟨e,by rw[Nat.zero_add];exact he,hg⟩
 .rw[e1,e2];exact SR.pure trivial
 .rw[e1,e2];refine SR.pure ⟨rfl,hv,e,by rw[show(0+j,v).1=j by simp];exact he,?_⟩
  exact⟨fun _=>⟨h5,h6⟩,fun xs ys e _=>(by subst e;cases h5),fun h=>by
   unfold fA at h;rw[hu]at h;cases u<;>first|(cases h;done)|(cases l<;>simp[Instr.findNow,Instr.sameNow]at e1)⟩
theorem SR.checkKey (b:Bool):∀(d n:Nat) (t:TypeId) {p:Pi} {k k':Value},cx P n t=true->VR S p k k'->SR P F S K N (QE Unit) (Instr.checkKey b d t k) (Instr.checkKey b d t k') p
 |0,_,_,_,_,_,_,_=>SR.unsupported
 |d+1,0,_,_,_,_,h,_=>by simp[cx]at h
 |d+1,n+1,t,p,k,k',ht,hk=>by
  simp only[Instr.checkKey];refine SR.ci fun u hu=>?_;simp only[cx,hu]at ht;cases u with
  |array len e=>
   cases hk<;>first|exact SR.stuck|skip
   rename_i xs cD qr Pa;have ax:AR S p xs cD:=⟨qr,Pa⟩
   simp only;refine SR.av (α:=PUnit) ?_ fun q r hq=>SR.pure rfl;simp only[Std.Legacy.Range.forIn_eq_forIn_range'];refine SR.rk (p:=p) _ _ _ (fun i hi b q2 cw=>?_) _ p (Le.refl _);refine(SR.sizeOf e).av fun q3 m gv=>?_;refine(SR.part e ((ax.mono cw).mono gv) _).bind fun q4 v v' G8 hv=>?_;exact(SR.checkKey _ d n e ht hv).av fun q5 _ Sr=>SR.pure rfl
  |struct fs=>
   simp only[Bool.and_eq_true]at ht
   have bG:∀f∈fs.toList,cx P n f.type=true:=fun f hf=>by
    obtain⟨i,hi,he⟩:=List.getElem_of_mem hf;have:=Array.all_eq_true.1 ht.2 i (by simpa using hi);rw[<-he];simpa using this
   cases hk<;>first|exact SR.stuck|skip
   rename_i xs cD qr Pa;have ax:AR S p xs cD:=⟨qr,Pa⟩
   simp only;refine SR.av (α:=PUnit) ?_ fun q r hq=>SR.pure rfl;rw[<-Array.forIn_toList,<-Array.forIn_toList];refine SR.rk (p:=p) _ _ _ (fun f hf b q2 cw=>?_) _ p (Le.refl _);refine SR.ite (fun _=>?_) fun _=>SR.pure rfl;refine(SR.part f.type (ax.mono cw) _).bind fun q4 v v' G8 hv=>?_;exact(SR.checkKey _ d n f.type (bG f hf) hv).av fun q5 _ Sr=>SR.pure rfl
  |bool=>cases hk<;>exact SR.pure rfl
  |int k=>cases hk<;>exact SR.pure rfl
  |string=>cases hk<;>exact SR.pure rfl
  |slice e=>cases hk<;>exact SR.pure rfl
  |_=>cases ht
end
section
variable {P:Program} {F:Array Func} {S:Nat->Bool} {K:Kz} {N:Nat} {p:Pi}
theorem OR.mapList {es cS:Array MapEntry} (h:es.size=cS.size) (g:∀(i:Nat) (e e':MapEntry),es[i]?=some e->cS[i]?=some e'->ER S p e e'):EL S p es.toList cS.toList:=
 EL.of (by simpa using h) fun i e e' h1 h2=>g i e e' (by simpa using h1) (by simpa using h2)
def ua (P:Program) (t:TypeId):Bool:=match P.underlying t with|some (.map k _)=>cx P 10 k|_=>true
def fD (P:Program) (t:TypeId):Bool:=match P.underlying t with|some (.map k _)=>mi P k|_=>true
def nD (P:Program) (t:TypeId):Nat:=match P.underlying t with|some (.map k _)=>rm P k|_=>0
def EK (P:Program) (t:TypeId):Bool:=match P.underlying t with|some (.map k _)=>fA P k&&(List.range (rm P k)).all fun o=>(vE P 10 k).contains o|_=>true
def rn (n:Nat) (v:Value):Prop:=∀xs,v=.agg xs->xs.size=n
def De (v:Value):Prop:=ia v=true\/∃xs,v=.agg xs/\∀c∈xs.toList,ia c=true
theorem SR.lookup (hz:bc P) (hc:aI P) (t:TypeId) (ht:ua P t=true) (ok:Bool) (hx:VR S p x x') (hi:VR S p i i'):SR P F S K N (QV S) (Instr.lookup t x i ok) (Instr.lookup t x' i' ok) p:=by
 unfold Instr.lookup;refine SR.ci fun u hu=>?_;cases u with
 |map k e=>
  simp only[ua,hu]at ht;simp only
  have rest:∀(q:Pi) (es cS:Array MapEntry),Le p q->es.size=cS.size->EL S q es.toList cS.toList->SR P F S K N (QV S)
   (Instr.checkKey es.isEmpty 10000 k i>>=fun _=>Instr.findKey k i es.toList>>=fun r=>match r with|some (_,v)=>(Pure.pure (v,true)>>=fun(x:Value×Bool)=>Pure.pure (if ok=true then Value.tuple #[x.1,.bool x.2]else x.1))|none=>Go.zeroValue e>>=fun z=>(Pure.pure (z,false)>>=fun(x:Value×Bool)=>Pure.pure (if ok=true then Value.tuple #[x.1,.bool x.2]else x.1)))
   (Instr.checkKey cS.isEmpty 10000 k i'>>=fun _=>Instr.findKey k i' cS.toList>>=fun r=>match r with|some (_,v)=>(Pure.pure (v,true)>>=fun(x:Value×Bool)=>Pure.pure (if ok=true then Value.tuple #[x.1,.bool x.2]else x.1))|none=>Go.zeroValue e>>=fun z=>(Pure.pure (z,false)>>=fun(x:Value×Bool)=>Pure.pure (if ok=true then Value.tuple #[x.1,.bool x.2]else x.1))) q:=by
   intro q es cS hq hs hl;have hem:es.isEmpty=cS.isEmpty:=by simp[Array.isEmpty,hs]
   have fin:∀(q:Pi) (a b:Value) (c:Bool),VR S q a b->SR P F S K N (QV S) (Pure.pure (if ok=true then Value.tuple #[a,.bool c]else a)) (Pure.pure (if ok=true then Value.tuple #[b,.bool c]else b)) q:=by
    intro q a b c h;cases ok with
    |true=>exact SR.pure (AR.tuple ((AR.one h).push (.bool _)))
    |false=>exact SR.pure h
   rw[hem];refine(SR.checkKey _ 10000 10 k ht (hi.mono hq)).av fun q1 _ vH=>?_;refine(SR.findKey hc ht ((hi.mono hq).mono vH) (hl.mono vH)).bind fun q2 r r' cw hr=>?_;cases r<;>cases r'<;>first|exact hr.elim|skip
   .exact(SR.zeroValue hz e).bind fun q4 z z' G8 Au=>fin q4 _ _ _ (Au.1▸Au.2)
   .exact fin q2 _ _ _ hr.2.1
  cases hx<;>first|exact SR.stuck|skip
  .exact rest p #[] #[] (Le.refl _) rfl .nil
  .rename_i r r' h;refine(SR.getObj h).bind fun q o o' hq ho=>?_;cases ho with
   |map c h g=>exact rest q _ _ hq h (OR.mapList h g)
   |_=>exact SR.stuck
 |_=>exact SR.stuck
def Bi (l:Bool) (x y:Bool):Prop:=(x=true->y=true)/\(l=false->y=true->x=true)
theorem Bi.refl {l x:Bool}:Bi l x x:=⟨id,fun _=>id⟩
theorem Bi.and {l x y x' y':Bool} (h:Bi l x y) (k:Bi l x' y'):Bi l (x&&x') (y&&y'):=by
 simp only[Bi,Bool.and_eq_true];exact⟨fun a=>⟨h.1 a.1,k.1 a.2⟩,fun e a=>⟨h.2 e a.1,k.2 e a.2⟩⟩
theorem jP (hJ:S JK=false) (hp:nr P p):∀(n:Nat) {a a' b b':Value},VR S p a a'->VR S p b b'->Bi p.l (Instr.sameBits n a b) (Instr.sameBits n a' b')
 |n,a,a',b,b',ha,hb=>by
  have EH:∀{r r' s s':Nat} (o o2:Nat) (sp qq:Option Nat),p r r'->p s s'->Bi p.l ((some (⟨r,o,sp⟩:Addr))==(some (⟨s,o2,qq⟩:Addr))) ((some (⟨r',o,sp⟩:Addr))==(some (⟨s',o2,qq⟩:Addr))):=by
   intro r r' s s' o o2 sp qq h1 h2;refine⟨fun he=>?_,fun hl=>?_⟩
   .have he:=eq_of_beq he;simp only[Option.some.injEq,Addr.mk.injEq]at he;obtain⟨rfl,rfl,rfl⟩:=he;rw[hp.one _ _ _ h1 h2];exact beq_self_eq_true _
   .have:=hp.two hl _ _ _ _ h1 h2;simp[this]
  cases n with
  |zero=>
   cases ha<;>first|exact Bi.refl|exact(oR hJ ‹_›).elim|(cases hb<;>first|exact Bi.refl|exact EH _ _ _ _ ‹_› ‹_›|exact(oR hJ ‹_›).elim)
  |succ n=>
   cases ha with
   |iface h=>cases hb<;>first|exact Bi.refl|exact(oR hJ ‹_›).elim|(simp only[Instr.sameBits];exact Bi.and Bi.refl (jP hJ hp n h ‹_›))
   |agg h g=>
    cases hb with
    |agg h2 g2=>
     rename_i xs cD ys EC;simp only[Instr.sameBits];rw[h,h2];refine Bi.and Bi.refl ?_
     have hl:∀(l l' m m':List Value),l.length=l'.length->m.length=m'.length->(∀(i:Nat) v v',l[i]?=some v->l'[i]?=some v'->VR S p v v')->(∀(i:Nat) v v',m[i]?=some v->m'[i]?=some v'->VR S p v v')->
      Bi p.l ((l.zip m).all fun(x,y)=>Instr.sameBits n x y) ((l'.zip m').all fun(x,y)=>Instr.sameBits n x y):=by
      intro l;induction l with
      |nil=>intro l' m m' h1 h2 _ _;cases l' with
       |nil=>exact Bi.refl
       |cons=>cases h1
      |cons x l ih=>
       intro l' m m' h1 h2 g1 g2;cases l' with
       |nil=>cases h1
       |cons x' l'=>
        cases m with
        |nil=>cases m' with
         |nil=>exact Bi.refl
         |cons=>cases h2
        |cons y m=>cases m' with
         |nil=>cases h2
         |cons y' m'=>
          simp only[List.zip_cons_cons,List.all_cons];exact Bi.and (jP hJ hp n (g1 0 x x' rfl rfl) (g2 0 y y' rfl rfl)) (ih l' m m' (by simpa using h1) (by simpa using h2) (fun i v v' a b=>g1 (i+1) v v' a b) (fun i v v' a b=>g2 (i+1) v v' a b))
     exact hl _ _ _ _ (by simpa using h) (by simpa using h2) (fun i v v' a b=>g i v v' (by simpa using a) (by simpa using b)) (fun i v v' a b=>g2 i v v' (by simpa using a) (by simpa using b))
    |oO _ hj _=>exact(oR hJ hj).elim
    |_=>exact Bi.refl
   |oO _ hj _=>exact(oR hJ hj).elim
   |_=>cases hb<;>first|exact Bi.refl|exact EH _ _ _ _ ‹_› ‹_›|exact(oR hJ ‹_›).elim
theorem mj (hl:p.l=false) (hp:nr P p):∀(n:Nat) {a a' b b':Value},ia a=true->ia b=true->VR S p a a'->VR S p b b'->Instr.sameBits n a b=Instr.sameBits n a' b':=fun n a a' b b' la lb ha hb=>by
 have EH:∀{r r' s s':Nat} (o o2:Nat) (sp qq:Option Nat),p r r'->p s s'->((some (⟨r,o,sp⟩:Addr))==(some (⟨s,o2,qq⟩:Addr)))=((some (⟨r',o,sp⟩:Addr))==(some (⟨s',o2,qq⟩:Addr))):=by
  intro r r' s s' o o2 sp qq h1 h2;have:=hp.two hl _ _ _ _ h1 h2;rw[Bool.eq_iff_iff];simp[this]
 cases ha<;>first|(cases la;done)|skip
 all_goals cases hb<;>first|(cases lb;done)|skip
 all_goals cases n<;>first|rfl|exact EH _ _ _ _ ‹_› ‹_›
theorem rp (hl:p.l=false) (hp:nr P p) {a a':Value} (la:De a) (lb:De b) (ha:VR S p a a') (hb:VR S p b b'):Instr.sameBits (n+1) a b=Instr.sameBits (n+1) a' b':=by
 rcases la with la|⟨xs,rfl,hx⟩
 .rcases lb with lb|⟨ys,rfl,hy⟩
  .exact mj hl hp _ la lb ha hb
  .cases ha<;>first|(cases la;done)|(cases hb;rfl)
 .rcases lb with lb|⟨ys,rfl,hy⟩
  .cases ha with
   |agg h g=>cases hb<;>first|(cases lb;done)|rfl
  .cases ha with
   | @agg _ cD h g=>
     cases hb with
     | @agg _ EC h2 g2=>
       simp only[Instr.sameBits];rw[h,h2];congr 1
       have key:∀(l l' m m':List Value),l.length=l'.length->m.length=m'.length->(∀c∈l,ia c=true)->(∀c∈m,ia c=true)->(∀(i:Nat) v v',l[i]?=some v->l'[i]?=some v'->VR S p v v')->(∀(i:Nat) v v',m[i]?=some v->m'[i]?=some v'->VR S p v v')->
        ((l.zip m).all fun(x,y)=>Instr.sameBits n x y)=((l'.zip m').all fun(x,y)=>Instr.sameBits n x y):=by
        intro l;induction l with
        |nil=>intro l' m m' h1 h2 _ _ _ _;cases l' with
         |nil=>rfl
         |cons=>cases h1
        |cons x l ih=>
         intro l' m m' h1 h2 lx lm g1 g2;cases l' with
         |nil=>cases h1
         |cons x' l'=>
          cases m with
          |nil=>cases m' with
           |nil=>rfl
           |cons=>cases h2
          |cons y m=>cases m' with
           |nil=>cases h2
           |cons y' m'=>
            simp only[List.zip_cons_cons,List.all_cons];rw[mj hl hp n (lx x List.mem_cons_self) (lm y List.mem_cons_self) (g1 0 x x' rfl rfl) (g2 0 y y' rfl rfl),ih l' m m' (by simpa using h1) (by simpa using h2) (fun c hc=>lx c (List.mem_cons_of_mem _ hc)) (fun c hc=>lm c (List.mem_cons_of_mem _ hc)) (fun i v v' a b=>g1 (i+1) v v' a b) (fun i v v' a b=>g2 (i+1) v v' a b)]
       exact key _ _ _ _ (by simpa using h) (by simpa using h2) hx hy (fun i v v' a b=>g i v v' (by simpa using a) (by simpa using b)) (fun i v v' a b=>g2 i v v' (by simpa using a) (by simpa using b))
def Df (a b:Value):Prop:=(De a/\De b)\/∃xs ys,a=.agg xs/\b=.agg ys/\xs.size≠ys.size
theorem SR.keyThatStays (Lg:p.l=true->S JK=false) {a a':Value} (hJ:S JK=true->Df a b) (ha:VR S p a a') (hb:VR S p b b'):SR P F S K N (QV S) (Instr.keyThatStays a b) (Instr.keyThatStays a' b') p:=by
 intro hp;unfold Instr.keyThatStays
 have e:Bi p.l (Instr.sameBits 10000 a b) (Instr.sameBits 10000 a' b'):=by
  cases hs:S JK with
  |false=>exact jP hs hp 10000 ha hb
  |true=>
   have hl:p.l=false:=by cases hl:p.l with|false=>rfl|true=>rw[Lg hl]at hs;cases hs
   rcases hJ hs with⟨h1,h2⟩|⟨xs,ys,rfl,rfl,bC⟩
   .rw[rp (n:=9999) hl hp h1 h2 ha hb];exact Bi.refl
   .cases ha with
    |agg h g=>
     cases hb with
     |agg h2 g2=>
      simp only[Instr.sameBits];rw[<-h,<-h2];have:(xs.size==ys.size)=false:=by simpa using bC
      rw[this];exact Bi.refl
 cases hx:Instr.sameBits 10000 a b with
 |true=>rw[e.1 hx];exact hb
 |false=>
  cases hl:p.l with
  |true=>exact .inl hl
  |false=>
   have hy:Instr.sameBits 10000 a' b'=false:=by
    cases hy:Instr.sameBits 10000 a' b' with
    |false=>rfl
    |true=>rw[e.2 hl hy]at hx;cases hx
   rw[hy];refine(SR.choose (P:=P) (F:=F) (S:=S) (K:=K) (N:=N) _).av (fun q n hq=>?_) hp;split
   .exact SR.pure (hb.mono hq)
   .exact SR.pure (ha.mono hq)
theorem AO {k:TypeId} {e:TypeId} (hu:P.underlying t=some (.map k e)) (hJ:fD P t=true\/EK P t=true) {a:Value} (h:mF P 10 k b a) (bQ:fD P t=false->rn (nD P t) b):Df a b:=by
 cases hl:fD P t with
 |true=>
  have xZ:=hl;simp only[fD,hu]at xZ;exact .inl ⟨.inl (h.1 xZ).2,.inl (h.1 xZ).1⟩
 |false=>
  have hs:EK P t=true:=hJ.resolve_left (by rw[hl];exact fun h=>by cases h);simp only[EK,hu,Bool.and_eq_true]at hs;obtain⟨⟨xs,rfl⟩,ys,rfl⟩:=h.2.2 hs.1;have hn:=bQ hl xs rfl;simp only[nD,hu]at hn;by_cases e:ys.size=xs.size
  .have key:∀(zs:Array Value),zs.size=rm P k->(∀o∈vE P 10 k,vF zs o)->∀c∈zs.toList,ia c=true:=fun zs hz bG c hc=>by
    obtain⟨i,hi⟩:=List.getElem?_of_mem hc;have To:zs[i]?=some c:=by simpa using hi
    have ar:=(Array.getElem?_eq_some_iff.1 To).1;have hm:=List.all_eq_true.1 hs.2 i (List.mem_range.2 (by omega));exact bG i (by simpa using hm) c To
   exact .inl ⟨.inr ⟨ys,rfl,key ys (by omega) fun o ho=>(h.2.1 xs ys rfl rfl o ho).2⟩,.inr ⟨xs,rfl,key xs hn fun o ho=>(h.2.1 xs ys rfl rfl o ho).1⟩⟩
  .exact .inr ⟨ys,xs,rfl,rfl,e⟩
theorem SR.mapUpdate (Lg:p.l=true->S JK=false) (hc:aI P) (t:TypeId) (hJ:S JK=true->fD P t=true\/EK P t=true) (ht:ua P t=true) {m m':Value} (bQ:S JK=true->fD P t=false->rn (nD P t) k) (hm:VR S p m m') (hk:VR S p k k') (hv:VR S p v v'):SR P F S K N (QE Unit) (Instr.mapUpdate t m k v) (Instr.mapUpdate t m' k' v') p:=by
 unfold Instr.mapUpdate;refine SR.ci fun u hu=>?_;cases u with
 |map kt e=>
  simp only[ua,hu]at ht;simp only;cases hm<;>first|exact SR.stuck|exact SR.G6 _|skip
  rename_i r r' h;simp only;refine(SR.getObj h).bind fun q o o' hq ho=>?_;cases ho with
  | @map es cS c hs g=>
    simp only;refine(SR.checkKey _ 10000 10 kt ht (hk.mono hq)).av fun q1 _ vH=>?_;have hl:EL S q1 es.toList cS.toList:=(OR.mapList hs g).mono vH;refine(SR.findKey hc ht ((hk.mono hq).mono vH) hl).bind fun q2 x x' cw hx=>?_;have h:=cw _ _ (vH _ _ (hq _ _ h));have hk:=((hk.mono hq).mono vH).mono cw;have hv:=((hv.mono hq).mono vH).mono cw;have g2:∀(i:Nat) (e e':MapEntry),es[i]?=some e->cS[i]?=some e'->ER S q2 e e':=fun i e e' a b=>((g i e e' a b).mono vH).mono cw;cases x<;>cases x'<;>first|exact hx.elim|skip
    .refine SR.setObj h (.map (c+1) (by simp[hs]) fun i a b ha hb=>?_) fun _ _ _ _ _ _ _ a=>by cases a
     rw[Array.getElem?_push]at ha hb;rw[hs]at ha;split at ha
     .rename_i hi;simp only[hi,if_true,Option.some.injEq]at ha hb;subst ha;subst hb;exact⟨hk,hv,rfl⟩
     .rename_i hi;simp only[hi,if_false]at hb;exact g2 i a b ha hb
    .rename_i y y';obtain⟨j,u⟩:=y;obtain⟨j',u'⟩:=y';obtain⟨hj,Tn,hlf⟩:=hx;simp only at hj Tn hlf;subst hj;simp only;refine SR.bind (Q:=QV S) (SR.keyThatStays (fun x=>Lg (((hq.trans vH).trans cw).l.symm.trans x)) (fun h=>?_) ?_ hk) fun q3 b b' gv hb=>?_
     .obtain⟨e1,AP,Yu⟩:=hlf;have he:es[j]?=some e1:=by simpa using AP
      rw[he];exact AO hu (hJ h) Yu (bQ h)
     .cases he:es[j]? with
      |none=>
       have:cS[j]?=none:=by rw[Array.getElem?_eq_none_iff]at he⊢;omega
       rw[this];exact hk
      |some e1=>
       have ar:j<cS.size:=by rw[<-hs];exact(Array.getElem?_eq_some_iff.1 he).1
       rw[Array.getElem?_eq_getElem ar];exact(g2 j e1 _ he (Array.getElem?_eq_getElem ar)).1
     .refine SR.setObj (gv _ _ h) (.map c (by simp[hs]) fun i a b ha hb=>?_) fun _ _ _ _ _ _ _ a=>by cases a
      rw[Array.getElem?_modify]at ha hb;split at ha
      .rename_i hi;simp only[hi,if_true]at hb;cases hea:es[i]? with
       |none=>rw[hea]at ha;cases ha
       |some ea=>
        have ar:i<cS.size:=by rw[<-hs];exact(Array.getElem?_eq_some_iff.1 hea).1
        rw[hea]at ha;rw[Array.getElem?_eq_getElem ar]at hb;simp only[Option.map_some,Option.some.injEq]at ha hb;subst ha;subst hb;exact⟨by assumption,hv.mono gv,(g2 i ea _ hea (Array.getElem?_eq_getElem ar)).2.2⟩
      .rename_i hi;simp only[hi,if_false]at hb;exact(g2 i a b ha hb).mono gv
  |_=>exact SR.stuck
 |_=>exact SR.stuck
theorem SR.makeMap (t:TypeId):SR P F S K N (QV S) (Instr.makeMap t none) (Instr.makeMap t none) p:=by
 refine SR.bind (Q:=fun q r r'=>q r r'/\N<=r/\∀k,¬q.x r k) (SR.newObj (.map 0 rfl fun i e e' h=>by simp at h) fun _ _ _ _ _ _ _ a=>by cases a) fun q r r' hq hr=>SR.pure (.map hr.1)
def x9 (e:TypeId) (n m:Int) (bytes:Nat):Sem Value:=
 Go.askRoom ((IntKind.i64.wrap m).toNat*bytes)>>=fun _=>Go.sizeOf e>>=fun s=>
  if(IntKind.i64.wrap m).toNat*s=0 then(Go.newRow e ((Array.range ((IntKind.i64.wrap m).toNat*s)).map ((#[]:Array Value)[·%(#[]:Array Value).size]!))>>=fun a=>Pure.pure (Value.slice (some a) (IntKind.i64.wrap n).toNat (IntKind.i64.wrap m).toNat))
  else Go.zeroValue e>>=fun z=>(Go.newRow e ((Array.range ((IntKind.i64.wrap m).toNat*s)).map (z.cells[·%z.cells.size]!))>>=fun a=>Pure.pure (Value.slice (some a) (IntKind.i64.wrap n).toNat (IntKind.i64.wrap m).toNat))
theorem SR.makeSlice (hz:bc P) (t:TypeId) {l l' c c':Value} (hl:VR S p l l') (jt:VR S p c c'):SR P F S K N (QV S) (Instr.makeSlice t l c) (Instr.makeSlice t l' c') p:=by
 unfold Instr.makeSlice;refine SR.ci fun u hu=>?_;cases u with
 |slice e=>
  simp only;refine(SR.asInt hl).av fun q n hq=>?_;refine(SR.asInt (jt.mono hq)).av fun q2 m cw=>?_;refine SR.ny fun i hi=>?_
  have rest:∀(q:Pi),SR P F S K N (QV S)
   (x9 e n m i.bytes)
   (x9 e n m i.bytes) q:=by
   intro q;unfold x9;refine(SR.askRoom _).av fun q1 _ vH=>(SR.sizeOf e).av fun q2 s cw=>?_;refine SR.ite (fun _=>?_) fun _=>?_
   .exact(SR.newRow e (qJ AR.empty _)).bind fun q4 a a' G8 ha=>SR.pure (ha.1.sl (fun _=>ha.2.2) _ _)
   .refine(SR.zeroValue hz e).bind fun q3 z z' gv Au=>?_;obtain⟨rfl,hv⟩:=Au;exact(SR.newRow e (qJ hv.cells _)).bind fun q4 a a' G8 ha=>SR.pure (ha.1.sl (fun _=>ha.2.2) _ _)
  have Yv:∀(msg:String) (q:Pi),SR P F S K N (QV S) (Go.runtimePanic (.error msg)>>=fun(_:PUnit)=>x9 e n m i.bytes) (Go.runtimePanic (.error msg)>>=fun(_:PUnit)=>x9 e n m i.bytes) q:=
   fun msg q=>SR.bind (Q:=QE PUnit) (SR.err msg) fun q _ _ _ _=>rest q
  refine SR.ite (fun _=>?_) fun _=>rest q2;refine SR.ite (fun _=>Yv _ q2) fun _=>SR.ite (fun _=>Yv _ q2) fun _=>?_;exact(SR.choose _).av fun q3 c gv=>Yv _ q3
 |_=>exact SR.stuck
theorem SR.extract (h:VR S p v v') (i:Nat):SR P F S K N (QV S) (Instr.extract v i) (Instr.extract v' i) p:=by
 unfold Instr.extract;cases h<;>first|exact SR.stuck|skip
 rename_i xs cD hx gx;simp only;cases hi:xs[i]? with
 |none=>exact SR.stuck
 |some u=>obtain⟨u',Ym,hr⟩:=AR.get (S:=S) (p:=p) ⟨hx,gx⟩ hi;rw[Ym];exact SR.pure hr
theorem SR.indexAt (t:TypeId) (h:VR S p v v') (hi:VR S p i i'):SR P F S K N (QV S) (Instr.indexAt t v i) (Instr.indexAt t v' i') p:=by
 unfold Instr.indexAt;refine(SR.asIntOf hi).av fun q ki hq=>?_;obtain⟨k,n⟩:=ki;have h:=h.mono hq;refine SR.ci fun u hu=>?_;simp only
 have rest:∀(q:Pi) (b b':Option Addr) (len:Nat) (e:TypeId),((b=none/\b'=none)\/(∃a a',b=some a/\b'=some a'/\hU q a a')\/∃a a',b=some a/\b'=some a'/\len=0)->∀Pg:Bool,SR P F S K N (QV S)
  (match b with
    |some a=>if 0<=n/\n<(len:Int)then(Go.sizeOf e>>=fun s=>Pure.pure (Value.pointer (some (a.add (n.toNat*s)))))else if Pg=true then Go.unsupported (.noEntry "op/indexAddr.an index out of range at an array of length 0 or 1 (ledger 616)")else Go.boundsPanic k n (len:Int) .index
    |none=>Go.boundsPanic k n 0 .index)
  (match b' with
    |some a=>if 0<=n/\n<(len:Int)then(Go.sizeOf e>>=fun s=>Pure.pure (Value.pointer (some (a.add (n.toNat*s)))))else if Pg=true then Go.unsupported (.noEntry "op/indexAddr.an index out of range at an array of length 0 or 1 (ledger 616)")else Go.boundsPanic k n (len:Int) .index
    |none=>Go.boundsPanic k n 0 .index) q:=by
  intro q b b' len e hb Pg;rcases hb with⟨rfl,rfl⟩|⟨a,a',rfl,rfl,ha⟩|⟨a,a',rfl,rfl,rfl⟩
  .exact SR.boundsPanic _ _ _ _
  .refine SR.ite (fun _=>?_) fun _=>SR.ite (fun _=>SR.unsupported) fun _=>SR.boundsPanic _ _ _ _;exact(SR.sizeOf e).av fun q s hq=>SR.pure (ha.mono hq|>.add _).ptr
  .refine SR.ite (fun h=>absurd h.2 (by simp only[Int.natCast_zero];omega)) fun _=>SR.ite (fun _=>SR.unsupported) fun _=>SR.boundsPanic _ _ _ _
 cases u with
 |array len e=>
  refine(SR.sureAddr h).bind fun q2 a a' cw ha=>?_;refine SR.ci fun u hu=>?_;exact rest q2 _ _ len e (.inr (.inl ⟨a,a',rfl,rfl,ha⟩)) _
 |slice e=>
  cases v with
  |slice b len cap=>
   cases v' with
   |slice b' Yo kv=>
    obtain⟨rfl,hs⟩:=kJ h;refine SR.ci fun u hu=>?_;exact rest q _ _ len e (hs.imp (fun h=>⟨h.1,h.2.1⟩) fun h=>h.imp (fun⟨b,b',h1,h2,h3,_⟩=>⟨b,b',h1,h2,h3⟩) fun⟨h0,_,b,b',h1,h2,_⟩=>⟨b,b',h1,h2,h0⟩) _
   |_=>cases h
  |_=>cases h<;>exact SR.stuck
 |_=>exact SR.stuck
end
section
variable {P:Program} {F:Array Func} {S:Nat->Bool} {K:Kz} {N:Nat} {p:Pi}
theorem SR.lenOf (h:VR S p x x'):SR P F S K N (fun _ a b=>a=b/\∀b l c,x=.slice b l c->a=l) (Builtin.lenOf x) (Builtin.lenOf x') p:=by
 cases h<;>first|exact SR.pure ⟨rfl,fun b l c e=>by cases e<;>rfl⟩|exact SR.stuck
theorem SR.firstCells (s n:Nat) (h:VR S p x x') (hn:∀b c,x=.slice b 0 c->n=0):SR P F S K N (QA S) (Builtin.firstCells s n x) (Builtin.firstCells s n x') p:=by
 cases h<;>first|exact SR.stuck|skip
 .rename_i s1;exact SR.pure (AR.map _ _ _ fun x _=>.int _ _)
 .exact SR.pure AR.empty
 .rename_i r r' o sp l c g hX;exact SR.loadCells (a:=⟨r,o,sp⟩) (a':=⟨r',o,sp⟩) ⟨g,rfl,rfl⟩ _
 .rename_i r r' k o l c hl g h0 hx;exact SR.loadCells (a:=⟨r,o,none⟩) (a':=⟨r',o,none⟩) ⟨g,rfl,rfl⟩ _
 all_goals
  obtain rfl:=hn _ _ rfl;simp only[Builtin.firstCells,Nat.zero_mul];exact SR.pure AR.empty
theorem SR.pF (s:Nat) (h:VR S p x x'):SR P F S K N (fun _ a b=>a=#[]/\b=#[]) (Builtin.firstCells s 0 x) (Builtin.firstCells s 0 x') p:=by
 have hl:∀b:Addr,Go.loadCells b (0*s)=Pure.pure #[]:=fun b=>by rw[Nat.zero_mul];rfl
 cases h<;>first|exact SR.stuck|exact SR.pure ⟨rfl,rfl⟩|(simp only[Builtin.firstCells,hl];exact SR.pure ⟨rfl,rfl⟩)|exact SR.pure ⟨by simp,by simp⟩
theorem mm (h:AR S p z z') (n:Nat):AR S p (Builtin.zeroCells z n) (Builtin.zeroCells z' n):=by
 unfold Builtin.zeroCells;rw[<-h.1];have:=qJ h (n*z.size);rw[<-h.1]at this;exact this
theorem kf (a:Addr) (n:Nat) (w:World) (es:Array Event):∃b,(Builtin.holdsCells a n).runT P w es=(.ok b w,es):=by
 unfold Builtin.holdsCells;show∃b,(Sem.shape a.block fun s=>_).runT P w es=_;simp only[Sem.runT];cases w.shape? a.block with
 |none=>exact⟨_,rfl⟩
 |some x=>exact⟨_,rfl⟩
theorem jQ (P:Program) (f:α->Sem β) {a:α} {w1:World} {es1:Array Event}:∀(s:Sem α) (w:World) (es:Array Event),s.runT P w es=(.ok a w1,es1)->(s.bind f).runT P w es=(f a).runT P w1 es1:=by
 intro s;induction s with
 |pure x=>intro w es e;simp only[Sem.runT,Prod.mk.injEq,Result.ok.injEq]at e;obtain⟨⟨rfl,rfl⟩,rfl⟩:=e;rfl
 |load m a k ih=>
  intro w es e;simp only[Sem.bind,Sem.runT]at e⊢;cases hc:w.cell? a with
  |some v=>rw[hc]at e;exact ih v _ _ e
  |none=>
   rw[hc]at e;simp only at e⊢;cases hf:w.farLoad P a (m== .atomic)with
   |ok x=>rw[hf]at e;exact ih _ _ _ e
   |error x=>rw[hf]at e;cases e
 |store m a v k ih=>
  intro w es e;cases hv:dv v with
  |false=>obtain⟨x,hx,_⟩:=jf P m a v k w es hv;rw[hx]at e;cases e
  |true=>
   rw[cG P m a v k w es hv]at e;show(Sem.store m a v (k.bind f)).runT P w es=_;rw[cG P m a v _ w es hv];cases hc:w.cell? a with
   |some u=>
    rw[hc]at e;simp only at e⊢;by_cases hz:w.frozen? a=true
    .simp only[hz,if_true]at e;cases e
    .simp only[hz,Bool.false_eq_true,if_false]at e⊢;exact ih _ _ e
   |none=>
    rw[hc]at e;simp only at e⊢;cases hf:w.farStore P a v (m== .atomic)with
    |ok x=>rw[hf]at e;exact ih _ _ e
    |error x=>rw[hf]at e;cases e
 |new o k ih=>intro w es e;exact ih _ _ _ e
 |shape r k ih=>intro w es e;exact ih _ _ _ e
 |freeze a n k ih=>intro w es e;exact ih _ _ e
 |frozen a k ih=>intro w es e;exact ih _ _ _ e
 |getObj r k ih=>
  intro w es e;simp only[Sem.bind,Sem.runT]at e⊢;cases ho:w.heap[r]? with
  |none=>rw[ho]at e;cases e
  |some o=>rw[ho]at e;cases o<;>first|exact ih _ _ _ e|(cases e;done)
 |setObj r o k ih=>
  intro w es e;simp only[Sem.bind,Sem.runT]at e⊢;cases ho:w.heap[r]? with
  |none=>rw[ho]at e;cases e
  |some o'=>rw[ho]at e;cases o'<;>first|exact ih _ _ e|(cases e;done)
 |choose q k ih=>
  intro w es e;simp only[Sem.bind,Sem.runT]at e⊢;split at e
  .rename_i hq;simp only[hq,if_true];exact ih _ _ _ e
  .rename_i hq;simp only[hq,if_false,Bool.false_eq_true];exact ih _ _ _ e
 |sys c k ih=>intro w es e;exact ih _ _ _ e
 |program k ih=>intro w es e;exact ih _ _ _ e
 |mark m k ih=>intro w es e;exact ih _ _ e
 |halt x=>intro w es e;cases e
theorem tA (s l n:Nat) (b:Option Addr) (x:Value) (w:World) (es:Array Event):∃c,(Builtin.mayShare s l n b x).runT P w es=(.ok c w,es):=by
 have tail:∀t:Bool,∃c,(if(!t)=true then(Pure.pure true:Sem Bool)else match x with
  |.slice (some b') _ _=>Builtin.holdsCells b' (n*s)>>=fun h=>Pure.pure (!h||b.any (·.block==b'.block))
  |_=>Pure.pure false).runT P w es=(.ok c w,es):=by
  intro t;split
  .exact⟨_,rfl⟩
  .split
   .rename_i b' _ _;obtain⟨h,hh⟩:=kf (P:=P) b' (n*s) w es;exact⟨_,(jQ P _ _ w es hh)⟩
   .exact⟨_,rfl⟩
 unfold Builtin.mayShare;cases b with
 |none=>exact tail true
 |some a=>
  obtain⟨h,hh⟩:=kf (P:=P) a (l*s) w es;obtain⟨c,hc⟩:=tail (h&&!w.frozen? (a.add (l/2*s)));refine⟨c,?_⟩;show((Builtin.holdsCells a (l*s)).bind _).runT P w es=_;rw[jQ P _ _ w es hh];exact hc
theorem yc (s l n:Nat) (b:Option Addr) (x:Value) (u:Unsupported) (hu:∀g,u≠ .initOrder g) (k:PUnit->Sem β):
 az P (Builtin.mayShare s l n b x>>=fun c=>if(!c)=true then Go.mark .noRoom>>=fun _=>Go.unsupported u>>=k else Go.unsupported u>>=k):=by
 intro w es;obtain⟨c,hc⟩:=tA (P:=P) s l n b x w es;have hd:dead (.unsupported u):=by cases u<;>first|trivial|exact absurd rfl (hu _)
 show∃h w1 es1,((Builtin.mayShare s l n b x).bind _).runT P w es=_/\_;rw[jQ P _ _ w es hc];cases c with
 |true=>exact⟨_,w,es,rfl,hd⟩
 |false=>exact⟨_,w,es.push ⟨.mark .noRoom,false,true⟩,rfl,hd⟩
def ub (P:Program) (ts:Array TypeId):Bool:=match ts[1]? with|some t=>(match P.underlying t with|some (.int _)=>false|_=>true)|none=>true
def eM (e:TypeId) (b:Option Addr) (sl sc n size:Nat) (x:Value):Sem Value:=
 Go.choose (.appendCap (sl+n) sc e)>>=fun AQ=>Go.typeInfo e>>=fun i=>Go.askRoom (AQ*i.bytes)>>=fun _=>
  Builtin.firstCells size sl (.slice b sl sc)>>=fun old=>Builtin.firstCells size n x>>=fun new=>Go.zeroValue e>>=fun z=>
   Go.newRow e (old++new++Builtin.zeroCells z.cells (AQ-(sl+n)))>>=fun a=>Pure.pure (.slice (some a) (sl+n) AQ)
def mG (e:TypeId) (b:Option Addr) (sl sc n size:Nat) (x:Value):Sem Value:=
 Go.typeInfo e>>=fun i=>if Builtin.nextslicecap (sl+n) sc*i.bytes>2^48 then
  ((Builtin.mayShare size sl n b x>>=fun c=>if(!c)=true then Go.mark .noRoom>>=fun _=>Go.unsupported (.resourceLimit "append: a slice or a string whose bytes no memory bears")else Go.unsupported (.resourceLimit "append: a slice or a string whose bytes no memory bears"))>>=fun(_:PUnit)=>eM e b sl sc n size x)
  else eM e b sl sc n size x
def ep (e:TypeId) (b:Option Addr) (sl sc size:Nat) (x:Value):Sem Value:=
 Builtin.lenOf x>>=fun n=>if sl+n<=sc then
  Builtin.firstCells size n x>>=fun new=>match b with
   |some a=>Go.storeCells (a.add (sl*size)) new.toList>>=fun _=>Pure.pure (.slice b (sl+n) sc)
   |none=>Pure.pure (.slice b (sl+n) sc)
  else Go.typeInfo e>>=fun i=>if((sl+n:Nat):Int)>IntKind.i64.max/\(false=true\/i.bytes=0)then(Go.runtimePanic (.error "growslice: len out of range")>>=fun(_:PUnit)=>mG e b sl sc n size x)else mG e b sl sc n size x
theorem dw.typeInfo {f:TypeInfo->Sem β} (h:∀i,P.info? t=some i->dw P (f i)):dw P (Go.typeInfo t>>=f):=by
 show dw P (Sem.bind (match P.info? t with|some i=>Pure.pure i|none=>Go.stuck "no such type") f);cases hi:P.info? t with
 |none=>exact trivial
 |some i=>exact h i hi
theorem rq (e:TypeId) (b:Option Addr) (sl sc n size:Nat) (x:Value):dw P (aq.mG e b sl sc n size x):=by
 refine dw.typeInfo fun i hi=>?_;split
 .refine dw.bind ?_;refine dw.NF (fun c=>?_) _;split<;>exact trivial
 .exact trivial
def BR (p:Pi) (b b':Option Addr) (sl sc:Nat):Prop:=(b=none/\b'=none)\/(∃a a',b=some a/\b'=some a'/\hU p a a'/\∀k,¬p.x a.block k)\/∃a a',b=some a/\b'=some a'/\sl=0/\sc=0/\p.l=false
theorem BR.mono (h:Le p q) {b b':Option Addr} {sl sc:Nat} (x:BR p b b' sl sc):BR q b b' sl sc:=x.imp id fun y=>y.imp (fun⟨a,a',h1,h2,h3,h4⟩=>⟨a,a',h1,h2,h3.mono h,fun k hk=>h4 k (h.xr _ _ _ h3.1 hk)⟩) fun⟨a,a',h1,h2,h3,h4,h5⟩=>⟨a,a',h1,h2,h3,h4,h.l.trans h5⟩
theorem BR.sl {b b':Option Addr} (x:BR p b b' l c):VR S p (.slice b l c) (.slice b' l c):=by
 rcases x with⟨rfl,rfl⟩|⟨a,a',rfl,rfl,h,hX⟩|⟨a,a',rfl,rfl,rfl,rfl,hl⟩
 .exact .cU l c
 .exact h.sl (fun _=>hX) l c
 .exact .dy hl a a'
theorem SR.eM (hz:bc P) (e:TypeId) {b b':Option Addr} (sl sc n size:Nat) (hb:BR p b b' sl sc) (hx:VR S p x x') (GI:∀b c,x=.slice b 0 c->n=0):SR P F S K N (QV S) (eM e b sl sc n size x) (eM e b' sl sc n size x') p:=by
 refine(SR.choose _).av fun q1 c vH=>SR.ny fun i hi=>(SR.askRoom _).av fun q2 _ cw=>?_;have hb:=(hb.mono vH).mono cw;have hx:=(hx.mono vH).mono cw;refine(SR.firstCells size sl hb.sl (fun b c h=>by simp only[Value.slice.injEq]at h;exact h.2.1)).bind fun q3 o o' gv ho=>(SR.firstCells size n (hx.mono gv) GI).bind fun q4 y y' G8 hy=>(SR.zeroValue hz e).bind fun q5 z z' Sr Au=>?_;obtain⟨rfl,hv⟩:=Au;exact(SR.newRow e ((((ho.mono G8).mono Sr).append (hy.mono Sr)).append (mm hv.cells _))).bind fun q6 a a' hq6 ha=>SR.pure (ha.1.sl (fun _=>ha.2.2) _ _)
theorem SR.mG (t9:p.l=false) (hz:bc P) (e:TypeId) {b b':Option Addr} (sl sc n size:Nat) (hb:BR p b b' sl sc) (hx:VR S p x x') (GI:∀b c,x=.slice b 0 c->n=0):SR P F S K N (QV S) (mG e b sl sc n size x) (mG e b' sl sc n size x') p:=by
 refine SR.ny fun i hi=>SR.ite (fun _=>?_) fun _=>SR.eM hz e sl sc n size hb hx GI;have hu:∀g,Unsupported.resourceLimit "append: a slice or a string whose bytes no memory bears" ≠ .initOrder g:=fun g h=>by cases h
 have hd:=az.bind (yc (P:=P) size sl n b x _ hu (fun(u:PUnit)=>Pure.pure u)) (fun(_:PUnit)=>aq.eM e b sl sc n size x);rcases hb with⟨rfl,rfl⟩|⟨a,a',rfl,rfl,nz⟩|⟨a,a',rfl,rfl,_⟩
 .cases hx with
  |slice o sp l c g=>exact SR.jJ (.inr ⟨t9,hd⟩) rfl
  |_=>exact SR.jJ (.inr ⟨t9,hd⟩) rfl
 .exact SR.jJ (.inr ⟨t9,hd⟩) rfl
 .exact SR.jJ (.inr ⟨t9,hd⟩) rfl
theorem SR.ep (hz:bc P) (e:TypeId) {b b':Option Addr} (sl:Nat) {sc tB:Nat} (size:Nat) {x x':Value} (hb:VR S p (.slice b sl sc) (.slice b' sl tB)) (hE:p.l=true->∀a,b=some a->a.spot=none) (hx:VR S p x x'):SR P F S K N (QV S) (ep e b sl sc size x) (ep e b' sl tB size x') p:=by
 refine(SR.lenOf hx).bind fun q1 n n' vH hn=>?_;obtain⟨rfl,hn⟩:=hn;have GI:∀b c,x=.slice b 0 c->n=0:=fun b c e=>hn b 0 c e;have hE:q1.l=true->∀a,b=some a->a.spot=none:=fun h=>hE (vH.l.symm.trans h);have hb:=hb.mono vH;have hx:=hx.mono vH;clear vH;revert hb hx hE;generalize q1=p;intro hE hb hx;refine SR.ok fun ho=>?_;cases hl:p.l with
 |true=>
  obtain⟨_,hs⟩:=kJ hb;by_cases hle:sl+n<=sc
  .have Yw:sl+n<=tB:=by
    rcases hs with⟨_,_,e⟩|⟨_,_,_,_,_,⟨e,_⟩|⟨_,_,_,k,_,e⟩⟩|⟨e1,e2,a,_,e3,_,⟨_,e4⟩|⟨e4,_⟩⟩
    .omega
    .omega
    .omega
    .have:=hE hl a e3;rw[e4]at this;cases this
    .rw[hl]at e4;cases e4
   rw[if_pos hle,if_pos Yw];refine(SR.firstCells size n hx fun b c e=>hn b 0 c e).bind fun q2 y y' cw hy=>?_;have hb:=hb.mono cw;rcases hs with⟨rfl,rfl,rfl⟩|⟨a,a',rfl,rfl,ha,⟨e,hX⟩|⟨_,h0,lY,k,hk,e⟩⟩|⟨e1,e2,a,_,e3,_,⟨_,e4⟩|⟨e4,_⟩⟩
   .exact SR.pure (.cU _ _)
   .subst e;have NI:=ha;have ha:=ha.mono cw;exact(SR.fp (ha.add _) hy).av fun q3 _ gv=>SR.pure ((ha.mono gv).sl (fun hs k hk=>hX hs k (cw.xr _ _ _ NI.1 (gv.xr _ _ _ ha.1 hk))) _ _)
   .subst e;have ha:=ha.mono cw;exact(SR.fp (ha.add _) hy).av fun q3 _ gv=>SR.pure ((ha.mono gv).slX (gv.l.trans (cw.l.trans hl)) lY _ h0 (gv.x _ _ (cw.x _ _ hk)))
   .have:=hE hl a e3;rw[e4]at this;cases this
   .rw[hl]at e4;cases e4
  .rw[if_neg hle];refine fun _=>.inl (.inl ⟨hl,?_⟩)
   have:dw P (Go.typeInfo e>>=fun i=>if((sl+n:Nat):Int)>IntKind.i64.max/\(false=true\/i.bytes=0)then(Go.runtimePanic (.error "growslice: len out of range")>>=fun(_:PUnit)=>aq.mG e b sl sc n size x)else aq.mG e b sl sc n size x):=by
    refine dw.typeInfo fun i hi=>?_;split
    .exact dw.NF (fun _=>rq ..) _
    .exact rq ..
   exact this
 |false=>
  obtain⟨_,hs⟩:=kJ hb
  have Yx:sc=tB/\BR p b b' sl sc:=by
   rcases hs with⟨h1,h2,h3⟩|⟨a,a',h1,h2,h3,⟨h4,_⟩|⟨h4,_⟩⟩|⟨h1,h2,a,a',h3,h4,⟨h5,_⟩|⟨_,h5⟩⟩
   .exact⟨h3,.inl ⟨h1,h2⟩⟩
   .exact⟨h4,.inr (.inl ⟨a,a',h1,h2,h3,ho.tw hl _⟩)⟩
   .rw[hl]at h4;cases h4
   .rw[hl]at h5;cases h5
   .exact⟨by omega,.inr (.inr ⟨a,a',h3,h4,h1,h2,hl⟩)⟩
  obtain⟨rfl,Lh⟩:=Yx;refine SR.ite (fun hle=>?_) fun _=>SR.ny fun i hi=>SR.ite (fun _=>?_) fun _=>SR.mG hl hz e sl sc n size Lh hx GI
  .rcases Lh with⟨rfl,rfl⟩|⟨a,a',rfl,rfl,nz,hX⟩|⟨a,a',rfl,rfl,rfl,rfl,_⟩
   .exact(SR.firstCells size n hx GI).bind fun q2 y y' cw hy=>SR.pure (.cU _ _)
   .exact(SR.firstCells size n hx GI).bind fun q2 y y' cw hy=>(SR.fp ((nz.mono cw).add _) hy).av fun q3 _ gv=>SR.pure (((nz.mono cw).mono gv).sl (fun _ k hk=>hX k ((cw.trans gv).xr _ _ _ nz.1 hk)) _ _)
   .obtain rfl:n=0:=by omega
    refine(SR.pF size hx).bind fun q2 y y' cw hy=>?_;obtain⟨rfl,rfl⟩:=hy;exact SR.pure (.dy (cw.l.trans hl) a a')
  .exact SR.bind (Q:=QE PUnit) (SR.err _) fun q2 _ _ cw _=>SR.mG (cw.l.trans hl) hz e sl sc n size (Lh.mono cw) (hx.mono cw) GI
theorem SR.append (hz:bc P) (ts:Array TypeId) (ht:ub P ts=true) (t:TypeId) (h:AR S p xs cD) (hE:p.l=true->∀a l c,xs[0]?=some (.slice (some a) l c)->a.spot=none):SR P F S K N (QV S) (Builtin.append_ ts t xs) (Builtin.append_ ts t cD) p:=by
 unfold Builtin.append_;cases h0:ts[0]? with
 |none=>cases xs[0]? <;>cases xs[1]? <;>exact SR.stuck
 |some sT=>
 cases h1:xs[0]? with
 |none=>cases xs[1]? <;>exact SR.stuck
 |some s=>
 cases h2:xs[1]? with
 |none=>exact SR.stuck
 |some x=>
 obtain⟨s',Dg,hs⟩:=h.get h1;obtain⟨x',uc,hx⟩:=h.get h2;rw[Dg,uc];simp only;refine SR.ci fun u hu=>?_;cases u with
 |slice e=>
  cases s with
  |slice b sl sc=>
   cases s' with
   |slice b' gI tB=>
    obtain⟨rfl,_⟩:=kJ hs;simp only;refine(SR.sizeOf e).av fun q size hq=>?_;have key:=SR.ep (P:=P) (F:=F) (S:=S) (K:=K) (N:=N) hz e sl size (hs.mono hq) (fun hl a e=>hE (hq.l.symm.trans hl) a _ _ (by rw[h1,e])) (hx.mono hq);cases b<;>cases b'<;>(try(cases hs;done))
    all_goals cases h3:ts[1]? with
    |none=>
     simp only[pure_bind,Bool.false_eq_true,if_false,Bool.not_false,if_true,false_or];unfold aq.ep aq.mG aq.eM at key;simp only[Bool.false_eq_true,false_or]at key;exact key
    |some xT=>
     refine SR.ci fun u hu=>?_;simp only[ub,h3,hu]at ht;unfold aq.ep aq.mG aq.eM at key;simp only[Bool.false_eq_true,false_or]at key;cases u<;>first|(cases ht;done)|skip
     all_goals simp only[pure_bind,Bool.false_eq_true,if_false,Bool.not_false,if_true,false_or]
     all_goals exact key
   |_=>cases hs
  |_=>cases hs<;>exact SR.stuck
 |_=>exact SR.stuck
end
section
variable {P:Program} {F:Array Func} {S:Nat->Bool} {K:Kz} {N:Nat} {p:Pi}
theorem SR.copy (ts:Array TypeId) (t:TypeId) (h:AR S p xs cD):SR P F S K N (QV S) (Builtin.copy_ ts t xs) (Builtin.copy_ ts t cD) p:=by
 unfold Builtin.copy_;cases h0:ts[0]? with
 |none=>cases xs[0]? <;>cases xs[1]? <;>exact SR.stuck
 |some dT=>
 cases h1:xs[0]? with
 |none=>cases xs[1]? <;>exact SR.stuck
 |some s=>
 cases h2:xs[1]? with
 |none=>exact SR.stuck
 |some x=>
 obtain⟨s',Dg,hs⟩:=h.get h1;obtain⟨x',uc,hx⟩:=h.get h2;rw[Dg,uc];simp only;refine SR.ci fun u hu=>?_;cases u with
 |slice e=>
  cases s with
  |slice b sl sc=>
   cases s' with
   |slice b' gI tB=>
    obtain⟨rfl,hb⟩:=kJ hs;simp only;refine(SR.lenOf hx).bind fun q n n' hq hn=>(SR.sizeOf e).av fun q2 size cw=>?_;obtain⟨rfl,hn⟩:=hn;have Ph:∀b c,x=.slice b 0 c->min n sl=0:=fun b c e=>by rw[hn b 0 c e];exact Nat.zero_min _
    rcases hb with⟨rfl,rfl,_⟩|⟨a,a',rfl,rfl,nz,_⟩|⟨rfl,_,a,a',rfl,rfl,_⟩
    .exact(SR.firstCells size _ ((hx.mono hq).mono cw) Ph).bind fun q3 y y' gv hy=>SR.pure (.int _ _)
    .exact(SR.firstCells size _ ((hx.mono hq).mono cw) Ph).bind fun q3 y y' gv hy=>(SR.fp (((nz.mono hq).mono cw).mono gv) hy).av fun q4 _ G8=>SR.pure (.int _ _)
    .have e0:Nat.min n 0=0:=Nat.min_zero n;rw[e0];refine(SR.pF size ((hx.mono hq).mono cw)).bind fun q3 y y' gv hy=>?_;obtain⟨rfl,rfl⟩:=hy;exact SR.pure (.int _ _)
   |_=>cases hs
  |_=>cases hs<;>exact SR.stuck
 |_=>exact SR.stuck
def He (P:Program) (ts:Array TypeId):Bool:=match ts[0]? with|some t=>(match P.underlying t with|some (.chan ..)=>false|_=>true)|none=>true
theorem SR.len (ts:Array TypeId) (ht:He P ts=true) (t:TypeId) (h:AR S p xs cD):SR P F S K N (QV S) (Builtin.len_ ts t xs) (Builtin.len_ ts t cD) p:=by
 unfold Builtin.len_;cases h0:ts[0]? with
 |none=>cases xs[0]? <;>exact SR.stuck
 |some dT=>
 cases h1:xs[0]? with
 |none=>exact SR.stuck
 |some s=>
 obtain⟨s',Dg,hs⟩:=h.get h1;rw[Dg];simp only;refine SR.ci fun u hu=>?_;simp only[He,h0,hu]at ht;cases u with
 |chan=>cases ht
 |array n e=>cases hs<;>exact SR.pure (.int _ _)
 |pointer arr=>
  cases hs<;>
  .refine SR.ci fun u hu=>?_;cases u<;>first|exact SR.pure (.int _ _)|exact SR.stuck
 |map k e=>
  cases hs<;>first|exact SR.stuck|exact SR.pure (.int _ _)|skip
  rename_i r r' g;refine(SR.getObj g).bind fun q o o' hq ho=>?_;cases ho with
  |map c h g=>simp only;rw[h];exact SR.pure (.int _ _)
  |_=>exact SR.stuck
 |string=>cases hs<;>first|exact SR.pure (.int _ _)|exact SR.stuck
 |slice e=>cases hs<;>first|exact SR.pure (.int _ _)|exact SR.stuck
 |_=>cases hs<;>exact SR.stuck
theorem SR.clear (hz:bc P) (ts:Array TypeId) (t:TypeId) (h:AR S p xs cD):SR P F S K N (QV S) (Builtin.clear_ ts t xs) (Builtin.clear_ ts t cD) p:=by
 unfold Builtin.clear_;cases h0:ts[0]? with
 |none=>cases xs[0]? <;>exact SR.stuck
 |some dT=>
 cases h1:xs[0]? with
 |none=>exact SR.stuck
 |some s=>
 obtain⟨s',Dg,hs⟩:=h.get h1;rw[Dg];simp only;refine SR.ci fun u hu=>?_;have hv:∀q,VR S q (.tuple #[]) (.tuple #[]):=fun q=>VR.plain 2 _ (by simp[plain])
 have Yy:∀r r',p r r'->SR P F S K N (QV S)
  (Go.getObj r>>=fun o=>match o with|.map _ c=>Go.setObj r (.map #[] c)>>=fun _=>Pure.pure (.tuple #[])|_=>Go.stuck "clear: map expected" >>=fun(_:PUnit)=>Pure.pure (.tuple #[]))
  (Go.getObj r'>>=fun o=>match o with|.map _ c=>Go.setObj r' (.map #[] c)>>=fun _=>Pure.pure (.tuple #[])|_=>Go.stuck "clear: map expected" >>=fun(_:PUnit)=>Pure.pure (.tuple #[])) p:=by
  intro r r' g;refine(SR.getObj g).bind fun q o o' hq ho=>?_;cases ho with
  |map c h g2=>exact(SR.setObj (hq _ _ g) (.map c rfl fun i e e' h=>by simp at h) fun _ _ _ _ _ _ _ a=>by cases a).av fun q2 _ cw=>SR.pure (hv q2)
  |_=>exact SR.stuck
 have rr:∀(e:TypeId) (a a':Addr) (n:Nat),hU p a a'->SR P F S K N (QV S)
  (Go.zeroValue e>>=fun z=>Go.storeCells a (Builtin.zeroCells z.cells n).toList>>=fun _=>Pure.pure (.tuple #[]))
  (Go.zeroValue e>>=fun z=>Go.storeCells a' (Builtin.zeroCells z.cells n).toList>>=fun _=>Pure.pure (.tuple #[])) p:=by
  intro e a a' n ha;refine(SR.zeroValue hz e).bind fun q z z' hq Au=>?_;obtain⟨rfl,Pj⟩:=Au;exact(SR.fp (ha.mono hq) (mm Pj.cells n)).av fun q2 _ cw=>SR.pure (hv q2)
 cases hs with
 |tv=>cases u<;>exact SR.pure (hv p)
 |cU l c=>cases u<;>exact SR.pure (hv p)
 |dy _ a a'=>cases u<;>exact SR.pure (hv p)
 |eR=>cases u<;>exact SR.pure (hv p)
 | @cV r r' k o l c hl g h0 hx=>
   cases l with
   |zero=>cases u<;>exact SR.pure (hv p)
   |succ l=>cases u<;>first|exact SR.stuck|exact rr _ ⟨_,o,none⟩ ⟨_,o,none⟩ _ ⟨g,rfl,rfl⟩
 |map g=>cases u<;>exact Yy _ _ g
 |slice o sp l c g _=>
  cases l with
  |zero=>cases u<;>exact SR.pure (hv p)
  |succ l=>cases u<;>first|exact SR.stuck|exact rr _ ⟨_,o,sp⟩ ⟨_,o,sp⟩ _ ⟨g,rfl,rfl⟩
 |_=>cases u<;>exact SR.stuck
theorem SR.max2 (hx:VR S p x x') (hy:VR S p y y'):SR P F S K N (QV S) (Builtin.max2 x y) (Builtin.max2 x' y') p:=by
 cases hx<;>cases hy<;>first|exact SR.stuck|exact SR.unsupported|exact SR.pure (.int _ _)|skip
 rename_i s1 s2;refine SR.bind (Q:=QV S) (SR.stringOp .geq s1 s2) fun q v v' hq hv=>?_;exact(SR.asBool hv).av fun q2 b cw=>SR.pure (.string _)
theorem SR.min2 (hx:VR S p x x') (hy:VR S p y y'):SR P F S K N (QV S) (Builtin.min2 x y) (Builtin.min2 x' y') p:=by
 cases hx<;>cases hy<;>first|exact SR.stuck|exact SR.unsupported|exact SR.pure (.int _ _)|skip
 rename_i s1 s2;refine SR.bind (Q:=QV S) (SR.stringOp .leq s1 s2) fun q v v' hq hv=>?_;exact(SR.asBool hv).av fun q2 b cw=>SR.pure (.string _)
theorem SR.Hf (f:Value->Value->Sem Value) (hf:∀{p:Pi} {x x' y y':Value},VR S p x x'->VR S p y y'->SR P F S K N (QV S) (f x y) (f x' y') p):∀(l l':List Value) {p:Pi} {x x':Value},l.length=l'.length->(∀(i:Nat) v v',l[i]?=some v->l'[i]?=some v'->VR S p v v')->VR S p x x'->
 SR P F S K N (QV S) (l.foldlM f x) (l'.foldlM f x') p
 | [],[],_,_,_,_,_,hx=>SR.pure hx
 | [],_::_,_,_,_,h,_,_=>by cases h
 |_::_,[],_,_,_,h,_,_=>by cases h
 |v::l,v'::l',p,x,x',h,g,hx=>by
  simp only[List.foldlM_cons];exact(hf hx (g 0 v v' rfl rfl)).bind fun q y y' hq hy=>SR.Hf f hf l l' (by simpa using h) (fun i a b h1 h2=>(g (i+1) a b h1 h2).mono hq) hy
theorem SR.max (ts:Array TypeId) (t:TypeId) (h:AR S p xs cD):SR P F S K N (QV S) (Builtin.max_ ts t xs) (Builtin.max_ ts t cD) p:=by
 unfold Builtin.max_;have hl:xs.toList.length=cD.toList.length:=by simpa using h.1
 have hg:∀(i:Nat) v v',xs.toList[i]?=some v->cD.toList[i]?=some v'->VR S p v v':=fun i v v' a b=>h.2 i v v' (by simpa using a) (by simpa using b);revert hl hg;generalize xs.toList=l;generalize cD.toList=l';intro hl hg;cases l<;>cases l'<;>first|(cases hl;done)|exact SR.stuck|skip
 exact SR.Hf _ SR.max2 _ _ (by simpa using hl) (fun i a b h1 h2=>hg (i+1) a b h1 h2) (hg 0 _ _ rfl rfl)
theorem SR.min (ts:Array TypeId) (t:TypeId) (h:AR S p xs cD):SR P F S K N (QV S) (Builtin.min_ ts t xs) (Builtin.min_ ts t cD) p:=by
 unfold Builtin.min_;have hl:xs.toList.length=cD.toList.length:=by simpa using h.1
 have hg:∀(i:Nat) v v',xs.toList[i]?=some v->cD.toList[i]?=some v'->VR S p v v':=fun i v v' a b=>h.2 i v v' (by simpa using a) (by simpa using b);revert hl hg;generalize xs.toList=l;generalize cD.toList=l';intro hl hg;cases l<;>cases l'<;>first|(cases hl;done)|exact SR.stuck|skip
 exact SR.Hf _ SR.min2 _ _ (by simpa using hl) (fun i a b h1 h2=>hg (i+1) a b h1 h2) (hg 0 _ _ rfl rfl)
def oS (P:Program) (s d:TypeId):Bool:=match P.underlying s,P.underlying d with
 |some (.int _),some (.int _)=>true
 |some .string,some (.slice e)=>(match P.underlying e with|some (.int .u8)=>true|_=>false)
 |some .string,some .string=>true
 |some (.slice e),some .string=>(match P.underlying e with|some (.int .u8)=>true|_=>false)
 |_,_=>false
def kL (c:Value) (s:ByteArray):Sem (ForInStep ByteArray):=match c with
 |.int .u8 n=>Pure.pure (.yield (s.push (UInt8.ofNat n.toNat)))
 |_=>Go.stuck "bytesToString: byte expected"
theorem SR.Hg:∀{l l':List Value} {p:Pi} (s:ByteArray),l.length=l'.length->(∀(i:Nat) v v',l[i]?=some v->l'[i]?=some v'->VR S p v v')->SR P F S K N (QE ByteArray) (forIn l s kL) (forIn l' s kL) p
 | [],[],_,s,_,_=>SR.pure rfl
 | [],_::_,_,_,h,_=>by cases h
 |_::_,[],_,_,h,_=>by cases h
 |c::l,c'::l',p,s,h,g=>by
  simp only[List.forIn_cons];have hc:=g 0 c c' rfl rfl;have rest:∀q s,Le p q->SR P F S K N (QE ByteArray) (forIn l s kL) (forIn l' s kL) q:=fun q s hq=>SR.Hg s (by simpa using h) fun i v v' a b=>(g (i+1) v v' a b).mono hq;cases hc<;>first|exact SR.stuck|skip
  rename_i k n;cases k<;>first|exact SR.stuck|exact rest p _ (Le.refl _)
theorem SR.bytesToString (hx:VR S p x x'):SR P F S K N (QV S) (Conv.bytesToString x) (Conv.bytesToString x') p:=by
 have e:∀(a:Addr) (n c:Nat),Conv.bytesToString (.slice (some a) n c)=(Go.loadCells a n>>=fun cs=>forIn cs.toList ByteArray.empty kL>>=fun s=>Pure.pure (Value.string s)):=by
  intro a n c;unfold Conv.bytesToString kL;simp only[Array.forIn_toList];rfl
 have key:∀{q:Pi} {cs jH:Array Value},AR S q cs jH->SR P F S K N (QV S) (forIn cs.toList ByteArray.empty kL>>=fun s=>Pure.pure (Value.string s)) (forIn jH.toList ByteArray.empty kL>>=fun s=>Pure.pure (Value.string s)) q:=fun{q cs jH} h=>
  (SR.Hg _ (by simpa using h.1) fun i v v' a b=>h.2 i v v' (by simpa using a) (by simpa using b)).av fun q2 s hq=>SR.pure (.string s)
 cases hx<;>first|exact SR.stuck|exact SR.pure (.string _)|skip
 .rename_i r r' o sp l c h _;rw[e,e];exact(SR.loadCells (a:=⟨r,o,sp⟩) (a':=⟨r',o,sp⟩) ⟨h,rfl,rfl⟩ l).bind fun q cs jH hq oK=>key oK
 .rename_i r r' k o l c hl h h0 hx;rw[e,e];exact(SR.loadCells (a:=⟨r,o,none⟩) (a':=⟨r',o,none⟩) ⟨h,rfl,rfl⟩ l).bind fun q cs jH hq oK=>key oK
theorem SR.stringToBytes (e:TypeId) (s:ByteArray):SR P F S K N (QV S) (Conv.stringToBytes e s) (Conv.stringToBytes e s) p:=by
 unfold Conv.stringToBytes;refine(SR.choose _).av fun q c hq=>?_;refine(SR.newRow e ((AR.map _ _ _ fun x _=>.int _ _).append (AR.replicate _ (.int _ _)))).bind fun q2 a a' cw ha=>?_;refine SR.bind (Q:=QE Unit) ?_ fun q3 _ _ gv _=>SR.pure ((ha.1.mono gv).sl (fun _ k hk=>ha.2.2 k (gv.xr _ _ _ ha.1.1 hk)) _ _);unfold Go.markStringish;refine(SR.shape ha.1.1).av fun q3 x gv=>?_;cases x with
 |none=>exact SR.pure rfl
 |some x=>
  obtain⟨e,n⟩:=x;exact fun hp=>.inr ⟨_,_,rfl,⟨gv _ _ ha.1.1,rfl,rfl⟩,ha.2.1,rfl⟩
theorem SR.convert (s d:TypeId) (ho:oS P s d=true) (hx:VR S p x x'):SR P F S K N (QV S) (Go.convert s d x) (Go.convert s d x') p:=by
 unfold Go.convert;refine SR.ci fun u hu=>SR.ci fun v hv=>?_;simp only[oS,hu,hv]at ho;cases u<;>first|(cases ho;done)|skip
 .cases v<;>first|(cases ho;done)|skip
  cases hx<;>first|exact SR.stuck|exact SR.pure (.int _ _)|exact SR.unsupported
 .cases v<;>first|(cases ho;done)|skip
  .cases hx<;>first|exact SR.stuck|exact SR.unsupported|exact SR.pure (.string _)
  .rename_i e;cases hx<;>first|exact SR.stuck|exact SR.unsupported|skip
   refine SR.ci fun w hw=>?_;simp only[hw]at ho;cases w<;>first|(cases ho;done)|skip
   rename_i k;cases k<;>first|(cases ho;done)|exact SR.stringToBytes _ _
 .cases v<;>first|(cases ho;done)|skip
  rename_i e
  have rest:∀{y y':Value},VR S p y y'->SR P F S K N (QV S) (Go.underlying e>>=fun w=>match w with|.int .u8=>Conv.bytesToString y|.int .i32=>Conv.runesToString y|_=>Go.stuck "Convert: a slice of what to string?")
   (Go.underlying e>>=fun w=>match w with|.int .u8=>Conv.bytesToString y'|.int .i32=>Conv.runesToString y'|_=>Go.stuck "Convert: a slice of what to string?") p:=fun{y y'} hy=>by
   refine SR.ci fun w hw=>?_;simp only[hw]at ho;cases w<;>first|(cases ho;done)|skip
   rename_i k;cases k<;>first|(cases ho;done)|exact SR.bytesToString hy
  have xz:=hx;cases hx<;>first|exact rest xz|exact SR.pure (.string _)|skip
  .rename_i _ hj hv;cases x'<;>first|(cases hv;done)|exact rest xz
inductive NX (S:Nat->Bool) (K:Kz) (p:Pi):Next->Next->Prop
 |value {v v':Value} (h:VR S p v v'):NX S K p (.value v) (.value v')
 |skip:NX S K p .skip .skip
 |enter {f:Nat} {xs cD:Array Value} (hf:S f=true) (h:AR S p xs cD):NX S K p (.enter f xs) (.enter f cD)
 |round {l l' f:Nat} {xs cD:Array Value} {a b:Code} (hl:p l l') (hf:S f=true) (h:AR S p xs cD) (ha:K a) (hb:K b) (hz:K (.label (100000+f))):NX S K p (.round l f xs a b) (.round l' f cD a b)
abbrev QX (S:Nat->Bool) (K:Kz):Pi->Next->Next->Prop:=fun q a b=>NX S K q a b
def oT (P:Program) (F:Array Func) (S:Nat->Bool):Prop:=(S JK=true->P.info? 1000000=none)/\∀f,S f=true->(P.funcs[f]?=none/\F[f]?=none)\/
 ∃fn kE,P.funcs[f]? =some fn/\F[f]? =some kE/\fn.body.isSome=true/\kE.body.isSome=true/\fn.name≠ "runtime.NumGoroutine" /\kE.name≠ "runtime.NumGoroutine"
theorem ud (h:P.info? 1000000=none):az P (Go.typeInfo 1000000):=by
 unfold Go.typeInfo;refine az.WO (k:=fun P=>match P.info? 1000000 with|some i=>Pure.pure i|none=>Go.stuck "no such type") ?_;rw[h];exact az.stuck _
theorem tC (n:String) (h:ys[0]?=some v):invoke (.fn (.method n) #[]) ys=callMethod v n (ys.extract 1 ys.size):=by
 show(match ys[0]? with|some recv=>callMethod recv n (ys.extract 1)|_=>Go.stuck "call: a method without a receiver")=_;rw[h]
theorem ue (xs:Array Value):(Deferred.ofValue MF xs>>=fun d=>invoke d.target d.args)=callMethod (.iface 1000000 .nilIface) "" ((#[Value.iface 1000000 .nilIface]++xs).extract 1 (#[Value.iface 1000000 .nilIface]++xs).size):=by
 show invoke (.fn (.method "") #[]) (#[.iface 1000000 .nilIface]++xs)=_;exact tC (v:=.iface 1000000 .nilIface) "" (by simp[Array.getElem?_append])
theorem Li (h:P.info? 1000000=none) (xs:Array Value):az P (Deferred.ofValue MF xs>>=fun d=>invoke d.target d.args):=by
 rw[ue];unfold callMethod;refine az.WO (k:=fun P=>Sem.bind (method (P.types.size+Made.depth) 1000000 .nilIface "") _) ?_;refine az.bind ?_ _;show az P (method ((P.types.size+99)+1) 1000000 .nilIface "");unfold method;exact az.bind (ud h) _
theorem Pk (h:P.info? 1000000=none) (f:Option Bool->Sem α):az P (Go.program>>=fun q=>nilAhead (q.types.size+Made.depth) 1000000 .nilIface "" >>=f):=by
 refine az.WO (k:=fun P=>Sem.bind (nilAhead (P.types.size+Made.depth) 1000000 .nilIface "") _) ?_;refine az.bind ?_ _;show az P (nilAhead ((P.types.size+99)+1) 1000000 .nilIface "");unfold nilAhead;exact az.bind (ud h) _
theorem SR.callFunc (hb:oT P F S) {f:Nat} (hf:S f=true) (h:AR S p xs cD):SR P F S K N (QX S K) (Go.callFunc f xs) (Go.callFunc f cD) p:=by
 unfold Go.callFunc;refine SR.nv ?_
 have key:∀fn:Func,fn.body.isSome=true->fn.name≠ "runtime.NumGoroutine" ->fn.body.isNone=false/\(fn.name== "runtime.NumGoroutine")=false:=fun fn h2 h3=>
  ⟨by cases hx:fn.body<;>simp[hx]at h2⊢,by simpa using h3⟩
 rcases hb.2 f hf with⟨h1,h2⟩|⟨fn,kE,h1,h2,h3,h4,h5,h6⟩
 .rw[h1];exact SR.stuck
 .have uc:(ac P F).funcs[f]?=some kE:=h2;rw[h1,uc];simp only[key fn h3 h5,key kE h4 h6,Bool.false_eq_true,if_false];exact SR.pure (.enter hf h)
theorem Lj (ps:Array Nat) {as bs:Array Value} (h:AR S p xs ys) (k:AR S p as bs):AR S p ((ps.zip xs).foldl (fun ts (t,a)=>ts.setIfInBounds t a) as) ((ps.zip ys).foldl (fun ts (t,a)=>ts.setIfInBounds t a) bs):=by
 rw[<-Array.foldl_toList,<-Array.foldl_toList,Array.toList_zip,Array.toList_zip];have hx:∀(i:Nat) v v',xs.toList[i]?=some v->ys.toList[i]?=some v'->VR S p v v':=fun i v v' a b=>h.2 i v v' (by simpa using a) (by simpa using b);have hl:xs.toList.length=ys.toList.length:=by simpa using h.1
 revert hx hl;generalize xs.toList=l;generalize ys.toList=l';generalize ps.toList=m;intro hx hl;clear h;induction m generalizing l l' as bs with
 |nil=>exact k
 |cons t m ih=>
  cases l<;>cases l'<;>first|(cases hl;done)|skip
  .exact k
  .rename_i v l v' l';simp only[List.zip_cons_cons,List.foldl_cons];exact ih (k.set t (hx 0 v v' rfl rfl)) l l' (fun i a b h1 h2=>hx (i+1) a b h1 h2) (by simpa using hl)
theorem SR.yield (hl:p l l') (h:AR S p xs cD):SR P F S K N (QX S K) (Instr.yield l xs) (Instr.yield l' cD) p:=by
 unfold Instr.yield Instr.getLoop;refine SR.bind (Q:=fun q (a b:Loop)=>OR S K q (.loop a) (.loop b)) ?_ fun q r r' hq hr=>?_
 .refine(SR.getObj hl).bind fun q o o' hq ho=>?_;have Yz:=ho;cases ho with
  |loop h1 h2 h3 h4 h5 h6 h7 h8 k1 k2 k3 k4 k5=>exact SR.pure Yz
  |_=>exact SR.stuck
 .cases hr with
  |loop h1 h2 h3 h4 h5 h6 h7 h8 k1 k2 k3 k4 k5=>
   have h:=h.mono hq;rw[<-h.1,<-h5,<-h3,<-h6,<-h7];dsimp only;refine SR.ite (fun _=>SR.stuck) fun _=>?_;exact SR.pure (.round (hq _ _ hl) k1 (Lj r.params h h4) k2 k3 k5)
def gJ (P:Program) (S:Nat->Bool):Operand->Bool
 |.tmp _=>true
 |.const v=>plain 50 v
 |.global g=>decide (g<P.globals.size)&&S (P.funcs.size+g)
 |.func f=>S f
def rt (P:Program) (S:Nat->Bool) (c:Call):Bool:=
 match c.callee with
 |.builtin .append=>ub P c.argTypes
 |.builtin .len=>He P c.argTypes
 |.builtin .copy|.builtin .clear|.builtin .max|.builtin .min=>true
 |.value f=>gJ P S f
 |_=>false
def nE (P:Program) (S:Nat->Bool) (o:Op):Bool:=
 o.operands.all (gJ P S)&&match o with
 |.nilCheck _|.move _|.assign _|.pick _ _ _|.alloc _|.box _ _|.build _ _|.buildSlice _ _ _|.load _ _|.store _ _ _|.unOp _ _ _|.makeSlice _ _ _|.slice _ _ _ _ _|.field _ _ _|.indexAddr _ _ _|.index _ _ _|.extract _ _=>true
 |.makeMap _ none=>true
 |.binOp op t _ _ _=>mh P op t
 |.convert s d _=>oS P s d
 |.makeFunc (.func f) _ _=>S f
 |.fieldAddr t _ f=>match P.underlying t with
  |some (.struct fs)=>(match fs[f]? with|some g=>(match P.info? g.type with|some i=>i.size !=0|none=>true)|none=>true)
  |_=>true
 |.lookup t _ _ _=>ua P t
 |.mapUpdate t _ _ _=>ua P t&&(!S JK||fD P t||EK P t)
 |.call c=>rt P S c
 |_=>false
def fE (S:Nat->Bool) (o:Op):Bool:=
 match o with
 |.call c=>(match c.callee with|.value (.func f)=>S (JK+1+f)|_=>false)&&c.args.isEmpty
 |_=>false
def oU:Value->Bool
 |.slice (some a) _ _=>a.spot.isNone
 |_=>true
theorem uf (h:oU v=true) (e:v=.slice (some a) l c):a.spot=none:=by
 subst e;simpa [oU]using h
def vI (P:Program) (r:Operand->Value):Op->Prop
 |.mapUpdate t _ k _=>fD P t=false->rn (nD P t) (r k)
 |_=>True
def kg (r:Operand->Value):Op->Bool
 |.call ⟨.builtin _,as,_⟩=>match as[0]? with|some x=>oU (r x)|none=>true
 |.slice _ x _ _ _=>oU (r x)
 |_=>true
def NJ:Op->Bool
 |.slice _ _ _ _ _=>false
 |_=>true
structure qs (P:Program) (S:Nat->Bool) (p:Pi) (r r':Operand->Value):Prop where
 tmp:∀t,VR S p (r (.tmp t)) (r' (.tmp t))
 const:∀v,r (.const v)=v/\r' (.const v)=v
 global:∀g,g<P.globals.size->S (P.funcs.size+g)=true->VR S p (r (.global g)) (r' (.global g))
 func:∀f,r (.func f)=.func (.func f) #[] #[]/\r' (.func f)=.func (.func f) #[] #[]
theorem qs.at (h:qs P S p r r') {x:Operand} (hx:gJ P S x=true):VR S p (r x) (r' x):=by
 cases x with
 |tmp t=>exact h.tmp t
 |const v=>rw[(h.const v).1,(h.const v).2];exact VR.plain 50 v hx
 |global g=>
  simp only[gJ,Bool.and_eq_true,decide_eq_true_eq]at hx;exact h.global g hx.1 hx.2
 |func f=>
  rw[(h.func f).1,(h.func f).2];exact .func hx rfl rfl (fun i v v' e=>by simp at e) (fun i v v' e=>by simp at e)
theorem qs.many (h:qs P S p r r') {xs:Array Operand} (hx:∀x∈xs,gJ P S x=true):AR S p (xs.map r) (xs.map r'):=AR.map xs r r' fun x m=>h.at (hx x m)
theorem qs.opt (h:qs P S p r r') {x:Option Operand} (hx:∀y,x=some y->gJ P S y=true):OV S p (x.map r) (x.map r'):=by
 cases x with
 |none=>trivial
 |some y=>exact h.at (hx y rfl)
theorem SR.cH {s s':Sem Value} (h:SR P F S K N (QV S) s s' p):SR P F S K N (QX S K) (s>>=fun v=>Pure.pure (.value v)) (s'>>=fun v=>Pure.pure (.value v)) p:=h.bind fun q v v' hq hv=>SR.pure (.value hv)
theorem SR.Hh {s s':Sem Unit} (h:SR P F S K N (QE Unit) s s' p):SR P F S K N (QX S K) (s>>=fun _=>Pure.pure .skip) (s'>>=fun _=>Pure.pure .skip) p:=h.av fun q v hq=>SR.pure .skip
theorem SR.kM (hb:oT P F S) {f f':Value} (hf:VR S p f f') (h:AR S p xs cD):
 SR P F S K N (QX S K) (Deferred.ofValue f xs>>=fun d=>invoke d.target d.args) (Deferred.ofValue f' cD>>=fun d=>invoke d.target d.args) p:=by
 cases hf<;>first|exact SR.stuck|skip
 .rename_i f fs YA cs jH hS h1 h2 g1 g2;have a1:AR S p fs YA:=⟨h1,g1⟩
  have a2:AR S p cs jH:=⟨h2,g2⟩
  exact SR.callFunc hb hS ((a1.append h).append a2)
 .rename_i l l' hl;show SR P F S K N (QX S K) (Instr.yield l (#[]++xs)) (Instr.yield l' (#[]++cD)) p;rw[Array.empty_append,Array.empty_append];exact SR.yield hl h
 .exact SR.nilDeref
 .rename_i hl hj n as bs;exact SR.jJ (.inr ⟨hl,Li (hb.1 hj) xs⟩) (by rw[ue];rfl)
end
end Go.aq
