/- A part. Conditions: none. -/
import Derived.Test.YthmokljbbkcjdaaGreatDoorT00
import Derived.Laws.Sem
set_option linter.all false
namespace Go.aC
variable {Af ps:Array (Nat×Value)} {a a':Addr} {aT xs ys z z':Array Value} {b':Option Addr} {c l m n r r':Nat} {eO w1:World} {es:Array Event} {f f':Frame} {hi lo mD mx nM oz:Option Value} {i i' k k' v v' x x' y y':Value} {l':List Item} {s':GStep} {t:TypeId} {α β:Type}
section
variable {P:Program} {F:Array Func} {S:Nat->Bool} {K:Code->Prop} {N:Nat} {p:Pi}
theorem SR.mC (f:α->Sem β) (h:∀x q,SR P F S K N (QE β) (f x) (f x) q) (xs:Array α):SR P F S K N (QE (Array β)) (xs.mapM f) (xs.mapM f) p:=by
 rw[Array.mapM_eq_foldlM,<-Array.foldlM_toList];generalize xs.toList=l;generalize(#[]:Array β)=acc;induction l generalizing acc p with
 |nil=>exact SR.pure rfl
 |cons x l ih=>
  simp only[List.foldlM_cons];refine SR.ac (α:=Array β) ?_ fun q a hq=>ih a;exact(h x p).ac fun q b hq=>SR.pure rfl
inductive PL (S:Nat->Bool) (p:Pi):List (Nat×Value)->List (Nat×Value)->Prop
 |nil:PL S p [] []
 |cons {i:Nat} {v v':Value} {l l':List (Nat×Value)} (h:VR S p v v') (t:PL S p l l'):PL S p ((i,v)::l) ((i,v')::l')
theorem PL.mono {q:Pi} (h:Le p q) {l l':List (Nat×Value)} (x:PL S p l l'):PL S q l l':=by
 induction x with
 |nil=>exact .nil
 |cons g _ ih=>exact .cons (g.mono h) ih
theorem PL.map (l:List (Nat×Operand)) (f g:Operand->Value) (h:∀x∈l,VR S p (f x.2) (g x.2)):PL S p (l.map fun(i,x)=>(i,f x)) (l.map fun(i,x)=>(i,g x)):=by
 induction l with
 |nil=>exact .nil
 |cons x l ih=>exact .cons (h x (by simp)) (ih fun y hy=>h y (by simp[hy]))
theorem wF (h:AR S p xs ys) {cs fQ:List (Value×Nat)} (off:Nat) (hc:∀(j:Nat) a b,cs[j]?=some a->fQ[j]?=some b->VR S p a.1 b.1/\a.2=b.2) (hl:cs.length=fQ.length):
 AR S p (cs.foldl (fun acc (c,j)=>acc.setIfInBounds (off+j) c) xs) (fQ.foldl (fun acc (c,j)=>acc.setIfInBounds (off+j) c) ys):=by
 induction cs generalizing fQ xs ys with
 |nil=>cases fQ with
  |nil=>exact h
  |cons=>cases hl
 |cons c cs ih=>cases fQ with
  |nil=>cases hl
  |cons c' fQ=>
   have h0:=hc 0 c c' rfl rfl;simp only[List.foldl_cons];rw[h0.2];exact ih (h.set _ h0.1) (fun j a b h1 h2=>hc (j+1) a b h1 h2) (by simpa using hl)
theorem f7 (place:Nat->Option (Nat×Nat)):∀{l l':List (Nat×Value)} {xs ys:Array Value},PL S p l l'->AR S p xs ys->
 (Instr.fill place xs l=none/\Instr.fill place ys l'=none)\/∃a b,Instr.fill place xs l=some a/\Instr.fill place ys l'=some b/\AR S p a b:=by
 intro l l' xs ys hl;induction hl generalizing xs ys with
 |nil=>intro h;exact .inr ⟨_,_,rfl,rfl,h⟩
 | @cons i v v' l l' hv _ ih=>
   intro h;simp only[Instr.fill];cases place i with
   |none=>exact .inl ⟨rfl,rfl⟩
   |some x=>
    obtain⟨off,size⟩:=x;simp only;have hc:=hv.cells;rw[<-hc.1,<-h.1];split
    .exact .inl ⟨rfl,rfl⟩
    .refine ih ?_;rw[<-Array.foldl_toList,<-Array.foldl_toList];refine wF h off (fun j a b h1 h2=>?_) (by simp[hc.1]);simp only[Array.getElem?_toList,Array.getElem?_zipIdx]at h1 h2;cases hx:v.cells[j]? with
     |none=>rw[hx]at h1;cases h1
     |some u=>
      obtain⟨u',JS,hr⟩:=hc.get hx;rw[hx]at h1;rw[JS]at h2;simp only[Option.map_some,Option.some.injEq]at h1 h2;subst h1;subst h2;exact⟨hr,rfl⟩
theorem SR.box (e:TypeId) (h:VR S p v v'):SR P F S K N (QV S) (Instr.box e v) (Instr.box e v') p:=
 (SR.newVar e h).bind fun q a a' hq ha=>SR.pure ha.1.ptr
theorem SR.alloc (hz:az P) (e:TypeId):SR P F S K N (QV S) (Instr.alloc e true (.tuple #[])) (Instr.alloc e true (.tuple #[])) p:=by
 unfold Instr.alloc;refine(SR.zeroValue hz e).bind fun q z z' hq kI=>?_;obtain⟨rfl,hv⟩:=kI;exact(SR.newVar e hv).bind fun q a a' hq ha=>SR.pure ha.1.ptr
theorem SR.build (hz:az P) (t:TypeId) (h:PL S p ps.toList Af.toList):SR P F S K N (QV S) (Instr.build t ps) (Instr.build t Af) p:=by
 unfold Instr.build;refine(SR.zeroValue hz t).bind fun q z z' hq kI=>?_;obtain⟨rfl,hv⟩:=kI;have h:=h.mono hq;refine SR.aP fun d hd=>?_;cases d with
 |struct fields=>
  refine SR.ac (α:=Array (Nat×Nat)) (SR.mC _ (fun f q=>(SR.sizeOf f.type).ac fun q n hq=>SR.pure rfl) fields) fun q places hq=>?_;rcases f7 (fun i=>places[i]?) (h.mono hq) (hv.mono hq).cells with⟨e1,e2⟩|⟨a,b,e1,e2,iK⟩
  .simp only[e1];exact SR.stuck
  .simp only[e1,e2];exact SR.pure iK.agg
 |array n e=>
  refine(SR.sizeOf e).ac fun q size hq=>?_;rcases f7 (fun i=>some (i*size,size)) (h.mono hq) (hv.mono hq).cells with⟨e1,e2⟩|⟨a,b,e1,e2,iK⟩
  .simp only[e1];exact SR.stuck
  .simp only[e1,e2];exact SR.pure iK.agg
 |_=>exact SR.stuck
theorem fR (h:AR S p z z') (n:Nat):AR S p ((Array.range n).map (fun i=>z[i%z.size]!)) ((Array.range n).map (fun i=>z'[i%z'.size]!)):=by
 refine AR.ofFn n _ _ fun i=>?_;rw[<-h.1];simp only[getElem!_def];cases hx:z[i%z.size]? with
 |none=>rw[h.none hx];exact VR.plain 1 _ (by simp[plain,default,instInhabitedValue.default])
 |some v=>obtain⟨v',iJ,hr⟩:=h.get hx;rw[iJ];exact hr
theorem SR.buildSlice (hz:az P) (t:TypeId) (len:Nat) (h:PL S p ps.toList Af.toList):SR P F S K N (QV S) (Instr.buildSlice t len ps) (Instr.buildSlice t len Af) p:=by
 unfold Instr.buildSlice;refine SR.aP fun d hd=>?_;cases d with
 |slice e=>
  simp only;refine(SR.sizeOf e).ac fun q size hq=>?_;have h:=h.mono hq;split
  .exact SR.unsupported
  .have key:∀(q':Pi) (z z':Array Value),Le q q'->AR S q' z z'->SR P F S K N (QV S)
    (match Instr.fill (fun i=>some (i*size,size)) ((Array.range (len*size)).map (z[·%z.size]!)) ps.toList with
      |some cells=>(Go.newRow e cells>>=fun a=>Pure.pure (Value.slice (some a) len len))
      |_=>Go.stuck "buildSlice: a part of the wrong size")
    (match Instr.fill (fun i=>some (i*size,size)) ((Array.range (len*size)).map (z'[·%z'.size]!)) Af.toList with
      |some cells=>(Go.newRow e cells>>=fun a=>Pure.pure (Value.slice (some a) len len))
      |_=>Go.stuck "buildSlice: a part of the wrong size") q':=by
    intro q' z z' nf kI;rcases f7 (fun i=>some (i*size,size)) (h.mono nf) (fR kI (len*size))with⟨e1,e2⟩|⟨a,b,e1,e2,iK⟩
    .simp only[e1];exact SR.stuck
    .simp only[e1,e2];exact(SR.newRow e iK).bind fun q a a' hq ha=>SR.pure (ha.1.sl len len)
   split
   .exact key q #[] #[] (Le.refl _) AR.empty
   .refine(SR.zeroValue hz e).bind fun q2 z z' bd kI=>?_;obtain⟨rfl,hv⟩:=kI;exact key q2 _ _ bd hv.cells
 |_=>exact SR.stuck
theorem SR.loadAt (t:TypeId) (h:VR S p v v'):SR P F S K N (QV S) (Instr.loadAt t v) (Instr.loadAt t v') p:=
 (SR.sureAddr h).bind fun q a a' hq ha=>SR.loadVar t ha
theorem SR.storeAt (t:TypeId) (h:VR S p v v') (hx:VR S p x x'):SR P F S K N (QE Unit) (Instr.storeAt t v x) (Instr.storeAt t v' x') p:=
 (SR.sureAddr h).bind fun q a a' hq ha=>SR.storeVar t ha (hx.mono hq)
theorem SR.fieldAt (s:TypeId) (f:Nat) (hf:∀fs g i,P.underlying s=some (.struct fs)->fs[f]?=some g->P.info? g.type=some i->i.size≠0) (h:VR S p v v'):
 SR P F S K N (QV S) (Instr.fieldAt s v f) (Instr.fieldAt s v' f) p:=by
 unfold Instr.fieldAt;refine SR.aP fun d hd=>?_;cases d with
 |struct fields=>
  simp only;cases hg:fields[f]? with
  |none=>exact SR.stuck
  |some g=>
   simp only;refine(SR.sureAddr h).bind fun q a a' hq ha=>?_;unfold Go.fieldPlace Go.sizeOf;refine SR.bind (Q:=QD) ?_ fun q b b' hq hb=>SR.pure hb.ptr;show SR P F S K N QD ((Go.typeInfo g.type>>=fun i=>Pure.pure i.size)>>=_) ((Go.typeInfo g.type>>=fun i=>Pure.pure i.size)>>=_) q;refine SR.bind (Q:=fun _ (a b:Nat)=>a=b/\a≠0) (SR.fM fun i hi=>SR.pure ⟨rfl,hf fields g i hd hg hi⟩) fun q n n' hq hn=>?_;obtain⟨rfl,hn⟩:=hn;simp only[hn,if_false];exact SR.pure ((ha.mono hq).add _)
 |_=>exact SR.stuck
theorem SR.field (t:TypeId) (f:Nat) (h:VR S p v v'):SR P F S K N (QV S) (Instr.field t v f) (Instr.field t v' f) p:=by
 unfold Instr.field;refine SR.aP fun d hd=>?_;cases d with
 |struct fields=>
  simp only;cases hg:fields[f]? with
  |none=>exact SR.stuck
  |some g=>exact(SR.asAgg h).bind fun q a a' hq ha=>SR.part _ ha _
 |_=>exact SR.stuck
theorem SR.index (t:TypeId) (h:VR S p v v') (hi:VR S p i i'):SR P F S K N (QV S) (Instr.index t v i) (Instr.index t v' i') p:=by
 unfold Instr.index;refine(SR.asIntOf hi).ac fun q ki hq=>?_;obtain⟨k,n⟩:=ki;have h:=h.mono hq;refine SR.aP fun d hd=>?_;cases d with
 |array len elem=>
  cases h with
  |agg hx gx=>
   simp only;split
   .exact(SR.sizeOf elem).ac fun q m hq=>SR.part elem (AR.mono hq ⟨hx,gx⟩) _
   .exact SR.boundsPanic _ _ _ _
  |_=>exact SR.stuck
 |string=>
  cases h with
  |string s=>
   simp only;split
   .exact SR.pure (.int _ _)
   .exact SR.boundsPanic _ _ _ _
  |_=>exact SR.stuck
 |_=>cases h<;>exact SR.stuck
theorem SR.sliceBound (x x':Value) (h:VR S p x x') (y:Nat) (c:BoundsCode):SR P F S K N (QE Nat) (Instr.sliceBound x y c) (Instr.sliceBound x' y c) p:=by
 unfold Instr.sliceBound;refine(SR.asIntOf h).ac fun q ki hq=>?_;obtain⟨k,n⟩:=ki;simp only;split
 .exact SR.pure rfl
 .exact SR.boundsPanic _ _ _ _
def OV (S:Nat->Bool) (p:Pi):Option Value->Option Value->Prop
 |none,none=>True
 |some v,some v'=>VR S p v v'
 |_,_=>False
theorem OV.mono {q:Pi} (h:Le p q) {a b:Option Value} (x:OV S p a b):OV S q a b:=by
 cases a<;>cases b<;>first|trivial|exact x.elim|exact VR.mono h x
theorem SR.sliceBounds (b:Bool) (len cap:Nat) (h1:OV S p lo oz) (h2:OV S p hi mD) (h3:OV S p mx nM):
 SR P F S K N (QE (Nat×Nat×Nat)) (Instr.sliceBounds b len cap lo hi mx) (Instr.sliceBounds b len cap oz mD nM) p:=by
 have hb:∀(q:Pi) (x x':Value) (y:Nat) (c:BoundsCode) (f f':Nat->Sem (Nat×Nat×Nat)),Le p q->VR S p x x'->(∀q' n,Le p q'->SR P F S K N (QE (Nat×Nat×Nat)) (f n) (f' n) q')->SR P F S K N (QE (Nat×Nat×Nat)) (Instr.sliceBound x y c>>=f) (Instr.sliceBound x' y c>>=f') q:=
  fun q x x' y c f f' hq hx hf=>(SR.sliceBound x x' (hx.mono hq) y c).ac fun q' n nf=>hf q' n (hq.trans nf)
 cases mx<;>cases nM<;>(try exact h3.elim)<;>cases hi<;>cases mD<;>(try exact h2.elim)<;>cases lo<;>cases oz<;>(try exact h1.elim)
 .exact SR.pure rfl
 .exact hb p _ _ _ _ _ _ (Le.refl _) h1 fun q n hq=>SR.pure rfl
 .exact hb p _ _ _ _ _ _ (Le.refl _) h2 fun q n hq=>SR.pure rfl
 .exact hb p _ _ _ _ _ _ (Le.refl _) h2 fun q n hq=>hb q _ _ _ _ _ _ hq h1 fun q n hq=>SR.pure rfl
 .exact hb p _ _ _ _ _ _ (Le.refl _) h3 fun q n hq=>SR.stuck
 .exact hb p _ _ _ _ _ _ (Le.refl _) h3 fun q n hq=>SR.stuck
 .exact hb p _ _ _ _ _ _ (Le.refl _) h3 fun q n hq=>hb q _ _ _ _ _ _ hq h2 fun q n hq=>SR.pure rfl
 .exact hb p _ _ _ _ _ _ (Le.refl _) h3 fun q n hq=>hb q _ _ _ _ _ _ hq h2 fun q n hq=>hb q _ _ _ _ _ _ hq h1 fun q n hq=>SR.pure rfl
theorem SR.uk (x x':Value) (h:VR S p x x') (c:BoundsCode):SR P F S K N (fun _ a b=>a=0/\b=0) (Instr.sliceBound x 0 c) (Instr.sliceBound x' 0 c) p:=by
 unfold Instr.sliceBound;refine(SR.asIntOf h).ac fun q ki hq=>?_;obtain⟨k,n⟩:=ki;simp only;split
 .exact SR.pure ⟨by omega,by omega⟩
 .exact SR.boundsPanic _ _ _ _
theorem SR.rM (b:Bool) (h1:OV S p lo oz) (h2:OV S p hi mD) (h3:OV S p mx nM):
 SR P F S K N (fun _ a b=>a=(0,0,0)/\b=(0,0,0)) (Instr.sliceBounds b 0 0 lo hi mx) (Instr.sliceBounds b 0 0 oz mD nM) p:=by
 have hb:∀(q:Pi) (x x':Value) (c:BoundsCode) (f f':Nat->Sem (Nat×Nat×Nat)),Le p q->VR S p x x'->(∀q',Le p q'->SR P F S K N (fun _ a b=>a=(0,0,0)/\b=(0,0,0)) (f 0) (f' 0) q')->SR P F S K N (fun _ a b=>a=(0,0,0)/\b=(0,0,0)) (Instr.sliceBound x 0 c>>=f) (Instr.sliceBound x' 0 c>>=f') q:=
  fun q x x' c f f' hq hx hf=>(SR.uk x x' (hx.mono hq) c).bind fun q' n n' nf hn=>by
   obtain⟨rfl,rfl⟩:=hn;exact hf q' (hq.trans nf)
 cases mx<;>cases nM<;>(try exact h3.elim)<;>cases hi<;>cases mD<;>(try exact h2.elim)<;>cases lo<;>cases oz<;>(try exact h1.elim)
 .exact SR.pure ⟨rfl,rfl⟩
 .exact hb p _ _ _ _ _ (Le.refl _) h1 fun q hq=>SR.pure ⟨rfl,rfl⟩
 .exact hb p _ _ _ _ _ (Le.refl _) h2 fun q hq=>SR.pure ⟨rfl,rfl⟩
 .exact hb p _ _ _ _ _ (Le.refl _) h2 fun q hq=>hb q _ _ _ _ _ hq h1 fun q hq=>SR.pure ⟨rfl,rfl⟩
 .exact hb p _ _ _ _ _ (Le.refl _) h3 fun q hq=>SR.stuck
 .exact hb p _ _ _ _ _ (Le.refl _) h3 fun q hq=>SR.stuck
 .exact hb p _ _ _ _ _ (Le.refl _) h3 fun q hq=>hb q _ _ _ _ _ hq h2 fun q hq=>SR.pure ⟨rfl,rfl⟩
 .exact hb p _ _ _ _ _ (Le.refl _) h3 fun q hq=>hb q _ _ _ _ _ hq h2 fun q hq=>hb q _ _ _ _ _ hq h1 fun q hq=>SR.pure ⟨rfl,rfl⟩
theorem ga {a a':Option Addr} {l' c':Nat} (h:VR S p (.slice a l c) (.slice a' l' c')):l=l'/\c=c'/\((a=none/\a'=none)\/(∃b b',a=some b/\a'=some b'/\cH p b b')\/∃b b',a=some b/\a'=some b'/\l=0/\c=0):=by
 cases h with
 |bJ a a'=>exact⟨rfl,rfl,.inr (.inr ⟨a,a',rfl,rfl,rfl,rfl⟩)⟩
 |bC=>exact⟨rfl,rfl,.inl ⟨rfl,rfl⟩⟩
 |slice o sp l c g=>exact⟨rfl,rfl,.inr (.inl ⟨_,_,rfl,rfl,g,rfl,rfl⟩)⟩
theorem SR.slice (t:TypeId) {x x':Value} {lo oz hi mD mx nM:Option Value} (hx:VR S p x x') (h1:OV S p lo oz) (h2:OV S p hi mD) (h3:OV S p mx nM):
 SR P F S K N (QV S) (Instr.slice t x lo hi mx) (Instr.slice t x' oz mD nM) p:=by
 unfold Instr.slice;refine SR.aP fun d hd=>?_
 have oA:∀arr,SR P F S K N (QV S) (do
  let a<-Go.asAddr x
  let .array n elem<-Go.underlying arr|Go.stuck "Slice: array type expected"
  let(l,h,m)<-Instr.sliceBounds false n n lo hi mx
  let size<-Go.sizeOf elem
  Pure.pure (Value.slice (some (if m=l then a else a.add (l*size))) (h-l) (m-l))) (do
  let a<-Go.asAddr x'
  let .array n elem<-Go.underlying arr|Go.stuck "Slice: array type expected"
  let(l,h,m)<-Instr.sliceBounds false n n oz mD nM
  let size<-Go.sizeOf elem
  Pure.pure (Value.slice (some (if m=l then a else a.add (l*size))) (h-l) (m-l))) p:=by
  intro arr;refine(SR.asAddr hx).bind fun q a a' hq ha=>?_;refine SR.aP fun d hd=>?_;cases d with
  |array n elem=>
   simp only;refine(SR.sliceBounds false n n (h1.mono hq) (h2.mono hq) (h3.mono hq)).ac fun q2 b bd=>?_;obtain⟨l,h,m⟩:=b;simp only;refine(SR.sizeOf elem).ac fun q3 s dW=>?_;have ha:=(ha.mono bd).mono dW;split
   .exact SR.pure (ha.sl _ _)
   .exact SR.pure ((ha.add _).sl _ _)
  |_=>exact SR.stuck
 cases d with
 |string=>
  cases hx with
  |string s=>
   simp only;cases mx<;>cases nM<;>first|exact h3.elim|skip
   .simp only[Option.isSome_none,Bool.false_eq_true,if_false];refine(SR.sliceBounds false _ _ h1 h2 h3).ac fun q2 b bd=>?_;exact SR.pure (.string _)
   .simp only[Option.isSome_some,if_true];exact SR.stuck
  |_=>exact SR.stuck
 |slice elem=>
  cases x<;>cases x'<;>first|(cases hx;done)|exact SR.stuck|skip
  rename_i a len cap a' JT d9;obtain⟨rfl,rfl,hs⟩:=ga hx;simp only;rw[<-or_assoc]at hs;rcases hs with hs|⟨b,b',rfl,rfl,rfl,rfl⟩
  case inr=>
   refine(SR.rM true h1 h2 h3).bind fun q2 c c' bd pS=>?_;obtain⟨rfl,rfl⟩:=pS;exact(SR.sizeOf elem).ac fun q3 s dW=>SR.pure (.bJ _ _)
  refine(SR.sliceBounds true len cap h1 h2 h3).ac fun q2 b bd=>?_;obtain⟨l,h,m⟩:=b;simp only;refine(SR.sizeOf elem).ac fun q3 s dW=>?_;rcases hs with⟨rfl,rfl⟩|⟨b,b',rfl,rfl,hb⟩
  .split<;>exact SR.pure (.bC _ _)
  .have hb:=(hb.mono bd).mono dW;split
   .exact SR.pure (hb.sl _ _)
   .exact SR.pure ((hb.add _).sl _ _)
 |pointer arr=>exact oA arr
 |_=>cases hx<;>exact SR.stuck
end
def aO (P:Program):Nat->TypeId->Bool
 |0,_=>false
 |n+1,t=>match P.underlying t with
  |some .bool|some (.int _)|some .string=>true
  |some (.slice _)=>true
  |some (.struct fs)=>!P.stoodInHeld t&&fs.all fun f=>aO P n f.type
  |some (.array _ e)=>aO P n e
  |_=>false
def ai (P:Program):Prop:=∀t i u,P.info? t=some i->i.desc≠ .named "sync.copyChecker" u
section
variable {P:Program} {F:Array Func} {S:Nat->Bool} {K:Code->Prop} {N:Nat} {p:Pi}
theorem SR.gh (f f':α->β->Sem (ForInStep β)):∀(l:List α),(∀x,x∈l->∀b q,Le p q->SR P F S K N (QE (ForInStep β)) (f x b) (f' x b) q)->∀(b:β) (q:Pi),Le p q->SR P F S K N (QE β) (forIn l b f) (forIn l b f') q
 | [],_,b,q,hq=>SR.pure rfl
 |x::l,h,b,q,hq=>by
  simp only[List.forIn_cons];refine(h x (by simp) b q hq).ac fun q' r nf=>?_;cases r with
  |done b=>exact SR.pure rfl
  |yield b=>exact SR.gh f f' l (fun y hy=>h y (by simp[hy])) b q' (hq.trans nf)
def NR (p:Pi):Option (Addr×Bool)->Option (Addr×Bool)->Prop
 |none,none=>True
 |some x,some y=>cH p x.1 y.1/\x.2=y.2
 |_,_=>False
theorem SR.numberAt (h:p r r'):SR P F S K N (fun q a b=>NR q a b) (Go.numberAt r) (Go.numberAt r') p:=by
 unfold Go.numberAt;refine(SR.shape h).ac fun q x hq=>?_;cases x with
 |some y=>exact SR.pure trivial
 |none=>
  refine(SR.getObj (hq _ _ h)).bind fun q o o' hq ho=>?_;cases ho with
  |number l h=>exact SR.pure ⟨h,rfl⟩
  |_=>exact SR.pure trivial
theorem SR.viewAt (h:p r r'):SR P F S K N (fun _ a b=>a=none/\b=none) (Go.viewAt r) (Go.viewAt r') p:=by
 unfold Go.viewAt;refine(SR.shape h).ac fun q x hq=>?_;cases x with
 |some y=>exact SR.pure ⟨rfl,rfl⟩
 |none=>
  refine(SR.getObj (hq _ _ h)).bind fun q o o' hq ho=>?_;cases ho<;>exact SR.pure ⟨rfl,rfl⟩
theorem SR.behindNumber (h:cH p a a'):SR P F S K N (fun q x y=>cH q x.1 y.1/\x.2=y.2) (Go.behindNumber a) (Go.behindNumber a') p:=by
 unfold Go.behindNumber;refine(SR.numberAt h.1).bind fun q x y hq rN=>SR.pure ?_;cases x<;>cases y<;>first|exact rN.elim|exact⟨h.mono hq,rfl⟩|exact rN
theorem SR.byteOf (h:cH p a a'):SR P F S K N (QE Nat) (Go.byteOf a) (Go.byteOf a') p:=by
 unfold Go.byteOf;rw[<-h.2.2];cases hs:a.spot with
 |some s=>exact SR.pure rfl
 |none=>
  refine SR.eF ?_;try simp only[ci,aB,bQ,aD,aE,aW,aX,bK]
  unfold Go.noView;refine SR.bind (Q:=QE Unit) ?_ fun q _ _ hq _=>?_
  .exact(SR.viewAt h.1).bind fun q x y hq rN=>by rw[rN.1,rN.2];exact SR.pure rfl
  .refine(SR.shape (hq _ _ h.1)).ac fun q x hq=>?_;cases x with
   |none=>exact SR.stuck
   |some x=>
    obtain⟨e,n⟩:=x;simp only;rw[<-h.2.1];split
    .exact SR.pure rfl
    .split
     .exact SR.pure rfl
     .exact SR.stuck
theorem SR.equalIn (hc:ai P):∀(d n:Nat) (t:TypeId) {p:Pi} {x x' y y':Value},aO P n t=true->VR S p x x'->VR S p y y'->SR P F S K N (QE Bool) (Op.equalIn d t x y) (Op.equalIn d t x' y') p
 |0,_,_,_,_,_,_,_,_,_,_=>SR.unsupported
 |d+1,0,_,_,_,_,_,_,h,_,_=>by simp[aO]at h
 |d+1,n+1,t,p,x,x',y,y',ht,hx,hy=>by
  simp only[Op.equalIn];refine SR.aP fun u hu=>?_;simp only[aO,hu]at ht;cases u with
  |bool=>cases hx<;>cases hy<;>first|exact SR.pure rfl|exact SR.stuck
  |string=>cases hx<;>cases hy<;>first|exact SR.pure rfl|exact SR.stuck
  |int k=>
   cases hx<;>first|exact SR.stuck|(cases hy<;>first|exact SR.stuck|exact SR.unsupported|skip)
   .rename_i k1 a k2 b;simp only;split
    .exact SR.pure rfl
    .exact SR.stuck
   .rename_i k1 a r r' o sp h;rcases a with(_|a)|a<;>first|exact SR.pure rfl|exact SR.unsupported
   .rename_i r r' o sp h k1 a;rcases a with(_|a)|a<;>first|exact SR.pure rfl|exact SR.unsupported
   .rename_i r r' o sp h r2 nN o2 gi h2;intro hp;refine(SR.behindNumber (a:=⟨r,o,sp⟩) (a':=⟨r',o,sp⟩) ⟨h,rfl,rfl⟩).bind (fun q a a' hq ha=>?_) hp;refine(SR.behindNumber (a:=⟨r2,o2,gi⟩) (a':=⟨nN,o2,gi⟩) ⟨hq _ _ h2,rfl,rfl⟩).bind fun q2 b b' bd hb=>?_;have ha:=ha.1.mono bd;have hb:=hb.1;refine SR.eF ?_;try simp only[ci,aB,bQ,aD,aE,aW,aX,bK]
    intro wq;by_cases hg:(a.1.block==b.1.block&&decide (a.1.block<P.globals.size))=true
    .have pT:(a'.1.block==b'.1.block&&decide (a'.1.block<P.globals.size))=true:=by
      simp only[Bool.and_eq_true,beq_iff_eq,decide_eq_true_eq]at hg⊢;exact⟨(wq.1 _ _ _ _ ha.1 hb.1).1 hg.1,(wq.2 _ _ ha.1).1 hg.2⟩
     simp only[hg,pT,if_true];exact(SR.byteOf ha).ac (fun q x hq=>(SR.byteOf (hb.mono hq)).ac fun q y hq=>SR.pure rfl) wq
    .simp only[hg,if_false,Bool.false_eq_true];by_cases pT:(a'.1.block==b'.1.block&&decide (a'.1.block<P.globals.size))=true
     .refine absurd ?_ hg;simp only[Bool.and_eq_true,beq_iff_eq,decide_eq_true_eq]at pT⊢;exact⟨(wq.1 _ _ _ _ ha.1 hb.1).2 pT.1,(wq.2 _ _ ha.1).2 pT.2⟩
     .simp only[pT,if_false,Bool.false_eq_true];refine SR.fM (fun i hi=>?_) wq;have bE:=fun u=>hc t i u hi;generalize i.desc=ds at bE;cases ds<;>first|exact SR.unsupported|skip
      rename_i nm u;by_cases BP:nm= "sync.copyChecker"
      .subst BP;exact absurd rfl (bE u)
      .split
       .rename_i h3;exact absurd (by simpa using h3) (bE _)
       .exact SR.unsupported
  |slice e=>cases hx<;>cases hy<;>first|exact SR.pure rfl|exact SR.stuck
  |struct fs=>
   simp only[Bool.and_eq_true,Bool.not_eq_true']at ht;cases hx<;>first|exact SR.stuck|(cases hy<;>first|exact SR.stuck|skip)
   rename_i xs aT pJ wG ys rJ JU JV;have ax:AR S p xs aT:=⟨pJ,wG⟩
   have ay:AR S p ys rJ:=⟨JU,JV⟩
   simp only;refine SR.eF ?_;try simp only[ci,aB,bQ,aD,aE,aW,aX,bK]
   simp only[ht.1,Bool.false_eq_true,if_false]
   refine SR.ac (α:=Option Bool×Unit) ?_ fun q r hq=>by
    split<;>exact SR.pure rfl
   rw[<-Array.forIn_toList,<-Array.forIn_toList]
   have aI:∀f∈fs.toList,aO P n f.type=true:=fun f hf=>by
    obtain⟨i,hi,he⟩:=List.getElem_of_mem hf;have:=Array.all_eq_true.1 ht.2 i (by simpa using hi);rw[<-he];simpa using this
   refine SR.gh (p:=p) _ _ fs.toList (fun f hf b q2 bd=>?_) _ p (Le.refl _);have ax:=ax.mono bd;have ay:=ay.mono bd;split
   .refine(SR.part f.type ax _).bind fun q3 u u' dW JW=>?_;refine(SR.part f.type (ay.mono dW) _).bind fun q4 v v' pU JX=>?_;refine(SR.equalIn hc d n f.type (aI f hf) (JW.mono pU) JX).ac fun q5 c E5=>?_;split<;>exact SR.pure rfl
   .exact SR.pure rfl
  |array len e=>
   cases hx<;>first|exact SR.stuck|(cases hy<;>first|exact SR.stuck|skip)
   rename_i xs aT pJ wG ys rJ JU JV;have ax:AR S p xs aT:=⟨pJ,wG⟩
   have ay:AR S p ys rJ:=⟨JU,JV⟩
   simp only;refine(SR.sizeOf e).ac fun q m hq=>?_
   refine SR.ac (α:=Option Bool×Unit) ?_ fun q r hq=>by
    split<;>exact SR.pure rfl
   simp only[Std.Legacy.Range.forIn_eq_forIn_range'];refine SR.gh (p:=q) _ _ _ (fun i hi b q2 bd=>?_) _ q (Le.refl _);have ax:=(ax.mono hq).mono bd;have ay:=(ay.mono hq).mono bd;refine(SR.part e ax _).bind fun q3 u u' dW JW=>?_;refine(SR.part e (ay.mono dW) _).bind fun q4 v v' pU JX=>?_;refine(SR.equalIn hc d n e ht (JW.mono pU) JX).ac fun q5 c E5=>?_;split<;>exact SR.pure rfl
  |_=>cases ht
end
section
variable {P:Program} {F:Array Func} {S:Nat->Bool} {K:Code->Prop} {N:Nat} {p:Pi}
theorem SR.intArith (op:BinOp) (k:IntKind) (x y:Int):SR P F S K N (QV S) (Op.intArith op k x y) (Op.intArith op k x y) p:=by
 cases op<;>first|exact SR.pure (.int _ _)|exact SR.stuck
theorem SR.intDiv (op:BinOp) (k:IntKind) (x y:Int):SR P F S K N (QV S) (Op.intDiv op k x y) (Op.intDiv op k x y) p:=by
 unfold Op.intDiv;split
 .exact SR.err _
 .cases op<;>first|exact SR.pure (.int _ _)|exact SR.stuck
theorem SR.intBits (op:BinOp) (k:IntKind) (x y:Int):SR P F S K N (QV S) (Op.intBits op k x y) (Op.intBits op k x y) p:=by
 cases op<;>first|exact SR.pure (.int _ _)|exact SR.stuck
theorem SR.intCmp (op:BinOp) (x y:Int):SR P F S K N (QV S) (Op.intCmp op x y) (Op.intCmp op x y) p:=by
 cases op<;>first|exact SR.pure (.bool _)|exact SR.stuck
theorem SR.shift (op:BinOp) (k:IntKind) (x:Int) (k':IntKind) (y:Int):SR P F S K N (QV S) (Op.shift op k x k' y) (Op.shift op k x k' y) p:=by
 unfold Op.shift;split
 .exact SR.err _
 .cases op<;>first|exact SR.pure (.int _ _)|exact SR.stuck
theorem SR.stringOp (op:BinOp) (x y:ByteArray):SR P F S K N (QV S) (Op.stringOp op x y) (Op.stringOp op x y) p:=by
 cases op<;>first|exact SR.pure (.bool _)|exact SR.stuck|skip
 unfold Op.stringOp;simp only;split
 .exact SR.unsupported
 .exact SR.pure (.string _)
theorem SR.unary (op:UnOp) (h:VR S p x x'):SR P F S K N (QV S) (Op.unary op x) (Op.unary op x') p:=by
 cases op<;>cases h<;>first|exact SR.pure (.bool _)|exact SR.unsupported|exact SR.stuck|skip
 .rename_i k n;exact SR.intArith .sub k 0 n
 .rename_i k n;exact SR.intBits .xor k (if k.signed then-1 else k.max) n
theorem bj (ts:Array TypeId) (t:TypeId) (a:Addr) (y:Value):Builtin.unsafeAdd_ ts t #[.pointer (some a),y]=(Go.asInt y>>=fun n=>
 if n=0 then(Go.viewAt a.block>>=fun v=>if v.isSome then Go.unsupported (.unsafePointer "Add: at a place where no cell lies")else Pure.pure (.pointer (some a)))
 else if n<0 then Go.unsupported (.unsafePointer "Add: a move by a count below zero")
 else Go.shape a.block>>=fun s=>match s with
  |some (e,cells)=>Go.program>>=fun p=>match cellAtBytes p p.depth e (cells/p.cellsOf e) a.off n with
   |some off=>Pure.pure (.pointer (some {a with off}))
   |none=>Go.unsupported (.unsafePointer "Add")
  |none=>Go.unsupported (.unsafePointer "Add")):=by
 unfold Builtin.unsafeAdd_;show(Go.asInt y>>=_)=_;congr 1;funext n;by_cases h0:n=0
 .simp only[h0,if_true];congr 1
 .by_cases h1:n<0
  .simp only[h0,h1,if_true,if_false];rfl
  .simp only[h0,h1,if_false];congr 1;funext s;cases s<;>rfl
theorem SR.unsafeAdd {ts RN:Array TypeId} {t':TypeId} (h:cH p a a') (hy:VR S p y y'):SR P F S K N (fun q v v'=>∃b b',v=.pointer (some b)/\v'=.pointer (some b')/\cH q b b') (Builtin.unsafeAdd_ ts t #[.pointer (some a),y]) (Builtin.unsafeAdd_ RN t' #[.pointer (some a'),y']) p:=by
 rw[bj,bj];refine(SR.asInt hy).ac fun q n hq=>?_;have h:=h.mono hq;refine SR.ite (fun _=>?_) fun _=>SR.ite (fun _=>SR.unsupported) fun _=>?_
 .exact(SR.viewAt h.1).bind fun q x y hq rN=>by
   rw[rN.1,rN.2];exact SR.pure ⟨_,_,rfl,rfl,h.mono hq⟩
 .refine(SR.shape h.1).ac fun q x hq=>?_;cases x with
  |none=>exact SR.unsupported
  |some x=>
   obtain⟨e,cells⟩:=x;refine SR.eF ?_;try simp only[ci,aB,bQ,aD,aE,aW,aX,bK]
   simp only[<-h.2.1];split
   .rename_i off _;exact SR.pure ⟨{a with off},{a' with off},rfl,rfl,hq _ _ h.1,rfl,h.2.2⟩
   .exact SR.unsupported
theorem SR.asNumber (h:cH p a a') (l:Bool):SR P F S K N (QV S) (Go.asNumber a l) (Go.asNumber a' l) p:=by
 unfold Go.asNumber;exact(SR.newObj (.number l h)).bind fun q r r' hq hr=>SR.pure (.ptr 0 none hr.1)
theorem SR.movedNumber (t:TypeId) (hx:VR S p x x') (hy:VR S p y y'):SR P F S K N (QV S) (Go.movedNumber t x y) (Go.movedNumber t x' y') p:=by
 unfold Go.movedNumber;refine SR.aP fun d hd=>?_;dsimp only;refine SR.ite (fun _=>SR.unsupported) fun _=>?_;cases x with
 |pointer a=>
  cases a with
  |none=>
   cases hx;show SR P F S K N (QV S) (Builtin.unsafeAdd_ #[] t #[.pointer none,y]) (Builtin.unsafeAdd_ #[] t #[.pointer none,y']) p;show SR P F S K N (QV S) (Go.asInt y>>=_) (Go.asInt y'>>=_) p;refine(SR.asInt hy).ac fun q n hq=>?_;dsimp only;refine SR.ite (fun _=>SR.unsupported) fun _=>SR.ite (fun _=>SR.unsupported) fun _=>SR.unsupported
  |some a=>
   obtain⟨r,o,sp⟩:=a;cases hx with
   |ptr _ _ h=>
   rename_i r';refine(SR.behindNumber (a:=⟨r,o,sp⟩) (a':=⟨r',o,sp⟩) ⟨h,rfl,rfl⟩).bind fun q a a' hq ha=>?_;obtain⟨a,l⟩:=a;obtain⟨a',l'⟩:=a';obtain⟨ha,hl⟩:=ha;simp only at hl ha;subst hl;simp only;refine(SR.unsafeAdd ha (hy.mono hq)).bind fun q v v' hq hv=>?_;obtain⟨b,b',rfl,rfl,h⟩:=hv;exact SR.asNumber h l
 |_=>
  cases hx<;>exact(SR.stuck:SR P F S K N (QV S) (Go.stuck "unsafe.Add: a pointer and an integer expected") _ p)
theorem SR.twoPlaces {b b':Addr} (ha:cH p a a') (hb:cH p b b'):SR P F S K N (QE (Nat×Nat)) (Op.twoPlaces a b) (Op.twoPlaces a' b') p:=by
 unfold Op.twoPlaces;refine SR.eF ?_;try simp only[ci,aB,bQ,aD,aE,aW,aX,bK]
 intro hp
 have e:(a.block !=b.block||decide (a.block>=P.globals.size))=(a'.block !=b'.block||decide (a'.block>=P.globals.size)):=by
  have h1:=hp.1 _ _ _ _ ha.1 hb.1;have h2:=hp.2 _ _ ha.1;rw[Bool.eq_iff_iff];simp only[Bool.or_eq_true,bne_iff_ne,decide_eq_true_eq,ne_eq];omega
 rw[e];revert hp;show SR P F S K N (QE (Nat×Nat)) _ _ p;try dsimp only
 refine SR.ite (fun _=>SR.unsupported) fun _=>?_;exact(SR.byteOf ha).ac fun q x hq=>(SR.byteOf (hb.mono hq)).ac fun q y hq=>SR.pure rfl
theorem SR.addrSub (k:IntKind) {b b':Addr} (ha:cH p a a') (hb:cH p b b'):SR P F S K N (QV S) (Op.addrSub k a b) (Op.addrSub k a' b') p:=
 (SR.twoPlaces ha hb).ac fun q x hq=>SR.pure (.int _ _)
theorem SR.addrCmp (op:BinOp) {b b':Addr} (ha:cH p a a') (hb:cH p b b'):SR P F S K N (QV S) (Op.addrCmp op a b) (Op.addrCmp op a' b') p:=by
 refine(SR.twoPlaces ha hb).ac fun q x hq=>?_;cases op<;>first|exact SR.pure (.bool _)|exact SR.unsupported
theorem SR.addrMod (k:IntKind) (ha:cH p a a') (n:Int):SR P F S K N (QV S) (Op.addrMod k a n) (Op.addrMod k a' n) p:=by
 unfold Op.addrMod;refine(SR.shape ha.1).ac fun q x hq=>?_;cases x with
 |none=>exact SR.unsupported
 |some x=>
  obtain⟨e,m⟩:=x;simp only;refine SR.fM fun i hi=>?_;refine SR.ite (fun _=>SR.unsupported) fun _=>?_;exact(SR.byteOf (ha.mono hq)).ac fun q x hq=>SR.pure (.int _ _)
theorem SR.equal (hc:ai P) (ht:aO P n t=true) (hx:VR S p x x') (hy:VR S p y y'):SR P F S K N (QE Bool) (Op.equal t x y) (Op.equal t x' y') p:=
 SR.equalIn hc _ n t ht hx hy
def eG (P:Program) (op:BinOp) (t:TypeId):Bool:=
 match op with
 |.eql|.neq=>aO P 10 t&&!P.eqGuardType P.depth t
 |.add|.sub=>match P.underlying t with|some .unsafePointer=>false|_=>true
 |_=>true
end
section
variable {P:Program} {F:Array Func} {S:Nat->Bool} {K:Code->Prop} {N:Nat} {p:Pi}
theorem SR.wH (op:BinOp) (t:TypeId) (k k':IntKind) (a b:Int):SR P F S K N (QV S) (Go.binOp op t (.int k a) (.int k' b)) (Go.binOp op t (.int k a) (.int k' b)) p:=by
 have key:∀(s:Sem Value),SR P F S K N (QV S) s s p->SR P F S K N (QV S) (if k≠k' then Go.stuck "BinOp: operands of different kinds" else s) (if k≠k' then Go.stuck "BinOp: operands of different kinds" else s) p:=fun s h=>SR.ite (fun _=>SR.stuck) fun _=>h;cases op;case shl=>exact SR.shift .shl k a k' b
 case shr=>exact SR.shift .shr k a k' b
 case quo=>exact key _ (SR.intDiv .quo k a b)
 case rem=>exact key _ (SR.intDiv .rem k a b)
 case add=>exact key _ (SR.intArith .add k a b)
 case sub=>exact key _ (SR.intArith .sub k a b)
 case mul=>exact key _ (SR.intArith .mul k a b)
 case and=>exact key _ (SR.intBits .and k a b)
 case or=>exact key _ (SR.intBits .or k a b)
 case xor=>exact key _ (SR.intBits .xor k a b)
 case andNot=>exact key _ (SR.intBits .andNot k a b)
 all_goals exact key _ (SR.intCmp _ a b)
theorem SR.wI (op:BinOp) (t:TypeId) (a b:ByteArray):SR P F S K N (QV S) (Go.binOp op t (.string a) (.string b)) (Go.binOp op t (.string a) (.string b)) p:=by
 cases op;case add=>exact SR.stringOp .add a b
 case sub=>exact SR.stringOp .sub a b
 case mul=>exact SR.stringOp .mul a b
 case quo=>exact SR.stringOp .quo a b
 case rem=>exact SR.stringOp .rem a b
 case and=>exact SR.stringOp .and a b
 case or=>exact SR.stringOp .or a b
 case xor=>exact SR.stringOp .xor a b
 case andNot=>exact SR.stringOp .andNot a b
 case shl=>exact SR.stringOp .shl a b
 case shr=>exact SR.stringOp .shr a b
 case eql=>exact SR.stringOp .eql a b
 case neq=>exact SR.stringOp .neq a b
 case lss=>exact SR.stringOp .lss a b
 case leq=>exact SR.stringOp .leq a b
 case gtr=>exact SR.stringOp .gtr a b
 case geq=>exact SR.stringOp .geq a b
def bm:Value->Value->Bool
 |.int _ _,.int _ _|.string _,.string _=>true
 |_,_=>false
theorem SR.rO (hc:ai P) (t:TypeId) (hx:VR S p x x') (hy:VR S p y y') (h:bm x y=false):SR P F S K N (QV S) (Go.binOp .mul t x y) (Go.binOp .mul t x' y') p:=by
 cases hx<;>cases hy<;>first|exact SR.stuck|exact SR.unsupported|(cases h;done)|skip
theorem SR.rP (hc:ai P) (t:TypeId) (hx:VR S p x x') (hy:VR S p y y') (h:bm x y=false):SR P F S K N (QV S) (Go.binOp .quo t x y) (Go.binOp .quo t x' y') p:=by
 cases hx<;>cases hy<;>first|exact SR.stuck|exact SR.unsupported|(cases h;done)|skip
theorem SR.rQ (hc:ai P) (t:TypeId) (hx:VR S p x x') (hy:VR S p y y') (h:bm x y=false):SR P F S K N (QV S) (Go.binOp .rem t x y) (Go.binOp .rem t x' y') p:=by
 cases hx<;>cases hy<;>first|exact SR.stuck|exact SR.unsupported|(cases h;done)|skip
 all_goals
  rename_i r r' o sp g k n;exact SR.bind (SR.behindNumber (a:=⟨r,o,sp⟩) (a':=⟨r',o,sp⟩) ⟨g,rfl,rfl⟩) fun q a a' hq ha=>(SR.addrMod k ha.1 n)
theorem SR.rR (hc:ai P) (t:TypeId) (hx:VR S p x x') (hy:VR S p y y') (h:bm x y=false):SR P F S K N (QV S) (Go.binOp .and t x y) (Go.binOp .and t x' y') p:=by
 cases hx<;>cases hy<;>first|exact SR.stuck|exact SR.unsupported|(cases h;done)|skip
 .rename_i k n r r' o sp g;exact SR.bind (SR.behindNumber (a:=⟨r,o,sp⟩) (a':=⟨r',o,sp⟩) ⟨g,rfl,rfl⟩) fun q a a' hq ha=>SR.addrMod k ha.1 (n+1)
 .rename_i r r' o sp g k n;exact SR.bind (SR.behindNumber (a:=⟨r,o,sp⟩) (a':=⟨r',o,sp⟩) ⟨g,rfl,rfl⟩) fun q a a' hq ha=>SR.addrMod k ha.1 (n+1)
theorem SR.wJ (hc:ai P) (t:TypeId) (hx:VR S p x x') (hy:VR S p y y') (h:bm x y=false):SR P F S K N (QV S) (Go.binOp .or t x y) (Go.binOp .or t x' y') p:=by
 cases hx<;>cases hy<;>first|exact SR.stuck|exact SR.unsupported|(cases h;done)|skip
theorem SR.rS (hc:ai P) (t:TypeId) (hx:VR S p x x') (hy:VR S p y y') (h:bm x y=false):SR P F S K N (QV S) (Go.binOp .xor t x y) (Go.binOp .xor t x' y') p:=by
 cases hx<;>cases hy<;>first|exact SR.stuck|exact SR.unsupported|(cases h;done)|skip
theorem SR.kJ (hc:ai P) (t:TypeId) (hx:VR S p x x') (hy:VR S p y y') (h:bm x y=false):SR P F S K N (QV S) (Go.binOp .andNot t x y) (Go.binOp .andNot t x' y') p:=by
 cases hx<;>cases hy<;>first|exact SR.stuck|exact SR.unsupported|(cases h;done)|skip
theorem SR.rT (hc:ai P) (t:TypeId) (hx:VR S p x x') (hy:VR S p y y') (h:bm x y=false):SR P F S K N (QV S) (Go.binOp .shl t x y) (Go.binOp .shl t x' y') p:=by
 cases hx<;>cases hy<;>first|exact SR.stuck|exact SR.unsupported|(cases h;done)|skip
theorem SR.rU (hc:ai P) (t:TypeId) (hx:VR S p x x') (hy:VR S p y y') (h:bm x y=false):SR P F S K N (QV S) (Go.binOp .shr t x y) (Go.binOp .shr t x' y') p:=by
 cases hx<;>cases hy<;>first|exact SR.stuck|exact SR.unsupported|(cases h;done)|skip
theorem SR.rV (hc:ai P) (t:TypeId) (hx:VR S p x x') (hy:VR S p y y') (h:bm x y=false):SR P F S K N (QV S) (Go.binOp .lss t x y) (Go.binOp .lss t x' y') p:=by
 cases hx<;>cases hy<;>first|exact SR.stuck|exact SR.unsupported|(cases h;done)|skip
 .rename_i r r' o sp g r2 nN o2 gi g2
  exact SR.bind (SR.behindNumber (a:=⟨r,o,sp⟩) (a':=⟨r',o,sp⟩) ⟨g,rfl,rfl⟩) fun q a a' hq ha=>
   SR.bind (SR.behindNumber (a:=⟨r2,o2,gi⟩) (a':=⟨nN,o2,gi⟩) ⟨hq _ _ g2,rfl,rfl⟩) fun q2 b b' bd hb=>SR.addrCmp .lss (ha.1.mono bd) hb.1
theorem SR.rW (hc:ai P) (t:TypeId) (hx:VR S p x x') (hy:VR S p y y') (h:bm x y=false):SR P F S K N (QV S) (Go.binOp .leq t x y) (Go.binOp .leq t x' y') p:=by
 cases hx<;>cases hy<;>first|exact SR.stuck|exact SR.unsupported|(cases h;done)|skip
 .rename_i r r' o sp g r2 nN o2 gi g2
  exact SR.bind (SR.behindNumber (a:=⟨r,o,sp⟩) (a':=⟨r',o,sp⟩) ⟨g,rfl,rfl⟩) fun q a a' hq ha=>
   SR.bind (SR.behindNumber (a:=⟨r2,o2,gi⟩) (a':=⟨nN,o2,gi⟩) ⟨hq _ _ g2,rfl,rfl⟩) fun q2 b b' bd hb=>SR.addrCmp .leq (ha.1.mono bd) hb.1
theorem SR.rX (hc:ai P) (t:TypeId) (hx:VR S p x x') (hy:VR S p y y') (h:bm x y=false):SR P F S K N (QV S) (Go.binOp .gtr t x y) (Go.binOp .gtr t x' y') p:=by
 cases hx<;>cases hy<;>first|exact SR.stuck|exact SR.unsupported|(cases h;done)|skip
 .rename_i r r' o sp g r2 nN o2 gi g2
  exact SR.bind (SR.behindNumber (a:=⟨r,o,sp⟩) (a':=⟨r',o,sp⟩) ⟨g,rfl,rfl⟩) fun q a a' hq ha=>
   SR.bind (SR.behindNumber (a:=⟨r2,o2,gi⟩) (a':=⟨nN,o2,gi⟩) ⟨hq _ _ g2,rfl,rfl⟩) fun q2 b b' bd hb=>SR.addrCmp .gtr (ha.1.mono bd) hb.1
theorem SR.rY (hc:ai P) (t:TypeId) (hx:VR S p x x') (hy:VR S p y y') (h:bm x y=false):SR P F S K N (QV S) (Go.binOp .geq t x y) (Go.binOp .geq t x' y') p:=by
 cases hx<;>cases hy<;>first|exact SR.stuck|exact SR.unsupported|(cases h;done)|skip
 .rename_i r r' o sp g r2 nN o2 gi g2
  exact SR.bind (SR.behindNumber (a:=⟨r,o,sp⟩) (a':=⟨r',o,sp⟩) ⟨g,rfl,rfl⟩) fun q a a' hq ha=>
   SR.bind (SR.behindNumber (a:=⟨r2,o2,gi⟩) (a':=⟨nN,o2,gi⟩) ⟨hq _ _ g2,rfl,rfl⟩) fun q2 b b' bd hb=>SR.addrCmp .geq (ha.1.mono bd) hb.1
theorem SR.rZ (hc:ai P) (t:TypeId) (hu:P.underlying t≠some .unsafePointer) (hx:VR S p x x') (hy:VR S p y y') (h:bm x y=false):SR P F S K N (QV S) (Go.binOp .add t x y) (Go.binOp .add t x' y') p:=by
 have key:∀{a a' b b':Value},VR S p a a'->VR S p b b'->SR P F S K N (QV S) (Go.underlying t>>=fun u=>if(match u with|.unsafePointer=>true|_=>false)=true then Go.movedPointer t a b else Go.movedNumber t a b) (Go.underlying t>>=fun u=>if(match u with|.unsafePointer=>true|_=>false)=true then Go.movedPointer t a' b' else Go.movedNumber t a' b') p:=by
  intro a a' b b' ha hb;refine SR.aP fun d hd=>?_;have bE:d≠ .unsafePointer:=fun e=>hu (e▸hd);cases d<;>first|exact absurd rfl bE|exact SR.movedNumber t ha hb
 have km:=hx;have Nb:=hy;cases hx<;>cases hy<;>first|exact SR.stuck|exact SR.unsupported|(cases h;done)|exact key km Nb|exact SR.movedNumber t Nb km
theorem SR.sa (hc:ai P) (t:TypeId) (hx:VR S p x x') (hy:VR S p y y') (h:bm x y=false):SR P F S K N (QV S) (Go.binOp .sub t x y) (Go.binOp .sub t x' y') p:=by
 have km:=hx;cases hx<;>cases hy<;>first|exact SR.stuck|exact SR.unsupported|(cases h;done)|skip
 .rename_i k n;exact SR.movedNumber t km (.int k (-n))
 .rename_i r r' o sp g k n;exact SR.movedNumber t km (.int k (-n))
 .rename_i r r' o sp g r2 nN o2 gi g2
  exact SR.bind (SR.behindNumber (a:=⟨r,o,sp⟩) (a':=⟨r',o,sp⟩) ⟨g,rfl,rfl⟩) fun q a a' hq ha=>
   SR.bind (SR.behindNumber (a:=⟨r2,o2,gi⟩) (a':=⟨nN,o2,gi⟩) ⟨hq _ _ g2,rfl,rfl⟩) fun q2 b b' bd hb=>SR.addrSub .u64 (ha.1.mono bd) hb.1
theorem ah.Is {k:Program->Sem α} (h:ah P (k P)):ah P (Sem.program k):=fun w es=>h w es
theorem ah.stuck (x:String):ah P (Go.stuck x:Sem α):=fun w es=>⟨_,w,es,rfl,trivial⟩
theorem iL (ht:aO P n t=true) (h:x=.tuple #[]\/y=.tuple #[]):ah P (Op.equal t x y):=by
 obtain⟨d,hd⟩:∃d,Op.maxDepth=d+1:=⟨_,rfl⟩
 unfold Op.equal;rw[hd];simp only[Op.equalIn];unfold Go.underlying;refine ah.Is (k:=fun P=>Sem.bind (match P.underlying t with|some i=>Pure.pure i|none=>Go.stuck "no such type") _) ?_;cases n with
 |zero=>simp[aO]at ht
 |succ n=>
 cases hu:P.underlying t with
 |none=>exact ah.bind (ah.stuck _) _
 |some u=>
  simp only[aO,hu]at ht;cases u<;>first|(cases ht;done)|skip
  all_goals rcases h with rfl|rfl
  all_goals first
   |exact fun w es=>⟨_,w,es,rfl,trivial⟩
   |(cases y<;>exact fun w es=>⟨_,w,es,rfl,trivial⟩)
   |(cases x<;>first|exact fun w es=>⟨_,w,es,rfl,trivial⟩|(rename_i a;cases a<;>exact fun w es=>⟨_,w,es,rfl,trivial⟩)|(rename_i a l c;cases a<;>cases l<;>cases c<;>exact fun w es=>⟨_,w,es,rfl,trivial⟩))
theorem gm (f:Bool->Sem β):rK (Op.equal t x y>>=f)=true:=by
 obtain⟨d,hd⟩:∃d,Op.maxDepth=d+1:=⟨_,rfl⟩
 unfold Op.equal;rw[hd];rfl
theorem jU (t:TypeId) (h:bm x y=false) (hj:x=.tuple #[]\/y=.tuple #[]):Go.binOp .eql t x y=(Op.equal t x y>>=fun b=>Pure.pure (.bool b)):=by
 rcases hj with rfl|rfl
 .cases y<;>rfl
 .cases x<;>rfl
theorem jV (t:TypeId) (h:bm x y=false) (hj:x=.tuple #[]\/y=.tuple #[]):Go.binOp .neq t x y=(Op.equal t x y>>=fun b=>Pure.pure (.bool !b)):=by
 rcases hj with rfl|rfl
 .cases y<;>rfl
 .cases x<;>rfl
theorem SR.jU (hc:ai P) (t:TypeId) (ht:aO P n t=true) (hx:VR S p x x') (hy:VR S p y y') (h:bm x y=false):SR P F S K N (QV S) (Go.binOp .eql t x y) (Go.binOp .eql t x' y') p:=by
 by_cases hj:x=.tuple #[]\/y=.tuple #[]
 .rw[aC.jU t h hj];exact SR.ig (ah.bind (iL ht hj) _) (gm _)
 have key:SR P F S K N (QV S) (Op.equal t x y>>=fun b=>Pure.pure (.bool b)) (Op.equal t x' y'>>=fun b=>Pure.pure (.bool b)) p:=(SR.equal hc ht hx hy).ac fun q b hq=>SR.pure (.bool b);cases hx<;>cases hy<;>first|exact key|(cases h;done)|exact absurd (.inl rfl) hj|exact absurd (.inr rfl) hj
theorem SR.jV (hc:ai P) (t:TypeId) (ht:aO P n t=true) (hx:VR S p x x') (hy:VR S p y y') (h:bm x y=false):SR P F S K N (QV S) (Go.binOp .neq t x y) (Go.binOp .neq t x' y') p:=by
 by_cases hj:x=.tuple #[]\/y=.tuple #[]
 .rw[aC.jV t h hj];exact SR.ig (ah.bind (iL ht hj) _) (gm _)
 have key:SR P F S K N (QV S) (Op.equal t x y>>=fun b=>Pure.pure (.bool !b)) (Op.equal t x' y'>>=fun b=>Pure.pure (.bool !b)) p:=(SR.equal hc ht hx hy).ac fun q b hq=>SR.pure (.bool !b);cases hx<;>cases hy<;>first|exact key|(cases h;done)|exact absurd (.inl rfl) hj|exact absurd (.inr rfl) hj
theorem SR.binOp (hc:ai P) (op:BinOp) (t:TypeId) (ho:eG P op t=true) (hx:VR S p x x') (hy:VR S p y y'):SR P F S K N (QV S) (Go.binOp op t x y) (Go.binOp op t x' y') p:=by
 cases hp:bm x y with
 |true=>
  cases hx<;>first|(cases hp;done)|(cases hy<;>first|(cases hp;done)|exact SR.wH op t _ _ _ _|exact SR.wI op t _ _)
 |false=>
  cases op;case add=>exact SR.rZ hc t (fun e=>by simp[eG,e]at ho) hx hy hp
  case sub=>exact SR.sa hc t hx hy hp
  case mul=>exact SR.rO hc t hx hy hp
  case quo=>exact SR.rP hc t hx hy hp
  case rem=>exact SR.rQ hc t hx hy hp
  case and=>exact SR.rR hc t hx hy hp
  case or=>exact SR.wJ hc t hx hy hp
  case xor=>exact SR.rS hc t hx hy hp
  case andNot=>exact SR.kJ hc t hx hy hp
  case shl=>exact SR.rT hc t hx hy hp
  case shr=>exact SR.rU hc t hx hy hp
  case lss=>exact SR.rV hc t hx hy hp
  case leq=>exact SR.rW hc t hx hy hp
  case gtr=>exact SR.rX hc t hx hy hp
  case geq=>exact SR.rY hc t hx hy hp
  case eql=>exact SR.jU hc t (by simp only[eG,Bool.and_eq_true]at ho;exact ho.1) hx hy hp
  case neq=>exact SR.jV hc t (by simp only[eG,Bool.and_eq_true]at ho;exact ho.1) hx hy hp
end
section
variable {P:Program} {F:Array Func} {S:Nat->Bool} {K:Code->Prop} {N:Nat} {p:Pi}
theorem SR.kK (t:TypeId) (ht:aO P n t=true):∀d,SR P F S K N (QE Bool) (Op.eqGuardIn d t .nilIface .nilIface) (Op.eqGuardIn d t .nilIface .nilIface) p
 |0=>SR.unsupported
 |d+1=>by
  simp only[Op.eqGuardIn];refine SR.aP fun u hu=>?_;cases n with
  |zero=>simp[aO]at ht
  |succ n=>
   simp only[aO,hu]at ht;cases u<;>first|exact SR.pure rfl|(cases ht;done)
def bp (t:TypeId) (x y:Operand) (a b:Value):Sem Unit:=
 match a,b with
 |.nilIface,.nilIface=>
  if((x matches .const _)||(y matches .const _))=true then Pure.pure ()
  else Op.eqGuardIn Op.maxDepth t .nilIface .nilIface>>=fun g=>if g=true then Go.unsupported (.noEntry "binop/eql: two nil values of an interface type with methods, neither of them the literal nil")else Pure.pure ()
 |.agg xs,.agg ys=>Go.program>>=fun q=>Go.program>>=fun r=>
  if(!q.eqGuardType r.depth t)=true then Pure.pure ()
  else Op.eqGuardIn Op.maxDepth t (.agg xs) (.agg ys)>>=fun g=>if g=true then Go.unsupported (.noEntry "binop/eql: two nil values of an interface type with methods, in a part of a struct or an array")else Pure.pure ()
 |_,_=>Pure.pure ()
theorem cI (t:TypeId) (x y:Operand) (a b:Value):Go.eqGuard .eql t x y a b=bp t x y a b:=by
 cases a<;>cases b<;>rfl
theorem cJ (t:TypeId) (x y:Operand) (a b:Value):Go.eqGuard .neq t x y a b=bp t x y a b:=by
 cases a<;>cases b<;>rfl
theorem SR.bp (t:TypeId) (ht:aO P 10 t=true) (hg:P.eqGuardType P.depth t=false) (x y:Operand) {a a' b b':Value} (ha:VR S p a a') (hb:VR S p b b') (Yl:a≠ .tuple #[]) (sb:b≠ .tuple #[]):SR P F S K N (QE Unit) (bp t x y a b) (bp t x y a' b') p:=by
 cases ha<;>first|exact SR.pure rfl|exact absurd rfl Yl|(cases hb<;>first|exact SR.pure rfl|exact absurd rfl sb|skip)
 .refine SR.ite (fun _=>SR.pure rfl) fun _=>?_;exact(SR.kK t ht Op.maxDepth).ac fun q g hq=>SR.ite (fun _=>SR.unsupported) fun _=>SR.pure rfl
 .refine SR.eF (SR.eF ?_);have pT:(ab P F).eqGuardType (ab P F).depth t=false:=by rw[bK,bD,hg]
  rw[hg,pT];exact SR.pure rfl
theorem SR.eqGuard (op:BinOp) (t:TypeId) (ho:eG P op t=true) (x y:Operand) {a a' b b':Value} (ha:VR S p a a') (hb:VR S p b b') (hj:¬((op=.eql\/op=.neq)/\(a=.tuple #[]\/b=.tuple #[]))):SR P F S K N (QE Unit) (Go.eqGuard op t x y a b) (Go.eqGuard op t x y a' b') p:=by
 cases op
 case eql=>
  simp only[eG,Bool.and_eq_true,Bool.not_eq_true']at ho;rw[cI,cI];exact SR.bp t ho.1 ho.2 x y ha hb (fun e=>hj ⟨.inl rfl,.inl e⟩) fun e=>hj ⟨.inl rfl,.inr e⟩
 case neq=>
  simp only[eG,Bool.and_eq_true,Bool.not_eq_true']at ho;rw[cJ,cJ];exact SR.bp t ho.1 ho.2 x y ha hb (fun e=>hj ⟨.inr rfl,.inl e⟩) fun e=>hj ⟨.inr rfl,.inr e⟩
 all_goals exact SR.pure rfl
inductive EL (S:Nat->Bool) (p:Pi):List MapEntry->List MapEntry->Prop
 |nil:EL S p [] []
 |cons {e e':MapEntry} {l l':List MapEntry} (h:ER S p e e') (t:EL S p l l'):EL S p (e::l) (e'::l')
theorem EL.mono {q:Pi} (h:Le p q) {l l':List MapEntry} (x:EL S p l l'):EL S q l l':=by
 induction x with
 |nil=>exact .nil
 |cons g _ ih=>exact .cons (g.mono h) ih
theorem EL.of:∀{l l':List MapEntry},l.length=l'.length->(∀(i:Nat) e e',l[i]?=some e->l'[i]?=some e'->ER S p e e')->EL S p l l'
 | [],[],_,_=>.nil
 | [],_::_,h,_=>by cases h
 |_::_,[],h,_=>by cases h
 |e::l,e'::l',h,g=>.cons (g 0 e e' rfl rfl) (EL.of (by simpa using h) fun i a b h1 h2=>g (i+1) a b h1 h2)
theorem mE {S:Nat->Bool} (hJ:S JK=false) (h:S JK=true):False:=by rw[hJ]at h;cases h
theorem gK (d:TypeDesc) {a a' b b':Value} (ha:VR S p a a') (hb:VR S p b b'):Instr.sameNow d a b=Instr.sameNow d a' b':=by
 cases ha with
 |mA hj hv=>cases d<;>cases a'<;>first|(cases hv;done)|rfl
 |_=>
  cases hb with
  |mA hj hv=>cases d<;>cases b'<;>first|(cases hv;done)|rfl
  |_=>cases d<;>rfl
def fN:Value->Bool
 |.bool _|.int _ _|.string _|.pointer _=>true
 |_=>false
def ul (P:Program) (t:TypeId):Bool:=match P.underlying t with
 |some .bool|some (.int _)|some .string=>true
 |_=>false
theorem se {d:TypeDesc} {a b:Value} {c:Bool} (h:Instr.sameNow d a b=some c):fN a=true/\fN b=true:=by
 cases d<;>cases a<;>first|(cases h;done)|(cases b<;>first|(cases h;done)|exact⟨rfl,rfl⟩)
theorem nO (ht:ul P t=true) (h:¬(fN x=true/\fN y=true)):ah P (Op.equal t x y):=by
 obtain⟨d,hd⟩:∃d,Op.maxDepth=d+1:=⟨_,rfl⟩
 unfold Op.equal;rw[hd];simp only[Op.equalIn];unfold Go.underlying;refine ah.Is (k:=fun P=>Sem.bind (match P.underlying t with|some i=>Pure.pure i|none=>Go.stuck "no such type") _) ?_;cases hu:P.underlying t with
 |none=>exact ah.bind (ah.stuck _) _
 |some u=>
  simp only[ul,hu]at ht;cases u<;>first|(cases ht;done)|skip
  all_goals
   cases x<;>first
    |exact fun w es=>⟨_,w,es,rfl,trivial⟩
    |(cases y<;>first
       |exact absurd ⟨rfl,rfl⟩ h
       |exact fun w es=>⟨_,w,es,rfl,trivial⟩)
    |(rename_i o;cases o<;>cases y<;>first
       |exact absurd ⟨rfl,rfl⟩ h
       |exact fun w es=>⟨_,w,es,rfl,trivial⟩)
theorem jr (d:TypeDesc) (hk:VR S p k k'):∀{l l':List MapEntry},EL S p l l'->∀i,
 (Instr.findNow d k l i=none/\Instr.findNow d k' l' i=none)\/(Instr.findNow d k l i=some none/\Instr.findNow d k' l' i=some none)\/
   ∃j v v',Instr.findNow d k l i=some (some (i+j,v))/\Instr.findNow d k' l' i=some (some (i+j,v'))/\VR S p v v'/\∃e,l[j]?=some e/\fN k=true/\fN e.key=true:=by
 intro l l' h;induction h with
 |nil=>intro i;exact .inr (.inl ⟨rfl,rfl⟩)
 | @cons e e' l l' he _ ih=>
   intro i;simp only[Instr.findNow];rw[gK d hk he.1];cases hs:Instr.sameNow d k' e'.key with
   |none=>exact .inl ⟨rfl,rfl⟩
   |some b=>
    have hl:=se ((gK d hk he.1).trans hs);cases b with
    |true=>exact .inr (.inr ⟨0,_,_,rfl,rfl,he.2.1,e,rfl,hl.1,hl.2⟩)
    |false=>
     rcases ih (i+1)with h|h|⟨j,v,v',h1,h2,h3,e2,h4,h5,h6⟩
     .exact .inl h
     .exact .inr (.inl h)
     .refine .inr (.inr ⟨j+1,v,v',?_,?_,h3,e2,by simpa using h4,h5,h6⟩)
      .rw[show i+(j+1)=i+1+j by omega];exact h1
      .rw[show i+(j+1)=i+1+j by omega];exact h2
def FR (S:Nat->Bool) (p:Pi) (G:Nat->Prop):Option (Nat×Value)->Option (Nat×Value)->Prop
 |none,none=>True
 |some x,some y=>x.1=y.1/\VR S p x.2 y.2/\G x.1
 |_,_=>False
theorem SR.findAsking (hc:ai P) (ht:aO P n t=true) (hJ:S JK=true->ul P t=true) (G:Nat->Prop):∀{l l':List MapEntry} {p:Pi} {k k':Value} (i:Nat),(∀j e,l[j]?=some e->(S JK=true->fN k=true/\fN e.key=true)->G (i+j))->VR S p k k'->EL S p l l'->
 SR P F S K N (fun q a b=>FR S q G a b) (Instr.findAsking t k l i) (Instr.findAsking t k' l' i) p
 | [],_,p,k,k',i,hG,hk,h=>by cases h;exact SR.pure trivial
 |e::l,_,p,k,k',i,hG,hk,h=>by
  cases h with
  | @cons _ e' _ l' he hl=>
  simp only[Instr.findAsking];by_cases hj:S JK=true->fN k=true/\fN e.key=true
  .refine(SR.equal hc ht hk he.1).ac fun q b hq=>?_;refine SR.ite (fun _=>SR.pure ⟨rfl,he.2.1.mono hq,hG 0 e rfl hj⟩) fun _=>SR.findAsking hc ht hJ G (i+1) (fun j e2 h1 h2=>?_) (hk.mono hq) (hl.mono hq);have:=hG (j+1) e2 (by simpa using h1) h2;rwa [show i+(j+1)=i+1+j by omega]at this
  .have h1:S JK=true:=Classical.byContradiction fun h=>hj fun h2=>absurd h2 h;exact SR.ig (ah.bind (nO (hJ h1) fun h2=>hj fun _=>h2) _) (gm _)
theorem SR.findKey (hc:ai P) (ht:aO P n t=true) (hJ:S JK=true->ul P t=true) {l l':List MapEntry} (hk:VR S p k k') (h:EL S p l l'):
 SR P F S K N (fun q a b=>FR S q (fun j=>S JK=true->fN k=true/\∀e,l[j]?=some e->fN e.key=true) a b) (Instr.findKey t k l) (Instr.findKey t k' l') p:=by
 unfold Instr.findKey;refine SR.aP fun u hu=>?_;rcases jr u hk h 0 with⟨e1,e2⟩|⟨e1,e2⟩|⟨j,v,v',e1,e2,hv,e,he,h5,h6⟩
 .rw[e1,e2];refine SR.findAsking hc ht hJ _ 0 (fun j e he hg hj=>?_) hk h;refine⟨(hg hj).1,fun e2 um=>?_⟩;rw[Nat.zero_add,he]at um;cases um;exact(hg hj).2
 .rw[e1,e2];exact SR.pure trivial
 .rw[e1,e2];refine SR.pure ⟨rfl,hv,fun _=>⟨h5,fun e2 um=>?_⟩⟩;rw[show(0+j,v).1=j by simp,he]at um;cases um;exact h6
theorem SR.checkKey (b:Bool):∀(d n:Nat) (t:TypeId) {p:Pi} {k k':Value},aO P n t=true->VR S p k k'->SR P F S K N (QE Unit) (Instr.checkKey b d t k) (Instr.checkKey b d t k') p
 |0,_,_,_,_,_,_,_=>SR.unsupported
 |d+1,0,_,_,_,_,h,_=>by simp[aO]at h
 |d+1,n+1,t,p,k,k',ht,hk=>by
  simp only[Instr.checkKey];refine SR.aP fun u hu=>?_;simp only[aO,hu]at ht;cases u with
  |array len e=>
   cases hk<;>first|exact SR.stuck|skip
   rename_i xs aT pJ wG;have ax:AR S p xs aT:=⟨pJ,wG⟩
   simp only;refine SR.ac (α:=PUnit) ?_ fun q r hq=>SR.pure rfl;simp only[Std.Legacy.Range.forIn_eq_forIn_range'];refine SR.gh (p:=p) _ _ _ (fun i hi b q2 bd=>?_) _ p (Le.refl _);refine(SR.sizeOf e).ac fun q3 m dW=>?_;refine(SR.part e ((ax.mono bd).mono dW) _).bind fun q4 v v' pU hv=>?_;exact(SR.checkKey _ d n e ht hv).ac fun q5 _ E5=>SR.pure rfl
  |struct fs=>
   simp only[Bool.and_eq_true]at ht
   have aI:∀f∈fs.toList,aO P n f.type=true:=fun f hf=>by
    obtain⟨i,hi,he⟩:=List.getElem_of_mem hf;have:=Array.all_eq_true.1 ht.2 i (by simpa using hi);rw[<-he];simpa using this
   cases hk<;>first|exact SR.stuck|skip
   rename_i xs aT pJ wG;have ax:AR S p xs aT:=⟨pJ,wG⟩
   simp only;refine SR.ac (α:=PUnit) ?_ fun q r hq=>SR.pure rfl;rw[<-Array.forIn_toList,<-Array.forIn_toList];refine SR.gh (p:=p) _ _ _ (fun f hf b q2 bd=>?_) _ p (Le.refl _);refine SR.ite (fun _=>?_) fun _=>SR.pure rfl;refine(SR.part f.type (ax.mono bd) _).bind fun q4 v v' pU hv=>?_;exact(SR.checkKey _ d n f.type (aI f hf) hv).ac fun q5 _ E5=>SR.pure rfl
  |bool=>cases hk<;>exact SR.pure rfl
  |int k=>cases hk<;>exact SR.pure rfl
  |string=>cases hk<;>exact SR.pure rfl
  |slice e=>cases hk<;>exact SR.pure rfl
  |_=>cases ht
end
section
variable {P:Program} {F:Array Func} {S:Nat->Bool} {K:Code->Prop} {N:Nat} {p:Pi}
theorem OR.mapList {es bP:Array MapEntry} (h:es.size=bP.size) (g:∀(i:Nat) (e e':MapEntry),es[i]?=some e->bP[i]?=some e'->ER S p e e'):EL S p es.toList bP.toList:=
 EL.of (by simpa using h) fun i e e' h1 h2=>g i e e' (by simpa using h1) (by simpa using h2)
def ir (P:Program) (t:TypeId):Bool:=match P.underlying t with|some (.map k _)=>aO P 10 k|_=>true
def gL (P:Program) (t:TypeId):Bool:=match P.underlying t with|some (.map k _)=>ul P k|_=>true
theorem SR.lookup (hz:az P) (hc:ai P) (t:TypeId) (hJ:S JK=true->gL P t=true) (ht:ir P t=true) (ok:Bool) (hx:VR S p x x') (hi:VR S p i i'):SR P F S K N (QV S) (Instr.lookup t x i ok) (Instr.lookup t x' i' ok) p:=by
 unfold Instr.lookup;refine SR.aP fun u hu=>?_;cases u with
 |map k e=>
  simp only[ir,hu]at ht;simp only[gL,hu]at hJ;simp only
  have rest:∀(q:Pi) (es bP:Array MapEntry),Le p q->es.size=bP.size->EL S q es.toList bP.toList->SR P F S K N (QV S)
   (Instr.checkKey es.isEmpty 10000 k i>>=fun _=>Instr.findKey k i es.toList>>=fun r=>match r with|some (_,v)=>(Pure.pure (v,true)>>=fun(x:Value×Bool)=>Pure.pure (if ok=true then Value.tuple #[x.1,.bool x.2]else x.1))|none=>Go.zeroValue e>>=fun z=>(Pure.pure (z,false)>>=fun(x:Value×Bool)=>Pure.pure (if ok=true then Value.tuple #[x.1,.bool x.2]else x.1)))
   (Instr.checkKey bP.isEmpty 10000 k i'>>=fun _=>Instr.findKey k i' bP.toList>>=fun r=>match r with|some (_,v)=>(Pure.pure (v,true)>>=fun(x:Value×Bool)=>Pure.pure (if ok=true then Value.tuple #[x.1,.bool x.2]else x.1))|none=>Go.zeroValue e>>=fun z=>(Pure.pure (z,false)>>=fun(x:Value×Bool)=>Pure.pure (if ok=true then Value.tuple #[x.1,.bool x.2]else x.1))) q:=by
   intro q es bP hq hs hl;have RP:es.isEmpty=bP.isEmpty:=by simp[Array.isEmpty,hs]
   have fin:∀(q:Pi) (a b:Value) (c:Bool),VR S q a b->SR P F S K N (QV S) (Pure.pure (if ok=true then Value.tuple #[a,.bool c]else a)) (Pure.pure (if ok=true then Value.tuple #[b,.bool c]else b)) q:=by
    intro q a b c h;cases ok with
    |true=>exact SR.pure (AR.tuple ((AR.one h).push (.bool _)))
    |false=>exact SR.pure h
   rw[RP];refine(SR.checkKey _ 10000 10 k ht (hi.mono hq)).ac fun q1 _ ly=>?_;refine(SR.findKey hc ht hJ ((hi.mono hq).mono ly) (hl.mono ly)).bind fun q2 r r' bd hr=>?_;cases r<;>cases r'<;>first|exact hr.elim|skip
   .exact(SR.zeroValue hz e).bind fun q4 z z' pU kI=>fin q4 _ _ _ (kI.1▸kI.2)
   .exact fin q2 _ _ _ hr.2.1
  cases hx<;>first|exact SR.stuck|skip
  .exact rest p #[] #[] (Le.refl _) rfl .nil
  .rename_i r r' h;refine(SR.getObj h).bind fun q o o' hq ho=>?_;cases ho with
   |map c h g=>exact rest q _ _ hq h (OR.mapList h g)
   |_=>exact SR.stuck
 |_=>exact SR.stuck
theorem da (hJ:S JK=false) (hp:lB P p):∀(n:Nat) {a a' b b':Value},VR S p a a'->VR S p b b'->Instr.sameBits n a b=Instr.sameBits n a' b'
 |n,a,a',b,b',ha,hb=>by
  have oA:∀{r r' s s':Nat} (o o2:Nat) (sp gi:Option Nat),p r r'->p s s'->((some (⟨r,o,sp⟩:Addr))==(some (⟨s,o2,gi⟩:Addr)))=((some (⟨r',o,sp⟩:Addr))==(some (⟨s',o2,gi⟩:Addr))):=by
   intro r r' s s' o o2 sp gi h1 h2;have:=hp.1 _ _ _ _ h1 h2;rw[Bool.eq_iff_iff];simp[this]
  cases n with
  |zero=>
   cases ha<;>first|rfl|exact(mE hJ ‹_›).elim|(cases hb<;>first|rfl|exact oA _ _ _ _ ‹_› ‹_›|exact(mE hJ ‹_›).elim)
  |succ n=>
   cases ha with
   |iface h=>cases hb<;>first|rfl|exact(mE hJ ‹_›).elim|(simp only[Instr.sameBits];rw[da hJ hp n h ‹_›])
   |agg h g=>
    cases hb with
    |agg h2 g2=>
     rename_i xs aT ys rJ;simp only[Instr.sameBits];rw[h,h2];congr 1
     have hl:∀(l l' m m':List Value),l.length=l'.length->m.length=m'.length->(∀(i:Nat) v v',l[i]?=some v->l'[i]?=some v'->VR S p v v')->(∀(i:Nat) v v',m[i]?=some v->m'[i]?=some v'->VR S p v v')->
      ((l.zip m).all fun(x,y)=>Instr.sameBits n x y)=((l'.zip m').all fun(x,y)=>Instr.sameBits n x y):=by
      intro l;induction l with
      |nil=>intro l' m m' h1 h2 _ _;cases l' with
       |nil=>rfl
       |cons=>cases h1
      |cons x l ih=>
       intro l' m m' h1 h2 g1 g2;cases l' with
       |nil=>cases h1
       |cons x' l'=>
        cases m with
        |nil=>cases m' with
         |nil=>rfl
         |cons=>cases h2
        |cons y m=>cases m' with
         |nil=>cases h2
         |cons y' m'=>
          simp only[List.zip_cons_cons,List.all_cons];rw[da hJ hp n (g1 0 x x' rfl rfl) (g2 0 y y' rfl rfl),ih l' m m' (by simpa using h1) (by simpa using h2) (fun i v v' a b=>g1 (i+1) v v' a b) (fun i v v' a b=>g2 (i+1) v v' a b)]
     exact hl _ _ _ _ (by simpa using h) (by simpa using h2) (fun i v v' a b=>g i v v' (by simpa using a) (by simpa using b)) (fun i v v' a b=>g2 i v v' (by simpa using a) (by simpa using b))
    |mA hj _=>exact(mE hJ hj).elim
    |_=>rfl
   |mA hj _=>exact(mE hJ hj).elim
   |_=>cases hb<;>first|rfl|exact oA _ _ _ _ ‹_› ‹_›|exact(mE hJ ‹_›).elim
theorem pV (hp:lB P p):∀(n:Nat) {a a' b b':Value},fN a=true->fN b=true->VR S p a a'->VR S p b b'->Instr.sameBits n a b=Instr.sameBits n a' b':=fun n a a' b b' la lb ha hb=>by
 have oA:∀{r r' s s':Nat} (o o2:Nat) (sp gi:Option Nat),p r r'->p s s'->((some (⟨r,o,sp⟩:Addr))==(some (⟨s,o2,gi⟩:Addr)))=((some (⟨r',o,sp⟩:Addr))==(some (⟨s',o2,gi⟩:Addr))):=by
  intro r r' s s' o o2 sp gi h1 h2;have:=hp.1 _ _ _ _ h1 h2;rw[Bool.eq_iff_iff];simp[this]
 cases ha<;>first|(cases la;done)|skip
 all_goals cases hb<;>first|(cases lb;done)|skip
 all_goals cases n<;>first|rfl|exact oA _ _ _ _ ‹_› ‹_›
theorem SR.keyThatStays {a a' b b':Value} (hJ:S JK=true->fN a=true/\fN b=true) (ha:VR S p a a') (hb:VR S p b b'):SR P F S K N (QV S) (Instr.keyThatStays a b) (Instr.keyThatStays a' b') p:=by
 intro hp;unfold Instr.keyThatStays
 have e:Instr.sameBits 10000 a b=Instr.sameBits 10000 a' b':=by
  cases hs:S JK with
  |false=>exact da hs hp 10000 ha hb
  |true=>exact pV hp 10000 (hJ hs).1 (hJ hs).2 ha hb
 rw[e];refine SR.ite (P:=P) (S:=S) (K:=K) (N:=N) (fun _=>SR.pure hb) (fun _=>?_) hp;refine(SR.choose _).ac fun q n hq=>?_;split
 .exact SR.pure (hb.mono hq)
 .exact SR.pure (ha.mono hq)
theorem SR.mapUpdate (hc:ai P) (t:TypeId) (hJ:S JK=true->gL P t=true) (ht:ir P t=true) {m m':Value} (hm:VR S p m m') (hk:VR S p k k') (hv:VR S p v v'):SR P F S K N (QE Unit) (Instr.mapUpdate t m k v) (Instr.mapUpdate t m' k' v') p:=by
 unfold Instr.mapUpdate;refine SR.aP fun u hu=>?_;cases u with
 |map kt e=>
  simp only[ir,hu]at ht;simp only[gL,hu]at hJ;simp only;cases hm<;>first|exact SR.stuck|exact SR.oy _|skip
  rename_i r r' h;simp only;refine(SR.getObj h).bind fun q o o' hq ho=>?_;cases ho with
  | @map es bP c hs g=>
    simp only;refine(SR.checkKey _ 10000 10 kt ht (hk.mono hq)).ac fun q1 _ ly=>?_;have hl:EL S q1 es.toList bP.toList:=(OR.mapList hs g).mono ly;refine(SR.findKey hc ht hJ ((hk.mono hq).mono ly) hl).bind fun q2 x x' bd hx=>?_;have h:=bd _ _ (ly _ _ (hq _ _ h));have hk:=((hk.mono hq).mono ly).mono bd;have hv:=((hv.mono hq).mono ly).mono bd;have g2:∀(i:Nat) (e e':MapEntry),es[i]?=some e->bP[i]?=some e'->ER S q2 e e':=fun i e e' a b=>((g i e e' a b).mono ly).mono bd;cases x<;>cases x'<;>first|exact hx.elim|skip
    .refine SR.setObj h (.map (c+1) (by simp[hs]) fun i a b ha hb=>?_);rw[Array.getElem?_push]at ha hb;rw[hs]at ha;split at ha
     .rename_i hi;simp only[hi,if_true,Option.some.injEq]at ha hb;subst ha;subst hb;exact⟨hk,hv,rfl⟩
     .rename_i hi;simp only[hi,if_false]at hb;exact g2 i a b ha hb
    .rename_i y y';obtain⟨j,u⟩:=y;obtain⟨j',u'⟩:=y';obtain⟨hj,RQ,Qn⟩:=hx;simp only at hj RQ Qn;subst hj;simp only;refine SR.bind (Q:=QV S) (SR.keyThatStays (fun h=>⟨?_,(Qn h).1⟩) ?_ hk) fun q3 b b' dW hb=>?_
     .cases he:es[j]? with
      |none=>exact(Qn h).1
      |some e1=>exact(Qn h).2 e1 (by simpa using he)
     .cases he:es[j]? with
      |none=>
       have:bP[j]?=none:=by rw[Array.getElem?_eq_none_iff]at he⊢;omega
       rw[this];exact hk
      |some e1=>
       have ap:j<bP.size:=by rw[<-hs];exact(Array.getElem?_eq_some_iff.1 he).1
       rw[Array.getElem?_eq_getElem ap];exact(g2 j e1 _ he (Array.getElem?_eq_getElem ap)).1
     .refine SR.setObj (dW _ _ h) (.map c (by simp[hs]) fun i a b ha hb=>?_);rw[Array.getElem?_modify]at ha hb;split at ha
      .rename_i hi;simp only[hi,if_true]at hb;cases hea:es[i]? with
       |none=>rw[hea]at ha;cases ha
       |some ea=>
        have ap:i<bP.size:=by rw[<-hs];exact(Array.getElem?_eq_some_iff.1 hea).1
        rw[hea]at ha;rw[Array.getElem?_eq_getElem ap]at hb;simp only[Option.map_some,Option.some.injEq]at ha hb;subst ha;subst hb;exact⟨by assumption,hv.mono dW,(g2 i ea _ hea (Array.getElem?_eq_getElem ap)).2.2⟩
      .rename_i hi;simp only[hi,if_false]at hb;exact(g2 i a b ha hb).mono dW
  |_=>exact SR.stuck
 |_=>exact SR.stuck
theorem SR.makeMap (t:TypeId):SR P F S K N (QV S) (Instr.makeMap t none) (Instr.makeMap t none) p:=by
 refine SR.bind (Q:=fun q r r'=>q r r'/\N<=r) (SR.newObj (.map 0 rfl fun i e e' h=>by simp at h)) fun q r r' hq hr=>SR.pure (.map hr.1)
def fm (e:TypeId) (n m:Int) (bytes:Nat):Sem Value:=
 Go.askRoom ((IntKind.i64.wrap m).toNat*bytes)>>=fun _=>Go.sizeOf e>>=fun s=>
  if(IntKind.i64.wrap m).toNat*s=0 then(Go.newRow e ((Array.range ((IntKind.i64.wrap m).toNat*s)).map ((#[]:Array Value)[·%(#[]:Array Value).size]!))>>=fun a=>Pure.pure (Value.slice (some a) (IntKind.i64.wrap n).toNat (IntKind.i64.wrap m).toNat))
  else Go.zeroValue e>>=fun z=>(Go.newRow e ((Array.range ((IntKind.i64.wrap m).toNat*s)).map (z.cells[·%z.cells.size]!))>>=fun a=>Pure.pure (Value.slice (some a) (IntKind.i64.wrap n).toNat (IntKind.i64.wrap m).toNat))
theorem SR.makeSlice (hz:az P) (t:TypeId) {l l' c c':Value} (hl:VR S p l l') (kL:VR S p c c'):SR P F S K N (QV S) (Instr.makeSlice t l c) (Instr.makeSlice t l' c') p:=by
 unfold Instr.makeSlice;refine SR.aP fun u hu=>?_;cases u with
 |slice e=>
  simp only;refine(SR.asInt hl).ac fun q n hq=>?_;refine(SR.asInt (kL.mono hq)).ac fun q2 m bd=>?_;refine SR.fM fun i hi=>?_
  have rest:∀(q:Pi),SR P F S K N (QV S)
   (fm e n m i.bytes)
   (fm e n m i.bytes) q:=by
   intro q;unfold fm;refine(SR.askRoom _).ac fun q1 _ ly=>(SR.sizeOf e).ac fun q2 s bd=>?_;refine SR.ite (fun _=>?_) fun _=>?_
   .exact(SR.newRow e (fR AR.empty _)).bind fun q4 a a' pU ha=>SR.pure (ha.1.sl _ _)
   .refine(SR.zeroValue hz e).bind fun q3 z z' dW kI=>?_;obtain⟨rfl,hv⟩:=kI;exact(SR.newRow e (fR hv.cells _)).bind fun q4 a a' pU ha=>SR.pure (ha.1.sl _ _)
  have JY:∀(msg:String) (q:Pi),SR P F S K N (QV S) (Go.runtimePanic (.error msg)>>=fun(_:PUnit)=>fm e n m i.bytes) (Go.runtimePanic (.error msg)>>=fun(_:PUnit)=>fm e n m i.bytes) q:=
   fun msg q=>SR.bind (Q:=QE PUnit) (SR.err msg) fun q _ _ _ _=>rest q
  refine SR.ite (fun _=>?_) fun _=>rest q2;refine SR.ite (fun _=>JY _ q2) fun _=>SR.ite (fun _=>JY _ q2) fun _=>?_;exact(SR.choose _).ac fun q3 c dW=>JY _ q3
 |_=>exact SR.stuck
theorem SR.extract (h:VR S p v v') (i:Nat):SR P F S K N (QV S) (Instr.extract v i) (Instr.extract v' i) p:=by
 unfold Instr.extract;cases h<;>first|exact SR.stuck|skip
 rename_i xs aT hx gx;simp only;cases hi:xs[i]? with
 |none=>exact SR.stuck
 |some u=>obtain⟨u',JS,hr⟩:=AR.get (S:=S) (p:=p) ⟨hx,gx⟩ hi;rw[JS];exact SR.pure hr
theorem SR.indexAt (t:TypeId) (h:VR S p v v') (hi:VR S p i i'):SR P F S K N (QV S) (Instr.indexAt t v i) (Instr.indexAt t v' i') p:=by
 unfold Instr.indexAt;refine(SR.asIntOf hi).ac fun q ki hq=>?_;obtain⟨k,n⟩:=ki;have h:=h.mono hq;refine SR.aP fun u hu=>?_;simp only
 have rest:∀(q:Pi) (b b':Option Addr) (len:Nat) (e:TypeId),((b=none/\b'=none)\/(∃a a',b=some a/\b'=some a'/\cH q a a')\/∃a a',b=some a/\b'=some a'/\len=0)->∀wK:Bool,SR P F S K N (QV S)
  (match b with
    |some a=>if 0<=n/\n<(len:Int)then(Go.sizeOf e>>=fun s=>Pure.pure (Value.pointer (some (a.add (n.toNat*s)))))else if wK=true then Go.unsupported (.noEntry "op/indexAddr.an index out of range at an array of length 0 or 1 (ledger 616)")else Go.boundsPanic k n (len:Int) .index
    |none=>Go.boundsPanic k n 0 .index)
  (match b' with
    |some a=>if 0<=n/\n<(len:Int)then(Go.sizeOf e>>=fun s=>Pure.pure (Value.pointer (some (a.add (n.toNat*s)))))else if wK=true then Go.unsupported (.noEntry "op/indexAddr.an index out of range at an array of length 0 or 1 (ledger 616)")else Go.boundsPanic k n (len:Int) .index
    |none=>Go.boundsPanic k n 0 .index) q:=by
  intro q b b' len e hb wK;rcases hb with⟨rfl,rfl⟩|⟨a,a',rfl,rfl,ha⟩|⟨a,a',rfl,rfl,rfl⟩
  .exact SR.boundsPanic _ _ _ _
  .refine SR.ite (fun _=>?_) fun _=>SR.ite (fun _=>SR.unsupported) fun _=>SR.boundsPanic _ _ _ _;exact(SR.sizeOf e).ac fun q s hq=>SR.pure (ha.mono hq|>.add _).ptr
  .refine SR.ite (fun h=>absurd h.2 (by simp only[Int.natCast_zero];omega)) fun _=>SR.ite (fun _=>SR.unsupported) fun _=>SR.boundsPanic _ _ _ _
 cases u with
 |array len e=>
  refine(SR.sureAddr h).bind fun q2 a a' bd ha=>?_;refine SR.aP fun u hu=>?_;exact rest q2 _ _ len e (.inr (.inl ⟨a,a',rfl,rfl,ha⟩)) _
 |slice e=>
  cases v with
  |slice b len cap=>
   cases v' with
   |slice b' JT d9=>
    obtain⟨rfl,rfl,hs⟩:=ga h;refine SR.aP fun u hu=>?_;exact rest q _ _ len e (hs.imp id fun h=>h.imp id fun⟨b,b',h1,h2,h3,_⟩=>⟨b,b',h1,h2,h3⟩) _
   |_=>cases h
  |_=>cases h<;>exact SR.stuck
 |_=>exact SR.stuck
end
section
variable {P:Program} {F:Array Func} {S:Nat->Bool} {K:Code->Prop} {N:Nat} {p:Pi}
theorem SR.lenOf (h:VR S p x x'):SR P F S K N (fun _ a b=>a=b/\∀b l c,x=.slice b l c->a=l) (Builtin.lenOf x) (Builtin.lenOf x') p:=by
 cases h<;>first|exact SR.pure ⟨rfl,fun b l c e=>by cases e<;>rfl⟩|exact SR.stuck
theorem SR.firstCells (s n:Nat) (h:VR S p x x') (hn:∀b c,x=.slice b 0 c->n=0):SR P F S K N (QA S) (Builtin.firstCells s n x) (Builtin.firstCells s n x') p:=by
 cases h<;>first|exact SR.stuck|skip
 .rename_i s1;exact SR.pure (AR.map _ _ _ fun x _=>.int _ _)
 .exact SR.pure AR.empty
 .rename_i r r' o sp l c g;exact SR.loadCells (a:=⟨r,o,sp⟩) (a':=⟨r',o,sp⟩) ⟨g,rfl,rfl⟩ _
 .obtain rfl:=hn _ _ rfl;simp only[Builtin.firstCells,Nat.zero_mul];exact SR.pure AR.empty
theorem SR.ng (s:Nat) (h:VR S p x x'):SR P F S K N (fun _ a b=>a=#[]/\b=#[]) (Builtin.firstCells s 0 x) (Builtin.firstCells s 0 x') p:=by
 have hl:∀b:Addr,Go.loadCells b (0*s)=Pure.pure #[]:=fun b=>by rw[Nat.zero_mul];rfl
 cases h<;>first|exact SR.stuck|exact SR.pure ⟨rfl,rfl⟩|(simp only[Builtin.firstCells,hl];exact SR.pure ⟨rfl,rfl⟩)|exact SR.pure ⟨by simp,by simp⟩
theorem eZ (h:AR S p z z') (n:Nat):AR S p (Builtin.zeroCells z n) (Builtin.zeroCells z' n):=by
 unfold Builtin.zeroCells;rw[<-h.1];have:=fR h (n*z.size);rw[<-h.1]at this;exact this
theorem iZ (a:Addr) (n:Nat) (w:World) (es:Array Event):∃b,(Builtin.holdsCells a n).runT P w es=(.ok b w,es):=by
 unfold Builtin.holdsCells;show∃b,(Sem.shape a.block fun s=>_).runT P w es=_;simp only[Sem.runT];cases w.shape? a.block with
 |none=>exact⟨_,rfl⟩
 |some x=>exact⟨_,rfl⟩
theorem iM (P:Program) (f:α->Sem β) {a:α} {es1:Array Event}:∀(s:Sem α) (w:World) (es:Array Event),s.runT P w es=(.ok a w1,es1)->(s.bind f).runT P w es=(f a).runT P w1 es1:=by
 intro s;induction s with
 |pure x=>intro w es e;simp only[Sem.runT,Prod.mk.injEq,Result.ok.injEq]at e;obtain⟨⟨rfl,rfl⟩,rfl⟩:=e;rfl
 |load m a k ih=>
  intro w es e;simp only[Sem.bind,Sem.runT]at e⊢;cases hc:w.cell? a with
  |some v=>rw[hc]at e;exact ih v _ _ e
  |none=>
   rw[hc]at e;simp only at e⊢;cases hf:w.farLoad P a (m== .atomic)with
   |ok x=>rw[hf]at e;exact ih _ _ _ e
   |error x=>rw[hf]at e;cases e
 |store m a v k ih=>
  intro w es e;cases hv:cG v with
  |false=>obtain⟨x,hx,_⟩:=ie P m a v k w es hv;rw[hx]at e;cases e
  |true=>
   rw[cv P m a v k w es hv]at e;show(Sem.store m a v (k.bind f)).runT P w es=_;rw[cv P m a v _ w es hv];cases hc:w.cell? a with
   |some u=>
    rw[hc]at e;simp only at e⊢;by_cases hz:w.frozen? a=true
    .simp only[hz,if_true]at e;cases e
    .simp only[hz,Bool.false_eq_true,if_false]at e⊢;exact ih _ _ e
   |none=>
    rw[hc]at e;simp only at e⊢;cases hf:w.farStore P a v (m== .atomic)with
    |ok x=>rw[hf]at e;exact ih _ _ e
    |error x=>rw[hf]at e;cases e
 |new o k ih=>intro w es e;exact ih _ _ _ e
 |shape r k ih=>intro w es e;exact ih _ _ _ e
 |freeze a n k ih=>intro w es e;exact ih _ _ e
 |frozen a k ih=>intro w es e;exact ih _ _ _ e
 |getObj r k ih=>
  intro w es e;simp only[Sem.bind,Sem.runT]at e⊢;cases ho:w.heap[r]? with
  |none=>rw[ho]at e;cases e
  |some o=>rw[ho]at e;cases o<;>first|exact ih _ _ _ e|(cases e;done)
 |setObj r o k ih=>
  intro w es e;simp only[Sem.bind,Sem.runT]at e⊢;cases ho:w.heap[r]? with
  |none=>rw[ho]at e;cases e
  |some o'=>rw[ho]at e;cases o'<;>first|exact ih _ _ e|(cases e;done)
 |choose q k ih=>
  intro w es e;simp only[Sem.bind,Sem.runT]at e⊢;split at e
  .rename_i hq;simp only[hq,if_true];exact ih _ _ _ e
  .rename_i hq;simp only[hq,if_false,Bool.false_eq_true];exact ih _ _ _ e
 |sys c k ih=>intro w es e;exact ih _ _ _ e
 |program k ih=>intro w es e;exact ih _ _ _ e
 |mark m k ih=>intro w es e;exact ih _ _ e
 |halt x=>intro w es e;cases e
theorem pW (s l n:Nat) (b:Option Addr) (x:Value) (w:World) (es:Array Event):∃c,(Builtin.mayShare s l n b x).runT P w es=(.ok c w,es):=by
 have tail:∀t:Bool,∃c,(if(!t)=true then(Pure.pure true:Sem Bool)else match x with
  |.slice (some b') _ _=>Builtin.holdsCells b' (n*s)>>=fun h=>Pure.pure (!h||b.any (·.block==b'.block))
  |_=>Pure.pure false).runT P w es=(.ok c w,es):=by
  intro t;split
  .exact⟨_,rfl⟩
  .split
   .rename_i b' _ _;obtain⟨h,hh⟩:=iZ (P:=P) b' (n*s) w es;exact⟨_,(iM P _ _ w es hh)⟩
   .exact⟨_,rfl⟩
 unfold Builtin.mayShare;cases b with
 |none=>exact tail true
 |some a=>
  obtain⟨h,hh⟩:=iZ (P:=P) a (l*s) w es;obtain⟨c,hc⟩:=tail (h&&!w.frozen? (a.add (l/2*s)));refine⟨c,?_⟩;show((Builtin.holdsCells a (l*s)).bind _).runT P w es=_;rw[iM P _ _ w es hh];exact hc
theorem uo (s l n:Nat) (b:Option Addr) (x:Value) (u:Unsupported) (hu:∀g,u≠ .initOrder g) (k:PUnit->Sem β):
 ah P (Builtin.mayShare s l n b x>>=fun c=>if(!c)=true then Go.mark .noRoom>>=fun _=>Go.unsupported u>>=k else Go.unsupported u>>=k):=by
 intro w es;obtain⟨c,hc⟩:=pW (P:=P) s l n b x w es;have hd:dead (.unsupported u):=by cases u<;>first|trivial|exact absurd rfl (hu _)
 show∃h w1 es1,((Builtin.mayShare s l n b x).bind _).runT P w es=_/\_;rw[iM P _ _ w es hc];cases c with
 |true=>exact⟨_,w,es,rfl,hd⟩
 |false=>exact⟨_,w,es.push ⟨.mark .noRoom,false,true⟩,rfl,hd⟩
def kq (P:Program) (ts:Array TypeId):Bool:=match ts[1]? with|some t=>(match P.underlying t with|some (.int _)=>false|_=>true)|none=>true
def bX (e:TypeId) (b:Option Addr) (sl sc n size:Nat) (x:Value):Sem Value:=
 Go.choose (.appendCap (sl+n) sc e)>>=fun wL=>Go.typeInfo e>>=fun i=>Go.askRoom (wL*i.bytes)>>=fun _=>
  Builtin.firstCells size sl (.slice b sl sc)>>=fun old=>Builtin.firstCells size n x>>=fun new=>Go.zeroValue e>>=fun z=>
   Go.newRow e (old++new++Builtin.zeroCells z.cells (wL-(sl+n)))>>=fun a=>Pure.pure (.slice (some a) (sl+n) wL)
def fS (e:TypeId) (b:Option Addr) (sl sc n size:Nat) (x:Value):Sem Value:=
 Go.typeInfo e>>=fun i=>if Builtin.nextslicecap (sl+n) sc*i.bytes>2^48 then
  ((Builtin.mayShare size sl n b x>>=fun c=>if(!c)=true then Go.mark .noRoom>>=fun _=>Go.unsupported (.resourceLimit "append: a slice or a string whose bytes no memory bears")else Go.unsupported (.resourceLimit "append: a slice or a string whose bytes no memory bears"))>>=fun(_:PUnit)=>bX e b sl sc n size x)
  else bX e b sl sc n size x
def bA (e:TypeId) (b:Option Addr) (sl sc size:Nat) (x:Value):Sem Value:=
 Builtin.lenOf x>>=fun n=>if sl+n<=sc then
  Builtin.firstCells size n x>>=fun new=>match b with
   |some a=>Go.storeCells (a.add (sl*size)) new.toList>>=fun _=>Pure.pure (.slice b (sl+n) sc)
   |none=>Pure.pure (.slice b (sl+n) sc)
  else Go.typeInfo e>>=fun i=>if((sl+n:Nat):Int)>IntKind.i64.max/\(false=true\/i.bytes=0)then(Go.runtimePanic (.error "growslice: len out of range")>>=fun(_:PUnit)=>fS e b sl sc n size x)else fS e b sl sc n size x
def BR (p:Pi) (b b':Option Addr) (sl sc:Nat):Prop:=(b=none/\b'=none)\/(∃a a',b=some a/\b'=some a'/\cH p a a')\/∃a a',b=some a/\b'=some a'/\sl=0/\sc=0
theorem BR.mono {q:Pi} (h:Le p q) {b:Option Addr} {sl sc:Nat} (x:BR p b b' sl sc):BR q b b' sl sc:=x.imp id fun y=>y.imp (fun⟨a,a',h1,h2,h3⟩=>⟨a,a',h1,h2,h3.mono h⟩) id
theorem BR.sl {b:Option Addr} (x:BR p b b' l c):VR S p (.slice b l c) (.slice b' l c):=by
 rcases x with⟨rfl,rfl⟩|⟨a,a',rfl,rfl,h⟩|⟨a,a',rfl,rfl,rfl,rfl⟩
 .exact .bC l c
 .exact h.sl l c
 .exact .bJ a a'
theorem SR.bX (hz:az P) (e:TypeId) {b:Option Addr} (sl sc n size:Nat) (hb:BR p b b' sl sc) (hx:VR S p x x') (yS:∀b c,x=.slice b 0 c->n=0):SR P F S K N (QV S) (bX e b sl sc n size x) (bX e b' sl sc n size x') p:=by
 refine(SR.choose _).ac fun q1 c ly=>SR.fM fun i hi=>(SR.askRoom _).ac fun q2 _ bd=>?_;have hb:=(hb.mono ly).mono bd;have hx:=(hx.mono ly).mono bd;refine(SR.firstCells size sl hb.sl (fun b c h=>by simp only[Value.slice.injEq]at h;exact h.2.1)).bind fun q3 o o' dW ho=>(SR.firstCells size n (hx.mono dW) yS).bind fun q4 y y' pU hy=>(SR.zeroValue hz e).bind fun q5 z z' E5 kI=>?_;obtain⟨rfl,hv⟩:=kI;exact(SR.newRow e ((((ho.mono pU).mono E5).append (hy.mono E5)).append (eZ hv.cells _))).bind fun q6 a a' hq6 ha=>SR.pure (ha.1.sl _ _)
theorem SR.fS (hz:az P) (e:TypeId) {b:Option Addr} (sl sc n size:Nat) (hb:BR p b b' sl sc) (hx:VR S p x x') (yS:∀b c,x=.slice b 0 c->n=0):SR P F S K N (QV S) (fS e b sl sc n size x) (fS e b' sl sc n size x') p:=by
 refine SR.fM fun i hi=>SR.ite (fun _=>?_) fun _=>SR.bX hz e sl sc n size hb hx yS;have hu:∀g,Unsupported.resourceLimit "append: a slice or a string whose bytes no memory bears" ≠ .initOrder g:=fun g h=>by cases h
 have hd:=ah.bind (uo (P:=P) size sl n b x _ hu (fun(u:PUnit)=>Pure.pure u)) (fun(_:PUnit)=>aC.bX e b sl sc n size x);rcases hb with⟨rfl,rfl⟩|⟨a,a',rfl,rfl,iK⟩|⟨a,a',rfl,rfl,_⟩
 .cases hx with
  |slice o sp l c g=>exact SR.ig hd rfl
  |_=>exact SR.ig hd rfl
 .exact SR.ig hd rfl
 .exact SR.ig hd rfl
theorem SR.bA (hz:az P) (e:TypeId) {b:Option Addr} (sl sc size:Nat) (hb:BR p b b' sl sc) (hx:VR S p x x'):SR P F S K N (QV S) (bA e b sl sc size x) (bA e b' sl sc size x') p:=by
 refine(SR.lenOf hx).bind fun q1 n n' ly hn=>?_;obtain⟨rfl,hn⟩:=hn;have yS:∀b c,x=.slice b 0 c->n=0:=fun b c e=>hn b 0 c e;have hb:=hb.mono ly;have hx:=hx.mono ly;refine SR.ite (fun hle=>?_) fun _=>SR.fM fun i hi=>SR.ite (fun _=>?_) fun _=>SR.fS hz e sl sc n size hb hx yS
 .rcases hb with⟨rfl,rfl⟩|⟨a,a',rfl,rfl,iK⟩|⟨a,a',rfl,rfl,rfl,rfl⟩
  .exact(SR.firstCells size n hx yS).bind fun q2 y y' bd hy=>SR.pure (.bC _ _)
  .exact(SR.firstCells size n hx yS).bind fun q2 y y' bd hy=>(SR.cn ((iK.mono bd).add _) hy).ac fun q3 _ dW=>SR.pure (((iK.mono bd).mono dW).sl _ _)
  .obtain rfl:n=0:=by omega
   refine(SR.ng size hx).bind fun q2 y y' bd hy=>?_;obtain⟨rfl,rfl⟩:=hy;exact SR.pure (.bJ a a')
 .exact SR.bind (Q:=QE PUnit) (SR.err _) fun q2 _ _ bd _=>SR.fS hz e sl sc n size (hb.mono bd) (hx.mono bd) yS
theorem SR.append (hz:az P) (ts:Array TypeId) (ht:kq P ts=true) (t:TypeId) (h:AR S p xs aT):SR P F S K N (QV S) (Builtin.append_ ts t xs) (Builtin.append_ ts t aT) p:=by
 unfold Builtin.append_;cases h0:ts[0]? with
 |none=>cases xs[0]? <;>cases xs[1]? <;>exact SR.stuck
 |some sT=>
 cases h1:xs[0]? with
 |none=>cases xs[1]? <;>exact SR.stuck
 |some s=>
 cases h2:xs[1]? with
 |none=>exact SR.stuck
 |some x=>
 obtain⟨s',lz,hs⟩:=h.get h1;obtain⟨x',kr,hx⟩:=h.get h2;rw[lz,kr];simp only;refine SR.aP fun u hu=>?_;cases u with
 |slice e=>
  cases s with
  |slice b sl sc=>
   cases s' with
   |slice b' eR pK=>
    obtain⟨rfl,rfl,hb⟩:=ga hs;have hb:BR p b b' sl sc:=hb;simp only;refine(SR.sizeOf e).ac fun q size hq=>?_;have key:=SR.bA (P:=P) (F:=F) (S:=S) (K:=K) (N:=N) hz e sl sc size (hb.mono hq) (hx.mono hq);rcases hb with⟨rfl,rfl⟩|⟨a,a',rfl,rfl,iK⟩|⟨a,a',rfl,rfl,_⟩
    all_goals cases h3:ts[1]? with
    |none=>
     simp only[pure_bind,Bool.false_eq_true,if_false,Bool.not_false,if_true,false_or];unfold aC.bA aC.fS aC.bX at key;simp only[Bool.false_eq_true,false_or]at key;exact key
    |some xT=>
     refine SR.aP fun u hu=>?_;simp only[kq,h3,hu]at ht;unfold aC.bA aC.fS aC.bX at key;simp only[Bool.false_eq_true,false_or]at key;cases u<;>first|(cases ht;done)|skip
     all_goals simp only[pure_bind,Bool.false_eq_true,if_false,Bool.not_false,if_true,false_or]
     all_goals exact key
   |_=>cases hs
  |_=>cases hs<;>exact SR.stuck
 |_=>exact SR.stuck
end
section
variable {P:Program} {F:Array Func} {S:Nat->Bool} {K:Code->Prop} {N:Nat} {p:Pi}
theorem SR.copy (ts:Array TypeId) (t:TypeId) (h:AR S p xs aT):SR P F S K N (QV S) (Builtin.copy_ ts t xs) (Builtin.copy_ ts t aT) p:=by
 unfold Builtin.copy_;cases h0:ts[0]? with
 |none=>cases xs[0]? <;>cases xs[1]? <;>exact SR.stuck
 |some dT=>
 cases h1:xs[0]? with
 |none=>cases xs[1]? <;>exact SR.stuck
 |some s=>
 cases h2:xs[1]? with
 |none=>exact SR.stuck
 |some x=>
 obtain⟨s',lz,hs⟩:=h.get h1;obtain⟨x',kr,hx⟩:=h.get h2;rw[lz,kr];simp only;refine SR.aP fun u hu=>?_;cases u with
 |slice e=>
  cases s with
  |slice b sl sc=>
   cases s' with
   |slice b' eR pK=>
    obtain⟨rfl,rfl,hb⟩:=ga hs;simp only;refine(SR.lenOf hx).bind fun q n n' hq hn=>(SR.sizeOf e).ac fun q2 size bd=>?_;obtain⟨rfl,hn⟩:=hn;have Nc:∀b c,x=.slice b 0 c->min n sl=0:=fun b c e=>by rw[hn b 0 c e];exact Nat.zero_min _
    rcases hb with⟨rfl,rfl⟩|⟨a,a',rfl,rfl,iK⟩|⟨a,a',rfl,rfl,rfl,rfl⟩
    .exact(SR.firstCells size _ ((hx.mono hq).mono bd) Nc).bind fun q3 y y' dW hy=>SR.pure (.int _ _)
    .exact(SR.firstCells size _ ((hx.mono hq).mono bd) Nc).bind fun q3 y y' dW hy=>(SR.cn (((iK.mono hq).mono bd).mono dW) hy).ac fun q4 _ pU=>SR.pure (.int _ _)
    .have e0:Nat.min n 0=0:=Nat.min_zero n;rw[e0];refine(SR.ng size ((hx.mono hq).mono bd)).bind fun q3 y y' dW hy=>?_;obtain⟨rfl,rfl⟩:=hy;exact SR.pure (.int _ _)
   |_=>cases hs
  |_=>cases hs<;>exact SR.stuck
 |_=>exact SR.stuck
def oB (P:Program) (ts:Array TypeId):Bool:=match ts[0]? with|some t=>(match P.underlying t with|some (.chan ..)=>false|_=>true)|none=>true
theorem SR.len (ts:Array TypeId) (ht:oB P ts=true) (t:TypeId) (h:AR S p xs aT):SR P F S K N (QV S) (Builtin.len_ ts t xs) (Builtin.len_ ts t aT) p:=by
 unfold Builtin.len_;cases h0:ts[0]? with
 |none=>cases xs[0]? <;>exact SR.stuck
 |some dT=>
 cases h1:xs[0]? with
 |none=>exact SR.stuck
 |some s=>
 obtain⟨s',lz,hs⟩:=h.get h1;rw[lz];simp only;refine SR.aP fun u hu=>?_;simp only[oB,h0,hu]at ht;cases u with
 |chan=>cases ht
 |array n e=>cases hs<;>exact SR.pure (.int _ _)
 |pointer arr=>
  cases hs<;>
  .refine SR.aP fun u hu=>?_;cases u<;>first|exact SR.pure (.int _ _)|exact SR.stuck
 |map k e=>
  cases hs<;>first|exact SR.stuck|exact SR.pure (.int _ _)|skip
  rename_i r r' g;refine(SR.getObj g).bind fun q o o' hq ho=>?_;cases ho with
  |map c h g=>simp only;rw[h];exact SR.pure (.int _ _)
  |_=>exact SR.stuck
 |string=>cases hs<;>first|exact SR.pure (.int _ _)|exact SR.stuck
 |slice e=>cases hs<;>first|exact SR.pure (.int _ _)|exact SR.stuck
 |_=>cases hs<;>exact SR.stuck
theorem SR.clear (hz:az P) (ts:Array TypeId) (t:TypeId) (h:AR S p xs aT):SR P F S K N (QV S) (Builtin.clear_ ts t xs) (Builtin.clear_ ts t aT) p:=by
 unfold Builtin.clear_;cases h0:ts[0]? with
 |none=>cases xs[0]? <;>exact SR.stuck
 |some dT=>
 cases h1:xs[0]? with
 |none=>exact SR.stuck
 |some s=>
 obtain⟨s',lz,hs⟩:=h.get h1;rw[lz];simp only;refine SR.aP fun u hu=>?_;have hv:∀q,VR S q (.tuple #[]) (.tuple #[]):=fun q=>VR.plain 2 _ (by simp[plain])
 have JZ:∀r r',p r r'->SR P F S K N (QV S)
  (Go.getObj r>>=fun o=>match o with|.map _ c=>Go.setObj r (.map #[] c)>>=fun _=>Pure.pure (.tuple #[])|_=>Go.stuck "clear: map expected" >>=fun(_:PUnit)=>Pure.pure (.tuple #[]))
  (Go.getObj r'>>=fun o=>match o with|.map _ c=>Go.setObj r' (.map #[] c)>>=fun _=>Pure.pure (.tuple #[])|_=>Go.stuck "clear: map expected" >>=fun(_:PUnit)=>Pure.pure (.tuple #[])) p:=by
  intro r r' g;refine(SR.getObj g).bind fun q o o' hq ho=>?_;cases ho with
  |map c h g2=>exact(SR.setObj (hq _ _ g) (.map c rfl fun i e e' h=>by simp at h)).ac fun q2 _ bd=>SR.pure (hv q2)
  |_=>exact SR.stuck
 have nP:∀(e:TypeId) (a a':Addr) (n:Nat),cH p a a'->SR P F S K N (QV S)
  (Go.zeroValue e>>=fun z=>Go.storeCells a (Builtin.zeroCells z.cells n).toList>>=fun _=>Pure.pure (.tuple #[]))
  (Go.zeroValue e>>=fun z=>Go.storeCells a' (Builtin.zeroCells z.cells n).toList>>=fun _=>Pure.pure (.tuple #[])) p:=by
  intro e a a' n ha;refine(SR.zeroValue hz e).bind fun q z z' hq kI=>?_;obtain⟨rfl,Fl⟩:=kI;exact(SR.cn (ha.mono hq) (eZ Fl.cells n)).ac fun q2 _ bd=>SR.pure (hv q2)
 cases hs with
 |jf=>cases u<;>exact SR.pure (hv p)
 |bC l c=>cases u<;>exact SR.pure (hv p)
 |bJ a a'=>cases u<;>exact SR.pure (hv p)
 |map g=>cases u<;>exact JZ _ _ g
 |slice o sp l c g=>
  cases l with
  |zero=>cases u<;>exact SR.pure (hv p)
  |succ l=>cases u<;>first|exact SR.stuck|exact nP _ ⟨_,o,sp⟩ ⟨_,o,sp⟩ _ ⟨g,rfl,rfl⟩
 |_=>cases u<;>exact SR.stuck
theorem SR.max2 (hx:VR S p x x') (hy:VR S p y y'):SR P F S K N (QV S) (Builtin.max2 x y) (Builtin.max2 x' y') p:=by
 cases hx<;>cases hy<;>first|exact SR.stuck|exact SR.unsupported|exact SR.pure (.int _ _)|skip
 rename_i s1 s2;refine SR.bind (Q:=QV S) (SR.stringOp .geq s1 s2) fun q v v' hq hv=>?_;exact(SR.asBool hv).ac fun q2 b bd=>SR.pure (.string _)
theorem SR.min2 (hx:VR S p x x') (hy:VR S p y y'):SR P F S K N (QV S) (Builtin.min2 x y) (Builtin.min2 x' y') p:=by
 cases hx<;>cases hy<;>first|exact SR.stuck|exact SR.unsupported|exact SR.pure (.int _ _)|skip
 rename_i s1 s2;refine SR.bind (Q:=QV S) (SR.stringOp .leq s1 s2) fun q v v' hq hv=>?_;exact(SR.asBool hv).ac fun q2 b bd=>SR.pure (.string _)
theorem SR.oC (f:Value->Value->Sem Value) (hf:∀{p:Pi} {x x' y y':Value},VR S p x x'->VR S p y y'->SR P F S K N (QV S) (f x y) (f x' y') p):∀(l l':List Value) {p:Pi} {x x':Value},l.length=l'.length->(∀(i:Nat) v v',l[i]?=some v->l'[i]?=some v'->VR S p v v')->VR S p x x'->
 SR P F S K N (QV S) (l.foldlM f x) (l'.foldlM f x') p
 | [],[],_,_,_,_,_,hx=>SR.pure hx
 | [],_::_,_,_,_,h,_,_=>by cases h
 |_::_,[],_,_,_,h,_,_=>by cases h
 |v::l,v'::l',p,x,x',h,g,hx=>by
  simp only[List.foldlM_cons];exact(hf hx (g 0 v v' rfl rfl)).bind fun q y y' hq hy=>SR.oC f hf l l' (by simpa using h) (fun i a b h1 h2=>(g (i+1) a b h1 h2).mono hq) hy
theorem SR.max (ts:Array TypeId) (t:TypeId) (h:AR S p xs aT):SR P F S K N (QV S) (Builtin.max_ ts t xs) (Builtin.max_ ts t aT) p:=by
 unfold Builtin.max_;have hl:xs.toList.length=aT.toList.length:=by simpa using h.1
 have hg:∀(i:Nat) v v',xs.toList[i]?=some v->aT.toList[i]?=some v'->VR S p v v':=fun i v v' a b=>h.2 i v v' (by simpa using a) (by simpa using b);revert hl hg;generalize xs.toList=l;generalize aT.toList=l';intro hl hg;cases l<;>cases l'<;>first|(cases hl;done)|exact SR.stuck|skip
 exact SR.oC _ SR.max2 _ _ (by simpa using hl) (fun i a b h1 h2=>hg (i+1) a b h1 h2) (hg 0 _ _ rfl rfl)
theorem SR.min (ts:Array TypeId) (t:TypeId) (h:AR S p xs aT):SR P F S K N (QV S) (Builtin.min_ ts t xs) (Builtin.min_ ts t aT) p:=by
 unfold Builtin.min_;have hl:xs.toList.length=aT.toList.length:=by simpa using h.1
 have hg:∀(i:Nat) v v',xs.toList[i]?=some v->aT.toList[i]?=some v'->VR S p v v':=fun i v v' a b=>h.2 i v v' (by simpa using a) (by simpa using b);revert hl hg;generalize xs.toList=l;generalize aT.toList=l';intro hl hg;cases l<;>cases l'<;>first|(cases hl;done)|exact SR.stuck|skip
 exact SR.oC _ SR.min2 _ _ (by simpa using hl) (fun i a b h1 h2=>hg (i+1) a b h1 h2) (hg 0 _ _ rfl rfl)
def ii (P:Program) (s d:TypeId):Bool:=match P.underlying s,P.underlying d with
 |some (.int _),some (.int _)=>true
 |some .string,some (.slice e)=>(match P.underlying e with|some (.int .u8)=>true|_=>false)
 |some .string,some .string=>true
 |some (.slice e),some .string=>(match P.underlying e with|some (.int .u8)=>true|_=>false)
 |_,_=>false
def js (c:Value) (s:ByteArray):Sem (ForInStep ByteArray):=match c with
 |.int .u8 n=>Pure.pure (.yield (s.push (UInt8.ofNat n.toNat)))
 |_=>Go.stuck "bytesToString: byte expected"
theorem SR.Ce:∀{l l':List Value} {p:Pi} (s:ByteArray),l.length=l'.length->(∀(i:Nat) v v',l[i]?=some v->l'[i]?=some v'->VR S p v v')->SR P F S K N (QE ByteArray) (forIn l s js) (forIn l' s js) p
 | [],[],_,s,_,_=>SR.pure rfl
 | [],_::_,_,_,h,_=>by cases h
 |_::_,[],_,_,h,_=>by cases h
 |c::l,c'::l',p,s,h,g=>by
  simp only[List.forIn_cons];have hc:=g 0 c c' rfl rfl;have rest:∀q s,Le p q->SR P F S K N (QE ByteArray) (forIn l s js) (forIn l' s js) q:=fun q s hq=>SR.Ce s (by simpa using h) fun i v v' a b=>(g (i+1) v v' a b).mono hq;cases hc<;>first|exact SR.stuck|skip
  rename_i k n;cases k<;>first|exact SR.stuck|exact rest p _ (Le.refl _)
theorem SR.bytesToString (hx:VR S p x x'):SR P F S K N (QV S) (Conv.bytesToString x) (Conv.bytesToString x') p:=by
 have e:∀(a:Addr) (n c:Nat),Conv.bytesToString (.slice (some a) n c)=(Go.loadCells a n>>=fun cs=>forIn cs.toList ByteArray.empty js>>=fun s=>Pure.pure (Value.string s)):=by
  intro a n c;unfold Conv.bytesToString js;simp only[Array.forIn_toList];rfl
 have key:∀{q:Pi} {cs fQ:Array Value},AR S q cs fQ->SR P F S K N (QV S) (forIn cs.toList ByteArray.empty js>>=fun s=>Pure.pure (Value.string s)) (forIn fQ.toList ByteArray.empty js>>=fun s=>Pure.pure (Value.string s)) q:=fun{q cs fQ} h=>
  (SR.Ce _ (by simpa using h.1) fun i v v' a b=>h.2 i v v' (by simpa using a) (by simpa using b)).ac fun q2 s hq=>SR.pure (.string s)
 cases hx<;>first|exact SR.stuck|exact SR.pure (.string _)|skip
 .rename_i r r' o sp l c h;rw[e,e];exact(SR.loadCells (a:=⟨r,o,sp⟩) (a':=⟨r',o,sp⟩) ⟨h,rfl,rfl⟩ l).bind fun q cs fQ hq nQ=>key nQ
theorem SR.stringToBytes (e:TypeId) (s:ByteArray):SR P F S K N (QV S) (Conv.stringToBytes e s) (Conv.stringToBytes e s) p:=by
 unfold Conv.stringToBytes;refine(SR.choose _).ac fun q c hq=>?_;refine(SR.newRow e ((AR.map _ _ _ fun x _=>.int _ _).append (AR.replicate _ (.int _ _)))).bind fun q2 a a' bd ha=>?_;refine SR.bind (Q:=QE Unit) ?_ fun q3 _ _ dW _=>SR.pure ((ha.1.mono dW).sl _ _);unfold Go.markStringish;refine(SR.shape ha.1.1).ac fun q3 x dW=>?_;cases x with
 |none=>exact SR.pure rfl
 |some x=>
  obtain⟨e,n⟩:=x;exact fun hp=>⟨⟨dW _ _ ha.1.1,rfl,rfl⟩,rfl,ha.2,rfl⟩
theorem SR.convert (s d:TypeId) (ho:ii P s d=true) (hx:VR S p x x'):SR P F S K N (QV S) (Go.convert s d x) (Go.convert s d x') p:=by
 unfold Go.convert;refine SR.aP fun u hu=>SR.aP fun v hv=>?_;simp only[ii,hu,hv]at ho;cases u<;>first|(cases ho;done)|skip
 .cases v<;>first|(cases ho;done)|skip
  cases hx<;>first|exact SR.stuck|exact SR.pure (.int _ _)|exact SR.unsupported
 .cases v<;>first|(cases ho;done)|skip
  .cases hx<;>first|exact SR.stuck|exact SR.unsupported|exact SR.pure (.string _)
  .rename_i e;cases hx<;>first|exact SR.stuck|exact SR.unsupported|skip
   refine SR.aP fun w hw=>?_;simp only[hw]at ho;cases w<;>first|(cases ho;done)|skip
   rename_i k;cases k<;>first|(cases ho;done)|exact SR.stringToBytes _ _
 .cases v<;>first|(cases ho;done)|skip
  rename_i e
  have rest:∀{y y':Value},VR S p y y'->SR P F S K N (QV S) (Go.underlying e>>=fun w=>match w with|.int .u8=>Conv.bytesToString y|.int .i32=>Conv.runesToString y|_=>Go.stuck "Convert: a slice of what to string?")
   (Go.underlying e>>=fun w=>match w with|.int .u8=>Conv.bytesToString y'|.int .i32=>Conv.runesToString y'|_=>Go.stuck "Convert: a slice of what to string?") p:=fun{y y'} hy=>by
   refine SR.aP fun w hw=>?_;simp only[hw]at ho;cases w<;>first|(cases ho;done)|skip
   rename_i k;cases k<;>first|(cases ho;done)|exact SR.bytesToString hy
  have km:=hx;cases hx<;>first|exact rest km|exact SR.pure (.string _)|skip
  .rename_i hj hv;cases x'<;>first|(cases hv;done)|exact rest km
inductive NX (S:Nat->Bool) (K:Code->Prop) (p:Pi):Next->Next->Prop
 |value {v v':Value} (h:VR S p v v'):NX S K p (.value v) (.value v')
 |skip:NX S K p .skip .skip
 |enter {f:Nat} {xs aT:Array Value} (hf:S f=true) (h:AR S p xs aT):NX S K p (.enter f xs) (.enter f aT)
 |round {l l' f:Nat} {xs aT:Array Value} {a b:Code} (hl:p l l') (hf:S f=true) (h:AR S p xs aT) (ha:K a) (hb:K b) (hz:K (.label (100000+f))):NX S K p (.round l f xs a b) (.round l' f aT a b)
abbrev QX (S:Nat->Bool) (K:Code->Prop):Pi->Next->Next->Prop:=fun q a b=>NX S K q a b
def ij (P:Program) (F:Array Func) (S:Nat->Bool):Prop:=(S JK=true->P.info? 1000000=none)/\∀f,S f=true->(P.funcs[f]?=none/\F[f]?=none)\/
 ∃fn gJ,P.funcs[f]? =some fn/\F[f]? =some gJ/\fn.body.isSome=true/\gJ.body.isSome=true/\fn.name≠ "runtime.NumGoroutine" /\gJ.name≠ "runtime.NumGoroutine"
theorem qu (h:P.info? 1000000=none):ah P (Go.typeInfo 1000000):=by
 unfold Go.typeInfo;refine ah.Is (k:=fun P=>match P.info? 1000000 with|some i=>Pure.pure i|none=>Go.stuck "no such type") ?_;rw[h];exact ah.stuck _
theorem pX (n:String) (h:ys[0]?=some v):invoke (.fn (.method n) #[]) ys=callMethod v n (ys.extract 1 ys.size):=by
 show(match ys[0]? with|some recv=>callMethod recv n (ys.extract 1)|_=>Go.stuck "call: a method without a receiver")=_;rw[h]
theorem qv (xs:Array Value):(Deferred.ofValue MF xs>>=fun d=>invoke d.target d.args)=callMethod (.iface 1000000 .nilIface) "" ((#[Value.iface 1000000 .nilIface]++xs).extract 1 (#[Value.iface 1000000 .nilIface]++xs).size):=by
 show invoke (.fn (.method "") #[]) (#[.iface 1000000 .nilIface]++xs)=_;exact pX (v:=.iface 1000000 .nilIface) "" (by simp[Array.getElem?_append])
theorem Fm (h:P.info? 1000000=none) (xs:Array Value):ah P (Deferred.ofValue MF xs>>=fun d=>invoke d.target d.args):=by
 rw[qv];unfold callMethod;refine ah.Is (k:=fun P=>Sem.bind (method (P.types.size+Made.depth) 1000000 .nilIface "") _) ?_;refine ah.bind ?_ _;show ah P (method ((P.types.size+99)+1) 1000000 .nilIface "");unfold method;exact ah.bind (qu h) _
theorem J0 (h:P.info? 1000000=none) (f:Option Bool->Sem α):ah P (Go.program>>=fun q=>nilAhead (q.types.size+Made.depth) 1000000 .nilIface "" >>=f):=by
 refine ah.Is (k:=fun P=>Sem.bind (nilAhead (P.types.size+Made.depth) 1000000 .nilIface "") _) ?_;refine ah.bind ?_ _;show ah P (nilAhead ((P.types.size+99)+1) 1000000 .nilIface "");unfold nilAhead;exact ah.bind (qu h) _
theorem SR.callFunc (hb:ij P F S) {f:Nat} (hf:S f=true) (h:AR S p xs aT):SR P F S K N (QX S K) (Go.callFunc f xs) (Go.callFunc f aT) p:=by
 unfold Go.callFunc;refine SR.eF ?_
 have key:∀fn:Func,fn.body.isSome=true->fn.name≠ "runtime.NumGoroutine" ->fn.body.isNone=false/\(fn.name== "runtime.NumGoroutine")=false:=fun fn h2 h3=>
  ⟨by cases hx:fn.body<;>simp[hx]at h2⊢,by simpa using h3⟩
 rcases hb.2 f hf with⟨h1,h2⟩|⟨fn,gJ,h1,h2,h3,h4,h5,h6⟩
 .rw[h1];exact SR.stuck
 .have kr:(ab P F).funcs[f]?=some gJ:=h2;rw[h1,kr];simp only[key fn h3 h5,key gJ h4 h6,Bool.false_eq_true,if_false];exact SR.pure (.enter hf h)
theorem sf (ps:Array Nat) {as bs:Array Value} (h:AR S p xs ys) (k:AR S p as bs):AR S p ((ps.zip xs).foldl (fun ts (t,a)=>ts.setIfInBounds t a) as) ((ps.zip ys).foldl (fun ts (t,a)=>ts.setIfInBounds t a) bs):=by
 rw[<-Array.foldl_toList,<-Array.foldl_toList,Array.toList_zip,Array.toList_zip];have hx:∀(i:Nat) v v',xs.toList[i]?=some v->ys.toList[i]?=some v'->VR S p v v':=fun i v v' a b=>h.2 i v v' (by simpa using a) (by simpa using b);have hl:xs.toList.length=ys.toList.length:=by simpa using h.1
 revert hx hl;generalize xs.toList=l;generalize ys.toList=l';generalize ps.toList=m;intro hx hl;clear h;induction m generalizing l l' as bs with
 |nil=>exact k
 |cons t m ih=>
  cases l<;>cases l'<;>first|(cases hl;done)|skip
  .exact k
  .rename_i v l v' l';simp only[List.zip_cons_cons,List.foldl_cons];exact ih (k.set t (hx 0 v v' rfl rfl)) l l' (fun i a b h1 h2=>hx (i+1) a b h1 h2) (by simpa using hl)
theorem SR.yield {l':Nat} (hl:p l l') (h:AR S p xs aT):SR P F S K N (QX S K) (Instr.yield l xs) (Instr.yield l' aT) p:=by
 unfold Instr.yield Instr.getLoop;refine SR.bind (Q:=fun q (a b:Loop)=>OR S K q (.loop a) (.loop b)) ?_ fun q r r' hq hr=>?_
 .refine(SR.getObj hl).bind fun q o o' hq ho=>?_;have Nf:=ho;cases ho with
  |loop h1 h2 h3 h4 h5 h6 h7 h8 k1 k2 k3 k4 k5=>exact SR.pure Nf
  |_=>exact SR.stuck
 .cases hr with
  |loop h1 h2 h3 h4 h5 h6 h7 h8 k1 k2 k3 k4 k5=>
   have h:=h.mono hq;rw[<-h.1,<-h5,<-h3,<-h6,<-h7];dsimp only;refine SR.ite (fun _=>SR.stuck) fun _=>?_;exact SR.pure (.round (hq _ _ hl) k1 (sf r.params h h4) k2 k3 k5)
def di (P:Program) (S:Nat->Bool):Operand->Bool
 |.tmp _=>true
 |.const v=>plain 50 v
 |.global g=>decide (g<P.globals.size)&&S (P.funcs.size+g)
 |.func f=>S f
def it (P:Program) (S:Nat->Bool) (c:Call):Bool:=
 match c.callee with
 |.builtin .append=>kq P c.argTypes
 |.builtin .len=>oB P c.argTypes
 |.builtin .copy|.builtin .clear|.builtin .max|.builtin .min=>true
 |.value f=>di P S f
 |_=>false
def jt (P:Program) (S:Nat->Bool) (o:Op):Bool:=
 o.operands.all (di P S)&&match o with
 |.nilCheck _|.move _|.assign _|.pick _ _ _|.alloc _|.box _ _|.build _ _|.buildSlice _ _ _|.load _ _|.store _ _ _|.unOp _ _ _|.makeSlice _ _ _|.slice _ _ _ _ _|.field _ _ _|.indexAddr _ _ _|.index _ _ _|.extract _ _=>true
 |.makeMap _ none=>true
 |.binOp op t _ _ _=>eG P op t
 |.convert s d _=>ii P s d
 |.makeFunc (.func f) _ _=>S f
 |.fieldAddr t _ f=>match P.underlying t with
  |some (.struct fs)=>(match fs[f]? with|some g=>(match P.info? g.type with|some i=>i.size !=0|none=>true)|none=>true)
  |_=>true
 |.lookup t _ _ _=>ir P t&&(!S JK||gL P t)
 |.mapUpdate t _ _ _=>ir P t&&(!S JK||gL P t)
 |.call c=>it P S c
 |_=>false
def eH (S:Nat->Bool) (o:Op):Bool:=
 match o with
 |.call c=>(match c.callee with|.value (.func f)=>S (JK+1+f)|_=>false)&&c.args.isEmpty
 |_=>false
structure iu (P:Program) (S:Nat->Bool) (p:Pi) (r r':Operand->Value):Prop where
 tmp:∀t,VR S p (r (.tmp t)) (r' (.tmp t))
 const:∀v,r (.const v)=v/\r' (.const v)=v
 global:∀g,g<P.globals.size->S (P.funcs.size+g)=true->VR S p (r (.global g)) (r' (.global g))
 func:∀f,r (.func f)=.func (.func f) #[] #[]/\r' (.func f)=.func (.func f) #[] #[]
theorem iu.at {r r':Operand->Value} (h:iu P S p r r') {x:Operand} (hx:di P S x=true):VR S p (r x) (r' x):=by
 cases x with
 |tmp t=>exact h.tmp t
 |const v=>rw[(h.const v).1,(h.const v).2];exact VR.plain 50 v hx
 |global g=>
  simp only[di,Bool.and_eq_true,decide_eq_true_eq]at hx;exact h.global g hx.1 hx.2
 |func f=>
  rw[(h.func f).1,(h.func f).2];exact .func hx rfl rfl (fun i v v' e=>by simp at e) (fun i v v' e=>by simp at e)
theorem iu.many {r r':Operand->Value} (h:iu P S p r r') {xs:Array Operand} (hx:∀x∈xs,di P S x=true):AR S p (xs.map r) (xs.map r'):=AR.map xs r r' fun x m=>h.at (hx x m)
theorem iu.opt {r r':Operand->Value} (h:iu P S p r r') {x:Option Operand} (hx:∀y,x=some y->di P S y=true):OV S p (x.map r) (x.map r'):=by
 cases x with
 |none=>trivial
 |some y=>exact h.at (hx y rfl)
theorem SR.aM {s s':Sem Value} (h:SR P F S K N (QV S) s s' p):SR P F S K N (QX S K) (s>>=fun v=>Pure.pure (.value v)) (s'>>=fun v=>Pure.pure (.value v)) p:=h.bind fun q v v' hq hv=>SR.pure (.value hv)
theorem SR.oD {s s':Sem Unit} (h:SR P F S K N (QE Unit) s s' p):SR P F S K N (QX S K) (s>>=fun _=>Pure.pure .skip) (s'>>=fun _=>Pure.pure .skip) p:=h.ac fun q v hq=>SR.pure .skip
theorem SR.fp (hb:ij P F S) {f f':Value} (hf:VR S p f f') (h:AR S p xs aT):
 SR P F S K N (QX S K) (Deferred.ofValue f xs>>=fun d=>invoke d.target d.args) (Deferred.ofValue f' aT>>=fun d=>invoke d.target d.args) p:=by
 cases hf<;>first|exact SR.stuck|skip
 .rename_i f fs Ng cs fQ hS h1 h2 g1 g2;have a1:AR S p fs Ng:=⟨h1,g1⟩
  have a2:AR S p cs fQ:=⟨h2,g2⟩
  exact SR.callFunc hb hS ((a1.append h).append a2)
 .rename_i l l' hl;show SR P F S K N (QX S K) (Instr.yield l (#[]++xs)) (Instr.yield l' (#[]++aT)) p;rw[Array.empty_append,Array.empty_append];exact SR.yield hl h
 .exact SR.nilDeref
 .rename_i hj n as bs;exact SR.ig (Fm (hb.1 hj) xs) (by rw[qv];rfl)
end
section
variable {P:Program} {F:Array Func} {S:Nat->Bool} {K:Code->Prop} {N:Nat} {p:Pi}
theorem SR.execOp (hz:az P) (hc:ai P) (hb:ij P F S) {r r':Operand->Value} (h:iu P S p r r') (o:Oper) (ho:jt P S o.op=true):SR P F S K N (QX S K) (Go.execOp r o) (Go.execOp r' o) p:=by
 unfold Go.execOp;obtain⟨dst,op,ty,pos,af,gd⟩:=o;simp only at ho⊢;unfold jt at ho;simp only[Bool.and_eq_true]at ho;obtain⟨mF,bt⟩:=ho
 have aI:∀x∈op.operands,di P S x=true:=by
  intro x hx;obtain⟨i,hi,he⟩:=Array.mem_iff_getElem.1 hx;have:=Array.all_eq_true.1 mF i hi;rw[he]at this;exact this
 cases op<;>try(simp only[Bool.false_eq_true]at bt)
 case move x=>exact SR.pure (.value (h.at (aI x (by simp[Op.operands]))))
 case assign x=>exact SR.pure (.value (h.at (aI x (by simp[Op.operands]))))
 case pick c a b=>
  refine(SR.asBool (h.at (aI c (by simp[Op.operands])))).ac fun q t hq=>?_;cases t with
  |true=>exact SR.pure (.value ((h.at (aI a (by simp[Op.operands]))).mono hq))
  |false=>exact SR.pure (.value ((h.at (aI b (by simp[Op.operands]))).mono hq))
 case alloc e=>exact SR.aM (SR.alloc hz e)
 case box e x=>exact SR.aM (SR.box e (h.at (aI x (by simp[Op.operands]))))
 case build t ps=>
  refine SR.aM (SR.build hz t ?_);rw[Array.toList_map,Array.toList_map];refine PL.map _ r r' fun x hx=>h.at (aI x.2 ?_)
  simp only[Op.operands,List.mem_toArray,List.mem_map];exact⟨x,hx,rfl⟩
 case buildSlice t n ps=>
  refine SR.aM (SR.buildSlice hz t n ?_);rw[Array.toList_map,Array.toList_map];refine PL.map _ r r' fun x hx=>h.at (aI x.2 ?_)
  simp only[Op.operands,List.mem_toArray,List.mem_map];exact⟨x,hx,rfl⟩
 case load t a=>exact SR.aM (SR.loadAt t (h.at (aI a (by simp[Op.operands]))))
 case store t a x=>exact SR.oD (SR.storeAt t (h.at (aI a (by simp[Op.operands]))) (h.at (aI x (by simp[Op.operands]))))
 case nilCheck x=>
  have hx:=h.at (aI x (by simp[Op.operands]))
  dsimp only;revert hx;generalize r x=v;generalize r' x=v';intro hx;have km:=hx;cases hx with
  |jo=>exact SR.nilDeref
  |nilIface=>exact SR.nilDeref
  |nilFunc=>exact SR.nilDeref
  |wE hj n xs ys=>exact SR.ig (J0 (hb.1 hj) _) rfl
  |mA hj hv=>
   cases v'<;>first|(cases hv;done)|exact SR.pure (Q:=QX S K) (NX.value km)|skip
   .rename_i a;cases a<;>first|(cases hv;done)|exact SR.pure (Q:=QX S K) (NX.value km)
   .rename_i f xs ys;cases f<;>first|(cases hv;done)|exact SR.pure (Q:=QX S K) (NX.value km)
  |_=>exact SR.pure (Q:=QX S K) (NX.value km)
 case binOp op t x y t2=>
  have hx:=h.at (aI x (by simp[Op.operands]))
  have hy:=h.at (aI y (by simp[Op.operands]))
  by_cases hj:(op=.eql\/op=.neq)/\(r x=.tuple #[]\/r y=.tuple #[])
  ·
   have hd:ah P (Go.eqGuard op t x y (r x) (r y)>>=fun _=>Go.binOp op t (r x) (r y))/\rK (Go.eqGuard op t x y (r x) (r y)>>=fun _=>Go.binOp op t (r x) (r y))=true:=by
    have VP:bm (r x) (r y)=false:=by rcases hj.2 with e|e<;>rw[e]<;>cases r x<;>cases r y<;>rfl
    have hg:Go.eqGuard op t x y (r x) (r y)=Pure.pure ():=by
     rcases hj.1 with rfl|rfl
     .rw[cI];rcases hj.2 with e|e<;>rw[e]<;>cases r x<;>cases r y<;>rfl
     .rw[cJ];rcases hj.2 with e|e<;>rw[e]<;>cases r x<;>cases r y<;>rfl
    rw[hg];show ah P (Go.binOp op t (r x) (r y))/\rK (Go.binOp op t (r x) (r y))=true;rcases hj.1 with rfl|rfl
    .simp only[eG,Bool.and_eq_true]at bt;rw[aC.jU t VP hj.2];exact⟨ah.bind (iL bt.1 hj.2) _,gm _⟩
    .simp only[eG,Bool.and_eq_true]at bt;rw[aC.jV t VP hj.2];exact⟨ah.bind (iL bt.1 hj.2) _,gm _⟩
   exact SR.aM (SR.ig hd.1 hd.2)
  .refine SR.aM ((SR.eqGuard op t bt x y hx hy hj).ac fun q _ hq=>SR.binOp hc op t bt (hx.mono hq) (hy.mono hq))
 case unOp op t x=>exact SR.aM (SR.unary op (h.at (aI x (by simp[Op.operands]))))
 case convert s d x=>exact SR.aM (SR.convert s d bt (h.at (aI x (by simp[Op.operands]))))
 case makeFunc fn fs cs=>
  cases fn<;>simp only[Bool.false_eq_true]at bt;rename_i f;have h1:AR S p (fs.map r) (fs.map r'):=h.many fun x hx=>aI x (by simp[Op.operands,hx]);have h2:AR S p (cs.map r) (cs.map r'):=h.many fun x hx=>aI x (by simp[Op.operands,hx]);exact SR.pure (.value (.func bt h1.1 h2.1 h1.2 h2.2))
 case makeMap t rs=>
  cases rs<;>simp only[Bool.false_eq_true]at bt;exact SR.aM (SR.makeMap t)
 case makeSlice t l c=>exact SR.aM (SR.makeSlice hz t (h.at (aI l (by simp[Op.operands]))) (h.at (aI c (by simp[Op.operands]))))
 case slice t x lo hi mx=>
  refine SR.aM ?_;have hx:=h.at (aI x (by simp[Op.operands]))
  have h1:OV S p (lo.map r) (lo.map r'):=h.opt fun y hy=>aI y (by simp[Op.operands,hy]);have h2:OV S p (hi.map r) (hi.map r'):=h.opt fun y hy=>aI y (by simp[Op.operands,hy]);have h3:OV S p (mx.map r) (mx.map r'):=h.opt fun y hy=>aI y (by simp[Op.operands,hy]);unfold Instr.sliceAt;refine SR.aP fun u hu=>?_;cases u with
  |array n e=>
   refine(SR.sureAddr hx).bind fun q a a' hq ha=>?_;refine(SR.sliceBounds false n n (h1.mono hq) (h2.mono hq) (h3.mono hq)).ac fun q2 b bd=>?_;obtain⟨l,hh,m⟩:=b;simp only;refine(SR.sizeOf e).ac fun q3 s dW=>?_;have ha:=(ha.mono bd).mono dW;split
   .exact SR.pure (ha.sl _ _)
   .exact SR.pure ((ha.add _).sl _ _)
  |_=>exact SR.slice t hx h1 h2 h3
 case fieldAddr t x f=>
  refine SR.aM (SR.fieldAt t f ?_ (h.at (aI x (by simp[Op.operands]))));intro fs g i hu hg hi;simp only[hu,hg,hi]at bt;simpa using bt
 case field t x f=>exact SR.aM (SR.field t f (h.at (aI x (by simp[Op.operands]))))
 case indexAddr t x i=>exact SR.aM (SR.indexAt t (h.at (aI x (by simp[Op.operands]))) (h.at (aI i (by simp[Op.operands]))))
 case index t x i=>exact SR.aM (SR.index t (h.at (aI x (by simp[Op.operands]))) (h.at (aI i (by simp[Op.operands]))))
 case lookup t x i ok=>
  simp only[Bool.and_eq_true,Bool.or_eq_true,Bool.not_eq_true']at bt;have hJ:S JK=true->gL P t=true:=fun h=>bt.2.elim (fun h2=>absurd (h.symm.trans h2) (by decide)) id;exact SR.aM (SR.lookup hz hc t hJ bt.1 ok (h.at (aI x (by simp[Op.operands]))) (h.at (aI i (by simp[Op.operands]))))
 case mapUpdate t m k x=>
  simp only[Bool.and_eq_true,Bool.or_eq_true,Bool.not_eq_true']at bt;have hJ:S JK=true->gL P t=true:=fun h=>bt.2.elim (fun h2=>absurd (h.symm.trans h2) (by decide)) id;exact SR.oD (SR.mapUpdate hc t hJ bt.1 (h.at (aI m (by simp[Op.operands]))) (h.at (aI k (by simp[Op.operands]))) (h.at (aI x (by simp[Op.operands]))))
 case extract x i=>exact SR.aM (SR.extract (h.at (aI x (by simp[Op.operands]))) i)
 case call c=>
  obtain⟨cl,as,ts⟩:=c;have ha:AR S p (as.map r) (as.map r'):=h.many fun x hx=>aI x (by simp[Op.operands,Call.operands,hx]);unfold it at bt;cases cl<;>simp only[Bool.false_eq_true]at bt;case value f=>exact SR.fp hb (h.at bt) ha
  case builtin b=>
   cases b<;>simp only[Bool.false_eq_true]at bt;case append=>exact SR.aM (SR.append hz ts bt ty ha)
   case len=>exact SR.aM (SR.len ts bt ty ha)
   case copy=>exact SR.aM (SR.copy ts ty ha)
   case clear=>exact SR.aM (SR.clear hz ts ty ha)
   case max=>exact SR.aM (SR.max ts ty ha)
   case min=>exact SR.aM (SR.min ts ty ha)
end
def codeOk (P:Program) (S:Nat->Bool):Code->Bool
 |.region _ ops _=>ops.all fun o=>jt P S o.op||eH S o.op
 |.seq a b=>codeOk P S a&&codeOk P S b
 |.cond c a b=>di P S c&&codeOk P S a&&codeOk P S b
 |.block _ c|.loop c|.scope c=>codeOk P S c
 |.rangeFunc f _ a b=>di P S f&&codeOk P S a&&codeOk P S b
 |.label n=>decide (n<100000)||!S (P.funcs.size+P.globals.size+1+(n-100000))
 |_=>true
def cA:Code->Bool
 |.seq a b=>cA a&&cA b
 |.cond _ a b=>cA a&&cA b
 |.block _ c|.loop c|.scope c=>cA c
 |.rangeFunc ..=>false
 |_=>true
abbrev KS (P:Program) (S:Nat->Bool):Code->Prop:=fun c=>codeOk P S c=true
inductive CR (P:Program) (S:Nat->Bool) (H:Code->Code->Prop):Code->Code->Prop
 |same {c:Code} (h:codeOk P S c=true) (hr:cA c=true\/∀a b,¬H a b):CR P S H c c
 |hole {c c':Code} (h:H c c'):CR P S H c c'
 |seq {a a' b b':Code} (ha:CR P S H a a') (hb:CR P S H b b'):CR P S H (.seq a b) (.seq a' b')
 |cond {c:Operand} {a a' b b':Code} (hc:di P S c=true) (ha:CR P S H a a') (hb:CR P S H b b'):CR P S H (.cond c a b) (.cond c a' b')
 |block (i:Nat) {a a':Code} (ha:CR P S H a a'):CR P S H (.block i a) (.block i a')
 |loop {a a':Code} (ha:CR P S H a a'):CR P S H (.loop a) (.loop a')
structure Closed (P:Program) (F:Array Func) (S:Nat->Bool) (H:FuncId->Code->Code->Prop):Prop where
 fO:az P
 db:ai P
 Nh:S JK=true->P.info? 1000000=none
 size:F.size=P.funcs.size
 BQ:∀f,S f=true->((∀a b,¬H f a b)↔S (P.funcs.size+P.globals.size+1+f)=false)
 body:∀f,S f=true->(P.funcs[f]?=none/\F[f]?=none)\/∃fn gJ c c',P.funcs[f]?=some fn/\F[f]?=some gJ/\fn.body=some c/\gJ.body=some c'/\CR P S (H f) c c'/\
  fn.name≠ "runtime.NumGoroutine" /\gJ.name≠ "runtime.NumGoroutine" /\fn.ntmps=gJ.ntmps/\fn.results=gJ.results
theorem Closed.kM {P:Program} {F:Array Func} {S:Nat->Bool} {H:FuncId->Code->Code->Prop} (h:Closed P F S H):ij P F S:=⟨h.Nh,fun f hf=>
 (h.body f hf).imp id fun⟨fn,gJ,c,c',h1,h2,h3,h4,_,h5,h6,_⟩=>⟨fn,gJ,h1,h2,by rw[h3];rfl,by rw[h4];rfl,h5,h6⟩⟩
def gp (P:Program) (S:Nat->Bool) (p:Pi):Prop:=∀g,g<P.globals.size->S (P.funcs.size+g)=true->p g g
theorem gp.mono {P:Program} {S:Nat->Bool} {p q:Pi} (h:gp P S p) (k:Le p q):gp P S q:=fun g a b=>k _ _ (h g a b)
section
variable (P:Program) (S:Nat->Bool) (H:Code->Code->Prop) (p:Pi)
inductive IR:Item->Item->Prop
 |code {c c':Code} (h:CR P S H c c'):IR (.code c) (.code c')
 |inBlock (i:Nat):IR (.inBlock i) (.inBlock i)
 |inLoop {c c':Code} (h:CR P S H c c'):IR (.inLoop c) (.inLoop c')
 |inScope {c:Code} (h:codeOk P S c=true) (hr:cA c=true\/∀a b,¬H a b):IR (.inScope c) (.inScope c)
 |inRegion {ops:Array Oper} (l:List Nat) (h:∀o∈ops,(jt P S o.op||eH S o.op)=true):IR (.inRegion ops l) (.inRegion ops l)
 |lE {l l':Nat} (h:p l l') (hr:∀a b,¬H a b):IR (.inRangeFunc l) (.inRangeFunc l')
 |iv {l l':Nat} (h:p l l') (hr:∀a b,¬H a b):IR (.endRangeFunc l) (.endRangeFunc l')
 |begin:IR .beginRound .beginRound
inductive TL:List Item->List Item->Prop
 |nil:TL [] []
 |cons {i i':Item} {l l':List Item} (h:IR P S H p i i') (t:TL l l'):TL (i::l) (i'::l')
inductive DL:List Deferred->List Deferred->Prop
 |nil:DL [] []
 |cons {r r':Nat} {l l':List Deferred} (h:p r r') (t:DL l l'):DL ({target:=.collected r,args:=#[]}::l) ({target:=.collected r',args:=#[]}::l')
inductive CL:List PanicEntry->List PanicEntry->Prop
 |nil:CL [] []
 |cons {v v':Value} (b c:Bool) {l l':List PanicEntry} (h:VR S p v v') (t:CL l l'):CL (⟨v,b,c⟩::l) (⟨v',b,c⟩::l')
inductive MR:FrameMode->FrameMode->Prop
 |run:MR .run .run
 |returning:MR .returning .returning
 |panicking {l l':List PanicEntry} (h:CL S p l l'):MR (.panicking l) (.panicking l')
inductive RR:Option Nat->Option Nat->Prop
 |none:RR .none .none
 |some {l l':Nat} (h:p l l'):RR (.some l) (.some l')
end
section
variable (P:Program) (S:Nat->Bool) (H:FuncId->Code->Code->Prop) (p:Pi)
structure jh (f f':Frame):Prop where
 fn:f.fn=f'.fn
 It:S f.fn=true
 tmps:AR S p f.tmps f'.tmps
 todo:TL P S (H f.fn) p f.todo f'.todo
 defers:DL p f.defers f'.defers
 mode:MR S p f.mode f'.mode
 kind:f.kind=.normal
 i6:f'.kind=.normal
 round:RR p f.roundOf f'.roundOf
 BQ:f.roundOf=none\/∀a b,¬H f.fn a b
 nd:(f.defers=[]/\f'.defers=[])\/∀a b,¬H f.fn a b
 wide:(∀a b,¬H f.fn a b)\/∀fn,P.funcs[f.fn]?=some fn->fn.ntmps<=f.tmps.size
inductive FL:List Frame->List Frame->Prop
 |one {f f':Frame} (h:jh P S H p f f') (r:f.roundOf=.none/\∀c c',¬H f.fn c c'):FL [f] [f']
 |cons {f f':Frame} {l l':List Frame} (h:jh P S H p f f') (t:FL l l'):FL (f::l) (f'::l')
end
section
variable {P:Program} {F:Array Func} {S:Nat->Bool} {H:Code->Code->Prop} {p q:Pi}
theorem IR.mono (h:Le p q) {i i':Item} (x:IR P S H p i i'):IR P S H q i i':=by
 cases x with
 |code h=>exact .code h
 |inBlock i=>exact .inBlock i
 |inLoop h=>exact .inLoop h
 |inScope h hr=>exact .inScope h hr
 |inRegion l h=>exact .inRegion l h
 |lE g hr=>exact .lE (h _ _ g) hr
 |iv g hr=>exact .iv (h _ _ g) hr
 |begin=>exact .begin
theorem TL.mono (h:Le p q) {l:List Item} (x:TL P S H p l l'):TL P S H q l l':=by
 induction x with
 |nil=>exact .nil
 |cons g _ ih=>exact .cons (g.mono h) ih
theorem DL.mono (h:Le p q) {l l':List Deferred} (x:DL p l l'):DL q l l':=by
 induction x with
 |nil=>exact .nil
 |cons g _ ih=>exact .cons (h _ _ g) ih
theorem CL.mono (h:Le p q) {l l':List PanicEntry} (x:CL S p l l'):CL S q l l':=by
 induction x with
 |nil=>exact .nil
 |cons b c g _ ih=>exact .cons b c (g.mono h) ih
theorem MR.mono (h:Le p q) {l l':FrameMode} (x:MR S p l l'):MR S q l l':=by
 cases x with
 |run=>exact .run
 |returning=>exact .returning
 |panicking g=>exact .panicking (g.mono h)
theorem RR.mono (h:Le p q) {l l':Option Nat} (x:RR p l l'):RR q l l':=by
 cases x with
 |none=>exact .none
 |some g=>exact .some (h _ _ g)
end
section
variable {P:Program} {F:Array Func} {S:Nat->Bool} {H:FuncId->Code->Code->Prop} {p q:Pi}
theorem jh.mono (h:Le p q) (x:jh P S H p f f'):jh P S H q f f':=
 ⟨x.fn,x.It,x.tmps.mono h,x.todo.mono h,x.defers.mono h,x.mode.mono h,x.kind,x.i6,x.round.mono h,x.BQ,x.nd,x.wide⟩
theorem FL.mono (h:Le p q) {l l':List Frame} (x:FL P S H p l l'):FL P S H q l l':=by
 induction x with
 |one g r=>exact .one (g.mono h) r
 |cons g _ ih=>exact .cons (g.mono h) ih
theorem VR.undef:VR S p Go.undef Go.undef:=VR.plain 2 _ (by simp[aC.plain,Go.undef])
theorem jh.eval (h:jh P S H p f f') (hg:gp P S p):iu P S p f.eval f'.eval where
 tmp t:=h.tmps.getD t VR.undef
 const v:=⟨rfl,rfl⟩
 global g hl hs:=.ptr 0 none (hg g hl hs)
 func f:=⟨rfl,rfl⟩
theorem jh.wM (h:jh P S H p f f') {l:List Item} (hl:TL P S (H f.fn) p l l'):jh P S H p {f with todo:=l} {f' with todo:=l'}:=
 ⟨h.fn,h.It,h.tmps,hl,h.defers,h.mode,h.kind,h.i6,h.round,h.BQ,h.nd,h.wide⟩
theorem jh.finish (h:jh P S H p f f') (hv:VR S p v v'):jh P S H p (f.finish v) (f'.finish v'):=by
 obtain⟨fn,tmps,todo,defers,mode,kind,ro⟩:=f;obtain⟨gJ,oE,Ni,Fq,Nj,i6,Ym⟩:=f';obtain⟨h1,h2,h3,h4,h5,h6,h7,h8,h9,nR,uq,ur⟩:=h;simp only at h1 h2 h3 h4 h5 h6 h7 h8 h9 nR uq ur;subst h1;cases h4 with
 |nil=>exact⟨rfl,h2,h3,.nil,h5,h6,h7,h8,h9,nR,uq,ur⟩
 |cons hi ht=>
  cases hi with
  |inRegion l ho=>
   cases l with
   |nil=>exact⟨rfl,h2,h3,.cons (.inRegion _ ho) ht,h5,h6,h7,h8,h9,nR,uq,ur⟩
   |cons i rest=>
    refine⟨rfl,h2,?_,.cons (.inRegion _ ho) ht,h5,h6,h7,h8,h9,nR,uq,ur.imp id fun h fn hf=>?_⟩
    .simp only[Frame.finish];split
     .exact h3.set _ hv
     .exact h3
    .simp only[Frame.finish];split
     .rw[Array.size_setIfInBounds];exact h fn hf
     .exact h fn hf
  |lE g hr=>exact⟨rfl,h2,h3,.cons (.iv g hr) ht,h5,h6,h7,h8,h9,nR,uq,ur⟩
  |begin=>exact⟨rfl,h2,h3,ht,h5,h6,h7,h8,h9,nR,uq,ur⟩
  |code g=>exact⟨rfl,h2,h3,.cons (.code g) ht,h5,h6,h7,h8,h9,nR,uq,ur⟩
  |inBlock i=>exact⟨rfl,h2,h3,.cons (.inBlock i) ht,h5,h6,h7,h8,h9,nR,uq,ur⟩
  |inLoop g=>exact⟨rfl,h2,h3,.cons (.inLoop g) ht,h5,h6,h7,h8,h9,nR,uq,ur⟩
  |inScope g hr=>exact⟨rfl,h2,h3,.cons (.inScope g hr) ht,h5,h6,h7,h8,h9,nR,uq,ur⟩
  |iv g hr=>exact⟨rfl,h2,h3,.cons (.iv g hr) ht,h5,h6,h7,h8,h9,nR,uq,ur⟩
theorem CL.append {l l' m m':List PanicEntry} (h:CL S p l l') (k:CL S p m m'):CL S p (l++m) (l'++m'):=by
 induction h with
 |nil=>exact k
 |cons b c g _ ih=>exact .cons b c g ih
theorem jh.raise (h:jh P S H p f f') {l l':List PanicEntry} (hl:CL S p l l'):jh P S H p (f.raise l) (f'.raise l'):=by
 obtain⟨fn,tmps,todo,defers,mode,kind,ro⟩:=f;obtain⟨gJ,oE,Ni,Fq,Nj,i6,Ym⟩:=f';obtain⟨h1,h2,h3,h4,h5,h6,h7,h8,h9,nR,uq,ur⟩:=h;simp only at h1 h2 h3 h4 h5 h6 h7 h8 h9 nR uq ur;cases h6 with
 |run=>exact⟨h1,h2,h3,h4,h5,.panicking hl,h7,h8,h9,nR,uq,ur⟩
 |returning=>exact⟨h1,h2,h3,h4,h5,.panicking hl,h7,h8,h9,nR,uq,ur⟩
 |panicking g=>exact⟨h1,h2,h3,h4,h5,.panicking (hl.append g),h7,h8,h9,nR,uq,ur⟩
theorem jh.enter (hc:Closed P F S H) {f:Nat} (hf:S f=true) {xs aT:Array Value} (h:AR S p xs aT) {k k':CallKind} (hk:k=.normal) (wt:k'=.normal):jh P S H p (Frame.enter P f xs k) (Frame.enter (ab P F) f aT k'):=by
 subst hk;subst wt;unfold Frame.enter;rcases hc.body f hf with⟨h1,h2⟩|⟨fn,gJ,c,c',h1,h2,h3,h4,h5,_,_,h6,_⟩
 .have kr:(ab P F).funcs[f]?=none:=h2;simp only[h1,kr,Option.map_none,Option.getD_none,Option.bind_none];rw[h.1];exact⟨rfl,hf,h.append (AR.replicate _ VR.undef),.cons (.code (.same rfl (.inl rfl))) .nil,.nil,.run,rfl,rfl,.none,.inl rfl,.inl ⟨rfl,rfl⟩,.inr fun fn hf=>by simp only at hf;rw[h1]at hf;cases hf⟩
 .have kr:(ab P F).funcs[f]?=some gJ:=h2;simp only[h1,kr,h3,h4,Option.map_some,Option.getD_some,Option.bind_some];rw[h.1,h6]
  exact⟨rfl,hf,h.append (AR.replicate _ VR.undef),.cons (.code h5) .nil,.nil,.run,rfl,rfl,.none,.inl rfl,.inl ⟨rfl,rfl⟩,.inr fun gn hg=>by
   simp only at hg;rw[h1]at hg;cases hg;simp only[Array.size_append,Array.size_replicate];have:=h.1;omega⟩
theorem jh.Fr {l' f:Nat} (hn:∀a b,¬H f a b) (hl:p l l') (hf:S f=true) (h:AR S p xs aT) {a b:Code} (ha:codeOk P S a=true) (hb:codeOk P S b=true):
 jh P S H p (Frame.round l f xs a b .normal) (Frame.round l' f aT a b .normal):=
 ⟨rfl,hf,h,.cons (.code (.same ha (.inr hn))) (.cons .begin (.cons (.code (.same hb (.inr hn))) .nil)),.nil,.run,rfl,rfl,.some hl,.inr hn,.inr hn,.inl hn⟩
theorem lF (l:Nat):∀(c:Code) {d:Code},cA c=true->findLabel c l=some d->cA d=true:=by
 intro c;induction c with
 |seq a b Nk Nl=>
  intro d hc hd;simp only[cA,Bool.and_eq_true]at hc;simp only[findLabel]at hd;cases ha:findLabel a l with
  |some r=>rw[ha]at hd;simp only[Option.some.injEq]at hd;subst hd;simp only[cA,Bool.and_eq_true];exact⟨Nk hc.1 ha,hc.2⟩
  |none=>rw[ha]at hd;exact Nl hc.2 hd
 |label l'=>
  intro d hc hd;simp only[findLabel]at hd;split at hd
  .simp only[Option.some.injEq]at hd;subst hd;rfl
  .cases hd
 |_=>intro d _ hd;cases hd
theorem wN {H:Code->Code->Prop} (id:Nat) {l:List Item} (h:TL P S H p l l'):(exitTo id l=none/\exitTo id l'=none)\/∃k k',exitTo id l=some k/\exitTo id l'=some k'/\TL P S H p k k':=by
 induction h with
 |nil=>exact .inl ⟨rfl,rfl⟩
 |cons hi ht ih=>
  cases hi with
  |inBlock i=>
   simp only[exitTo];split
   .exact .inr ⟨_,_,rfl,rfl,ht⟩
   .exact ih
  |_=>exact ih
theorem sg (l:Nat):∀(c:Code) {d:Code},codeOk P S c=true->findLabel c l=some d->codeOk P S d=true:=by
 intro c;induction c with
 |seq a b Nk Nl=>
  intro d hc hd;simp only[codeOk,Bool.and_eq_true]at hc;simp only[findLabel]at hd;cases ha:findLabel a l with
  |some r=>rw[ha]at hd;simp only[Option.some.injEq]at hd;subst hd;simp only[codeOk,Bool.and_eq_true];exact⟨Nk hc.1 ha,hc.2⟩
  |none=>rw[ha]at hd;exact Nl hc.2 hd
 |label l'=>
  intro d hc hd;simp only[findLabel]at hd;split at hd
  .simp only[Option.some.injEq]at hd;subst hd;rfl
  .cases hd
 |_=>intro d _ hd;cases hd
theorem wO {H:Code->Code->Prop} (id:Nat) {l:List Item} (h:TL P S H p l l'):(gotoIn id l=none/\gotoIn id l'=none)\/∃k k',gotoIn id l=some k/\gotoIn id l'=some k'/\TL P S H p k k':=by
 induction h with
 |nil=>exact .inl ⟨rfl,rfl⟩
 |cons hi ht ih=>
  cases hi with
  | @inScope c hc hr=>
    simp only[gotoIn];cases hd:findLabel c id with
    |some d=>exact .inr ⟨_,_,rfl,rfl,.cons (.code (.same (sg id c hc hd) (hr.imp (fun x=>lF id c x hd) fun x=>x))) (.cons (.inScope hc hr) ht)⟩
    |none=>exact ih
  |_=>exact ih
def mG (S:Nat->Bool) (f:Frame):Prop:=
 f.mode=.run/\∃o ops i is k,f.todo=.inRegion ops (i::is)::k/\ops[i]?=some o/\eH S o.op=true/\Region.wanted o (yielded ops f.tmps)=true
theorem ni (ops:Array Oper) (h:AR S p xs ys) (j:Nat):yielded ops xs j=yielded ops ys j:=by
 unfold yielded;cases((ops[j]?).bind (·.dst))with
 |none=>rfl
 |some d=>
  simp only[Option.bind_some];cases hx:xs[d]? with
  |none=>rw[h.none hx]
  |some v=>
   obtain⟨v',iJ,hr⟩:=h.get hx;rw[iJ];cases hr with
   |mA hj h=>cases v'<;>first|rfl|cases h
   |_=>rfl
theorem mem_seen {P:Program} {fn:FuncId} {e:Event} (h:e∈seen P fn es):e∈es:=by
 have key:∀(quiet:FuncId->Bool) (l:List Event) (q:Bool) (kept:Array Event),e∈(l.foldl (fun(x:Bool×Array Event) (e:Event)=>match x with
  |(q,kept)=>match e.loc with
   |.mark (.extern f)=>(quiet f,kept)
   |_=>(q,if q&&!e.sync then kept else kept.push e)) (q,kept)).2->e∈kept\/e∈l:=by
  intro quiet l;induction l with
  |nil=>intro q kept h;exact .inl h
  |cons x l ih=>
   intro q kept h;rw[List.foldl_cons]at h
   generalize hy:(match(q,kept)with
    |(q,kept)=>match x.loc with
     |.mark (.extern f)=>(quiet f,kept)
     |_=>(q,if q&&!x.sync then kept else kept.push x))=y at h
   obtain⟨q',k'⟩:=y
   have hk:e∈k'->e∈kept\/e=x:=by
    intro he;simp only at hy;split at hy
    .rw[Prod.mk.injEq]at hy;rw[hy.2];exact .inl he
    .rw[Prod.mk.injEq]at hy;rw[<-hy.2]at he;split at he
     .exact .inl he
     .exact Array.mem_push.1 he
   rcases ih q' k' h with h|h
   .exact(hk h).imp id fun h=>by simp[h]
   .exact .inr (by simp[h])
 unfold seen at h;dsimp only at h;rw[<-Array.foldl_toList]at h;have:=key _ _ _ _ h;simpa using this
end
def gw:GStep->World
 |.go _ w _=>w
 |.comm _ _ _ _ w _=>w
 |.spawn _ _ w _=>w
 |.count _ w _=>w
 |.timer _ _ w _=>w
 |.alone _ _ w _=>w
 |.newcoro _ _ _ w _=>w
 |.coroswitch _ _ _ w _=>w
 |.collect _ w _=>w
 |.watch _ w _=>w
 |.ended _ w _=>w
@[simp] theorem iw (es:Array Event) (s:GStep):gw (GStep.after es s)=gw s:=by cases s <;> rfl
theorem Ag (P:Program) (s:Sem α) (w:World):w.drawn<=(world (s.run P w)).drawn:=by
 have:=kF P s w #[];rw[Sem.runT_fst]at this;exact this
theorem ju {P:Program} {s:Sem α} {w:World} {r:Result α} (h:s.run P w=r):w.drawn<=(world r).drawn:=h▸Ag P s w
theorem oF (P:Program) (fr:Frame) (cs:List Frame) (d:Option Dying) (m:String) (w:World):w.drawn<=(gw (endFatal P fr cs d m w)).drawn:=by
 unfold endFatal;dsimp only;split
 .rename_i h;exact ju h
 .rename_i h;exact ju h
 .rename_i h;exact ju h
theorem us (P:Program) (fr:Frame) (cs:List Frame) (d:Option Dying) (g:Nat) (w:World):w.drawn<=(gw (early P fr cs d g w)).drawn:=by
 unfold early;dsimp only;repeat' split
 all_goals first
  |exact Nat.le_refl _
  |(have hx:=ju (by assumption:Sem.run P (choose (Question.early g)) w=Result.ok _ _);exact hx)
  |(have hx:=ju (by assumption:Sem.run P (choose (Question.early g)) w=Result.halt _ _);exact hx)
theorem nj (P:Program) (fr:Frame) (cs:List Frame) (d:Option Dying) (s:Sem Next) (w:World):(world (s.runT P w #[]).1).drawn<=(gw (stepG.apply P true fr cs d s w)).drawn:=by
 unfold stepG.apply;simp only[if_true];generalize s.runT P w #[]=x;obtain⟨r,es⟩:=x;simp only[iw];split;all_goals(try exact Nat.le_refl _)
 all_goals(try(split<;>exact Nat.le_refl _))
 all_goals first
  |exact oF ..
  |exact us ..
  |(split<;>split<;>exact Nat.le_refl _)
section
variable (P:Program) (S:Nat->Bool) (H:FuncId->Code->Code->Prop) (N:Nat)
def cR (p:Pi) (w w':World) (b:Frame) (bs:List Frame) (aK:List Frame) (s s':GStep):Prop:=
 (∃o w1 es,s=.ended o w1 es)\/(∃q ch Mp w1 es,CL S q ch Mp/\s=.go {frame:=b.raise ch,callers:=bs,status:=.running,dying:=none} w1 es)\/
 ∃c n w1 eO es bP,cg P S (KS P S) N p w w' c n w1 eO/\(∀e∈bP,E0 N (ext p w.heap.size w'.heap.size c) e)/\
  ((∃f f' top cV,FL P S H (ext p w.heap.size w'.heap.size c) (f::top) (f'::cV)/\
     s=.go {frame:=f,callers:=top++b::bs,status:=.running,dying:=none} w1 es/\
     s'=.go {frame:=f',callers:=cV++aK,status:=.running,dying:=none} eO bP)\/
   (∃v v',VR S (ext p w.heap.size w'.heap.size c) v v'/\
     s=.go {frame:=b.finish v,callers:=bs,status:=.running,dying:=none} w1 es/\
     ((∃b' si,aK=b'::si/\s'=.go {frame:=b'.finish v',callers:=si,status:=.running,dying:=none} eO bP)\/
      (aK=[]/\s'=.ended (.done v') eO bP))))
end
section
variable {P:Program} {F:Array Func} {S:Nat->Bool} {H:FuncId->Code->Code->Prop} {N:Nat} {p:Pi} {w w':World} {b:Frame} {bs:List Frame} {aK:List Frame}
theorem cR.ended (o:Outcome) (w1:World) (es:Array Event):cR P S H N p w w' b bs aK (.ended o w1 es) s':=.inl ⟨o,w1,es,rfl⟩
theorem cR.go (h:WR P S (KS P S) N p w w') {top cV:List Frame} (hf:FL P S H p (f::top) (f'::cV)):
 cR P S H N p w w' b bs aK (.go {frame:=f,callers:=top++b::bs,status:=.running,dying:=none} w) (.go {frame:=f',callers:=cV++aK,status:=.running,dying:=none} w'):=
 .inr (.inr ⟨0,0,w,w',#[],#[],cg.refl h,by simp,.inl ⟨f,f',top,cV,by rw[bq];exact hf,rfl,rfl⟩⟩)
theorem cR.ret (h:WR P S (KS P S) N p w w') (hv:VR S p v v') (b':Frame) (si:List Frame):
 cR P S H N p w w' b bs (b'::si) (.go {frame:=b.finish v,callers:=bs,status:=.running,dying:=none} w) (.go {frame:=b'.finish v',callers:=si,status:=.running,dying:=none} w'):=
 .inr (.inr ⟨0,0,w,w',#[],#[],cg.refl h,by simp,.inr ⟨v,v',by rw[bq];exact hv,rfl,.inl ⟨b',si,rfl,rfl⟩⟩⟩)
theorem cR.Fs (h:WR P S (KS P S) N p w w') (hv:VR S p v v'):
 cR P S H N p w w' b bs [] (.go {frame:=b.finish v,callers:=bs,status:=.running,dying:=none} w) (.ended (.done v') w'):=
 .inr (.inr ⟨0,0,w,w',#[],#[],cg.refl h,by simp,.inr ⟨v,v',by rw[bq];exact hv,rfl,.inr ⟨rfl,rfl⟩⟩⟩)
theorem cR.raised {q:Pi} {v v':List PanicEntry} (h:CL S q v v') (w1:World) (es:Array Event):
 cR P S H N p w w' b bs aK (.go {frame:=b.raise v,callers:=bs,status:=.running,dying:=none} w1 es) s':=.inr (.inl ⟨q,v,v',w1,es,h,rfl⟩)
theorem cR.trans (hm:cg P S (KS P S) N p w w' c n w1 eO) {bP:Array Event} (he:∀e∈bP,E0 N (ext p w.heap.size w'.heap.size c) e) {s:GStep}
 (h:cR P S H N (ext p w.heap.size w'.heap.size c) w1 eO b bs aK s s'):cR P S H N p w w' b bs aK (s.after es) (s'.after bP):=by
 rcases h with⟨o,w2,RL,rfl⟩|⟨q,ch,Mp,w2,RL,yT,rfl⟩|⟨c2,n2,w2,JQ,fs,Ng,k1,k2,k3⟩
 .exact .inl ⟨o,w2,_,rfl⟩
 .exact .inr (.inl ⟨q,ch,Mp,w2,_,yT,rfl⟩)
 .rw[hm.size,hm.jp,lC]at k2 k3;refine .inr (.inr ⟨c+c2,n+n2,w2,JQ,es++fs,bP++Ng,hm.trans k1,fun x hx=>?_,?_⟩)
  .rcases Array.mem_append.1 hx with hx|hx
   .refine(he x hx).mono fun r r' y=>?_;rw[<-lC];exact .inl y
   .exact k2 x hx
  .rcases k3 with⟨f,f',top,cV,x1,rfl,rfl⟩|⟨v,v',x1,rfl,⟨b',si,x2,rfl⟩|⟨x2,rfl⟩⟩
   .exact .inl ⟨f,f',top,cV,x1,rfl,rfl⟩
   .exact .inr ⟨v,v',x1,rfl,.inl ⟨b',si,x2,rfl⟩⟩
   .exact .inr ⟨v,v',x1,rfl,.inr ⟨x2,rfl⟩⟩
def i7 (m:Nat) (w w':World):Prop:=∀j,j<m->∀q,w.tape (w.drawn+j) q=w'.tape (w'.drawn+j) q
theorem i7.Nm (h:i7 m w w') (hm:cg P S (KS P S) N p w w' c n w1 eO):i7 (m-n) w1 eO:=by
 intro j hj q;have:=h (n+j) (by omega) q;rw[hm.tape,hm.yP,hm.drawn,hm.jq,Nat.add_assoc,Nat.add_assoc];exact this
theorem cR.run {Q:Pi->α->β->Prop} {s:Sem α} {s':Sem β} (h:SR P F S (KS P S) N Q s s' p) (hw:WR P S (KS P S) N p w w') (hm:i7 m w w')
 {ev:Result α->Array Event->Array Event} {J2:Result β->Array Event->Array Event} (aZ:∀r es e,e∈J2 r es->e∈es)
 {k:Result α->GStep} {k':Result β->GStep} (hd:(gw (k' (s'.runT (ab P F) w' #[]).1)).drawn<=w'.drawn+m) (hk:∀r,(world r).drawn<=(gw (k' r)).drawn)
 (No:∀x w1,dead x->∃o w2 es,k (.halt x w1)=.ended o w2 es)
 (pM:∀c n w1 eO x y,cg P S (KS P S) N p w w' c n w1 eO->Q (ext p w.heap.size w'.heap.size c) x y->i7 (m-n) w1 eO->(gw (k' (.ok y eO))).drawn<=eO.drawn+(m-n)->
   cR P S H N (ext p w.heap.size w'.heap.size c) w1 eO b bs aK (k (.ok x w1)) (k' (.ok y eO)))
 (J4:∀c n w1 eO v v',cg P S (KS P S) N p w w' c n w1 eO->VR S (ext p w.heap.size w'.heap.size c) v v'->
   cR P S H N (ext p w.heap.size w'.heap.size c) w1 eO b bs aK (k (.halt (.panic v) w1)) (k' (.halt (.panic v') eO))):
 cR P S H N p w w' b bs aK (GStep.after (ev (s.runT P w #[]).1 (s.runT P w #[]).2) (k (s.runT P w #[]).1)) (GStep.after (J2 (s'.runT (ab P F) w' #[]).1 (s'.runT (ab P F) w' #[]).2) (k' (s'.runT (ab P F) w' #[]).1)):=by
 have ho:=SR.sound h w w' #[] #[] m hw hm (Nat.le_trans (hk _) hd);rcases ho with⟨x,w1,es1,e,hx⟩|⟨c,n,w1,eO,es1,fs,k1,k2,⟨x,y,e,e',hq⟩|⟨v,v',e,e',hv⟩⟩
 .rw[e];obtain⟨o,w2,es,e2⟩:=No x w1 hx;simp only[e2];exact .inl ⟨o,w2,_,rfl⟩
 .rw[e']at hd;simp only at hd;have VQ:(world (.ok y eO:Result β)).drawn<=w'.drawn+m:=Nat.le_trans (hk _) hd;simp only[world]at VQ;rw[k1.jq]at VQ;rw[e,e'];simp only[Array.empty_append];refine cR.trans k1 (fun z hz=>k2 z (aZ _ _ _ hz)) (pM c n w1 eO x y k1 hq (hm.Nm k1) ?_);rw[k1.jq];omega
 .rw[e,e'];simp only[Array.empty_append];exact cR.trans k1 (fun z hz=>k2 z (aZ _ _ _ hz)) (J4 c n w1 eO v v' k1 hv)
end
section
variable {P:Program} {F:Array Func} {S:Nat->Bool} {K:Code->Prop} {N:Nat} {p:Pi}
structure ut (S:Nat->Bool) (K:Code->Prop) (p:Pi) (l l':Loop):Prop where
 h1:l.state=l'.state
 h2:l.pending=l'.pending
 h3:l.fn=l'.fn
 h4:AR S p l.tmps l'.tmps
 h5:l.params=l'.params
 h6:l.assign=l'.assign
 h7:l.body=l'.body
 h8:p l.defers l'.defers
 k1:S l.fn=true
 k2:K l.assign
 k3:K l.body
 k4:∀c,l.pending=some c->K c
 k5:K (.label (100000+l.fn))
theorem ut.or {l l':Loop} (x:ut S K p l l'):OR S K p (.loop l) (.loop l'):=.loop x.h1 x.h2 x.h3 x.h4 x.h5 x.h6 x.h7 x.h8 x.k1 x.k2 x.k3 x.k4 x.k5
theorem SR.getLoop (h:p r r'):SR P F S K N (fun q l l'=>ut S K q l l') (Instr.getLoop r) (Instr.getLoop r') p:=by
 unfold Instr.getLoop;refine(SR.getObj h).bind fun q o o' hq ho=>?_;cases ho<;>first|exact SR.stuck|skip
 rename_i h1 h2 h3 h4 h5 h6 h7 h8 k1 k2 k3 k4 k5;exact SR.pure ⟨h1,h2,h3,h4,h5,h6,h7,h8,k1,k2,k3,k4,k5⟩
theorem SR.enterLoop {f f':Nat} (RS:f=f') (hf:S f=true) (hz:K (.label (100000+f))) (hx:AR S p xs aT) (ps:Array Tmp) {a c:Code} (ha:K a) (hc:K c) {o o':Option Nat} (ho:RR p o o'):
 SR P F S K N (fun q x y=>q x.1 y.1/\DL q x.2 y.2) (Instr.enterLoop f xs ps a c o) (Instr.enterLoop f' aT ps a c o') p:=by
 subst RS;unfold Instr.enterLoop;cases ho with
 |none=>
  simp only[bind_assoc,pure_bind];refine(SR.newObj .cb).bind fun q r r' hq hr=>?_;refine(SR.newObj (ut.or (l:={state:=.ready,pending:=none,fn:=f,tmps:=xs,params:=ps,assign:=a,body:=c,defers:=r}) (l':={state:=.ready,pending:=none,fn:=f,tmps:=aT,params:=ps,assign:=a,body:=c,defers:=r'}) ⟨rfl,rfl,rfl,hx.mono hq,rfl,rfl,rfl,hr.1,hf,ha,hc,fun c h=>(by cases h),hz⟩)).bind fun q2 s s' bd hs=>?_;exact SR.pure ⟨hs.1,.cons (bd _ _ hr.1) .nil⟩
 |some h=>
  simp only[bind_assoc,pure_bind];refine(SR.getLoop h).bind fun q r r' hq hr=>?_;refine(SR.newObj (ut.or (l:={state:=.ready,pending:=none,fn:=f,tmps:=xs,params:=ps,assign:=a,body:=c,defers:=r.defers}) (l':={state:=.ready,pending:=none,fn:=f,tmps:=aT,params:=ps,assign:=a,body:=c,defers:=r'.defers}) ⟨rfl,rfl,rfl,hx.mono hq,rfl,rfl,rfl,hr.h8,hf,ha,hc,fun c h=>(by cases h),hz⟩)).bind fun q2 s s' bd hs=>?_;exact SR.pure ⟨hs.1,.nil⟩
theorem SR.beginRound (h:p r r'):SR P F S K N (QE Unit) (Instr.beginRound r) (Instr.beginRound r') p:=by
 unfold Instr.beginRound;refine(SR.getLoop h).bind fun q l l' hq hl=>?_;refine(SR.setObj (hq _ _ h) (ut.or (l:={l with state:=.busy}) (l':={l' with state:=.busy}) ⟨rfl,hl.h2,hl.h3,hl.h4,hl.h5,hl.h6,hl.h7,hl.h8,hl.k1,hl.k2,hl.k3,hl.k4,hl.k5⟩)).ac fun q2 _ bd=>?_;rw[<-hl.h1];cases l.state with
 |ready=>exact SR.pure rfl
 |done=>exact SR.err _
 |busy=>exact SR.err _
 |exhausted=>exact SR.err _
theorem SR.endRound (h:p r r') (j:Option Code) (hj:∀c,j=some c->K c):SR P F S K N (QV S) (Instr.endRound r j) (Instr.endRound r' j) p:=by
 unfold Instr.endRound;refine(SR.getLoop h).bind fun q l l' hq hl=>?_;refine(SR.setObj (hq _ _ h) (ut.or (l:={l with state:=if j.isNone then .ready else .done,pending:=j}) (l':={l' with state:=if j.isNone then .ready else .done,pending:=j}) ⟨rfl,rfl,hl.h3,hl.h4,hl.h5,hl.h6,hl.h7,hl.h8,hl.k1,hl.k2,hl.k3,hj,hl.k5⟩)).ac fun q2 _ bd=>?_;exact SR.pure (VR.plain 2 _ rfl)
theorem SR.endLoop (h:p r r'):SR P F S K N (fun _ a b=>a=b/\∀c,a=some c->K c) (Instr.endLoop r) (Instr.endLoop r') p:=by
 unfold Instr.endLoop;refine(SR.getLoop h).bind fun q l l' hq hl=>?_;rw[<-hl.h1]
 have tail:∀q2,Le q q2->SR P F S K N (fun _ a b=>a=b/\∀c,a=some c->K c) (Go.setObj r (.loop {l with state:=.exhausted})>>=fun _=>(Pure.pure l.pending:Sem (Option Code))) (Go.setObj r' (.loop {l' with state:=.exhausted})>>=fun _=>(Pure.pure l'.pending:Sem (Option Code))) q2:=fun q2 bd=>by
  refine(SR.setObj (bd _ _ (hq _ _ h)) (ut.or (l:={l with state:=.exhausted}) (l':={l' with state:=.exhausted}) ⟨rfl,hl.h2,hl.h3,hl.h4.mono bd,hl.h5,hl.h6,hl.h7,bd _ _ hl.h8,hl.k1,hl.k2,hl.k3,hl.k4,hl.k5⟩)).ac fun q3 _ dW=>?_;exact SR.pure ⟨hl.h2,hl.k4⟩
 split
 .exact(SR.err (α:=PUnit) (β:=PUnit) (Q:=QE PUnit) _).ac fun q2 _ bd=>tail q2 bd
 .exact tail q (Le.refl q)
theorem SR.takeDeferred (h:p r r'):SR P F S K N (fun _ a b=>a=[]/\b=[]) (Instr.takeDeferred r) (Instr.takeDeferred r') p:=by
 unfold Instr.takeDeferred;refine(SR.getObj h).bind fun q o o' hq ho=>?_;cases ho<;>first|exact SR.stuck|skip
 refine(SR.setObj (hq _ _ h) .ca).ac fun q2 _ bd=>?_;exact SR.pure ⟨rfl,rfl⟩
theorem SR.Cf (f f':α->Sem Value):∀(l:List α) {p:Pi} {acc kH:Array Value},(∀x q,Le p q->SR P F S K N (QV S) (f x) (f' x) q)->AR S p acc kH->
 SR P F S K N (QA S) (l.foldlM (fun bs a=>Functor.map bs.push (f a)) acc) (l.foldlM (fun bs a=>Functor.map bs.push (f' a)) kH) p:=by
 intro l;induction l with
 |nil=>intro p acc kH _ ha;exact SR.pure ha
 |cons x l ih=>
  intro p acc kH h ha;simp only[List.foldlM_cons];refine SR.bind (Q:=QA S) ?_ fun q a b hq iK=>ih (fun y q2 bd=>h y q2 (hq.trans bd)) iK;exact(h x p (Le.refl p)).bind fun q b b' hq hb=>SR.pure ((ha.mono hq).push hb)
theorem SR.results {fn gJ:Func} (hr:fn.results=gJ.results) (h:AR S p xs aT):SR P F S K N (QV S) (Go.results fn xs) (Go.results gJ aT) p:=by
 unfold Go.results;rw[<-hr];refine SR.bind (Q:=QA S) ?_ fun q vs uj hq hv=>?_
 .rw[Array.mapM_eq_foldlM,<-Array.foldlM_toList,Array.mapM_eq_foldlM,<-Array.foldlM_toList];refine SR.Cf _ _ _ (fun x q hq=>?_) AR.empty;cases x with
  |tmp t=>exact SR.pure ((h.mono hq).getD t VR.undef)
  |cell a t=>exact(SR.asAddr ((h.mono hq).getD a VR.undef)).bind fun q2 a a' bd ha=>SR.loadVar t ha
 .refine SR.pure ?_;have:=hv.1;by_cases h1:vs.size=1
  .have lz:uj.size=1:=by omega
   simp only[h1,lz,dif_pos];exact hv.2 0 _ _ (by simp[h1]) (by simp[lz])
  .have lz:uj.size≠1:=by omega
   simp only[h1,lz,dif_neg,not_false_eq_true];exact hv.tuple
end
end Go.aC
