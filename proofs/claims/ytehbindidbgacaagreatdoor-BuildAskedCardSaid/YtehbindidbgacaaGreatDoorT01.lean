/- A part. Conditions: none. -/
import Derived.Test.YtehbindidbgacaaGreatDoorT00
import Derived.Laws.Sem
set_option linter.all false
namespace Go.aB
variable {a a':Addr} {aQ xs ys z z':Array Value} {b':Option Addr} {c l m n r r':Nat} {eD w1:World} {es:Array Event} {f f':Frame} {hi lT lo mx nP ng:Option Value} {i i' k k' v v' x x' y y':Value} {l':List Item} {ps ze:Array (Nat×Value)} {s':GStep} {t:TypeId} {α β:Type}
section
variable {P:Program} {F:Array Func} {S:Nat->Bool} {K:Code->Prop} {N:Nat} {p:Pi}
theorem SR.lS (f:α->Sem β) (h:∀x q,SR P F S K N (QE β) (f x) (f x) q) (xs:Array α):SR P F S K N (QE (Array β)) (xs.mapM f) (xs.mapM f) p:=by
 rw[Array.mapM_eq_foldlM,<-Array.foldlM_toList];generalize xs.toList=l;generalize(#[]:Array β)=acc;induction l generalizing acc p with
 |nil=>exact SR.pure rfl
 |cons x l ih=>
  simp only[List.foldlM_cons];refine SR.ab (α:=Array β) ?_ fun q a hq=>ih a;exact(h x p).ab fun q b hq=>SR.pure rfl
inductive PL (S:Nat->Bool) (p:Pi):List (Nat×Value)->List (Nat×Value)->Prop
 |nil:PL S p [] []
 |cons {i:Nat} {v v':Value} {l l':List (Nat×Value)} (h:VR S p v v') (t:PL S p l l'):PL S p ((i,v)::l) ((i,v')::l')
theorem PL.mono {q:Pi} (h:Le p q) {l l':List (Nat×Value)} (x:PL S p l l'):PL S q l l':=by
 induction x with
 |nil=>exact .nil
 |cons g _ ih=>exact .cons (g.mono h) ih
theorem PL.map (l:List (Nat×Operand)) (f g:Operand->Value) (h:∀x∈l,VR S p (f x.2) (g x.2)):PL S p (l.map fun(i,x)=>(i,f x)) (l.map fun(i,x)=>(i,g x)):=by
 induction l with
 |nil=>exact .nil
 |cons x l ih=>exact .cons (h x (by simp)) (ih fun y hy=>h y (by simp[hy]))
theorem vL (h:AR S p xs ys) {cs fA:List (Value×Nat)} (off:Nat) (hc:∀(j:Nat) a b,cs[j]?=some a->fA[j]?=some b->VR S p a.1 b.1/\a.2=b.2) (hl:cs.length=fA.length):
 AR S p (cs.foldl (fun acc (c,j)=>acc.setIfInBounds (off+j) c) xs) (fA.foldl (fun acc (c,j)=>acc.setIfInBounds (off+j) c) ys):=by
 induction cs generalizing fA xs ys with
 |nil=>cases fA with
  |nil=>exact h
  |cons=>cases hl
 |cons c cs ih=>cases fA with
  |nil=>cases hl
  |cons c' fA=>
   have h0:=hc 0 c c' rfl rfl;simp only[List.foldl_cons];rw[h0.2];exact ih (h.set _ h0.1) (fun j a b h1 h2=>hc (j+1) a b h1 h2) (by simpa using hl)
theorem fJ (place:Nat->Option (Nat×Nat)):∀{l l':List (Nat×Value)} {xs ys:Array Value},PL S p l l'->AR S p xs ys->
 (Instr.fill place xs l=none/\Instr.fill place ys l'=none)\/∃a b,Instr.fill place xs l=some a/\Instr.fill place ys l'=some b/\AR S p a b:=by
 intro l l' xs ys hl;induction hl generalizing xs ys with
 |nil=>intro h;exact .inr ⟨_,_,rfl,rfl,h⟩
 | @cons i v v' l l' hv _ ih=>
   intro h;simp only[Instr.fill];cases place i with
   |none=>exact .inl ⟨rfl,rfl⟩
   |some x=>
    obtain⟨off,size⟩:=x;simp only;have hc:=hv.cells;rw[<-hc.1,<-h.1];split
    .exact .inl ⟨rfl,rfl⟩
    .refine ih ?_;rw[<-Array.foldl_toList,<-Array.foldl_toList];refine vL h off (fun j a b h1 h2=>?_) (by simp[hc.1]);simp only[Array.getElem?_toList,Array.getElem?_zipIdx]at h1 h2;cases hx:v.cells[j]? with
     |none=>rw[hx]at h1;cases h1
     |some u=>
      obtain⟨u',Il,hr⟩:=hc.get hx;rw[hx]at h1;rw[Il]at h2;simp only[Option.map_some,Option.some.injEq]at h1 h2;subst h1;subst h2;exact⟨hr,rfl⟩
theorem SR.box (e:TypeId) (h:VR S p v v'):SR P F S K N (QV S) (Instr.box e v) (Instr.box e v') p:=
 (SR.newVar e h).bind fun q a a' hq ha=>SR.pure ha.1.ptr
theorem SR.alloc (hz:au P) (e:TypeId):SR P F S K N (QV S) (Instr.alloc e true (.tuple #[])) (Instr.alloc e true (.tuple #[])) p:=by
 unfold Instr.alloc;refine(SR.zeroValue hz e).bind fun q z z' hq km=>?_;obtain⟨rfl,hv⟩:=km;exact(SR.newVar e hv).bind fun q a a' hq ha=>SR.pure ha.1.ptr
theorem SR.build (hz:au P) (t:TypeId) (h:PL S p ps.toList ze.toList):SR P F S K N (QV S) (Instr.build t ps) (Instr.build t ze) p:=by
 unfold Instr.build;refine(SR.zeroValue hz t).bind fun q z z' hq km=>?_;obtain⟨rfl,hv⟩:=km;have h:=h.mono hq;refine SR.aM fun d hd=>?_;cases d with
 |struct fields=>
  refine SR.ab (α:=Array (Nat×Nat)) (SR.lS _ (fun f q=>(SR.sizeOf f.type).ab fun q n hq=>SR.pure rfl) fields) fun q places hq=>?_;rcases fJ (fun i=>places[i]?) (h.mono hq) (hv.mono hq).cells with⟨e1,e2⟩|⟨a,b,e1,e2,iE⟩
  .simp only[e1];exact SR.stuck
  .simp only[e1,e2];exact SR.pure iE.agg
 |array n e=>
  refine(SR.sizeOf e).ab fun q size hq=>?_;rcases fJ (fun i=>some (i*size,size)) (h.mono hq) (hv.mono hq).cells with⟨e1,e2⟩|⟨a,b,e1,e2,iE⟩
  .simp only[e1];exact SR.stuck
  .simp only[e1,e2];exact SR.pure iE.agg
 |_=>exact SR.stuck
theorem fB (h:AR S p z z') (n:Nat):AR S p ((Array.range n).map (fun i=>z[i%z.size]!)) ((Array.range n).map (fun i=>z'[i%z'.size]!)):=by
 refine AR.ofFn n _ _ fun i=>?_;rw[<-h.1];simp only[getElem!_def];cases hx:z[i%z.size]? with
 |none=>rw[h.none hx];exact VR.plain 1 _ (by simp[plain,default,instInhabitedValue.default])
 |some v=>obtain⟨v',iD,hr⟩:=h.get hx;rw[iD];exact hr
theorem SR.buildSlice (hz:au P) (t:TypeId) (len:Nat) (h:PL S p ps.toList ze.toList):SR P F S K N (QV S) (Instr.buildSlice t len ps) (Instr.buildSlice t len ze) p:=by
 unfold Instr.buildSlice;refine SR.aM fun d hd=>?_;cases d with
 |slice e=>
  simp only;refine(SR.sizeOf e).ab fun q size hq=>?_;have h:=h.mono hq;split
  .exact SR.unsupported
  .have key:∀(q':Pi) (z z':Array Value),Le q q'->AR S q' z z'->SR P F S K N (QV S)
    (match Instr.fill (fun i=>some (i*size,size)) ((Array.range (len*size)).map (z[·%z.size]!)) ps.toList with
      |some cells=>(Go.newRow e cells>>=fun a=>Pure.pure (Value.slice (some a) len len))
      |_=>Go.stuck "buildSlice: a part of the wrong size")
    (match Instr.fill (fun i=>some (i*size,size)) ((Array.range (len*size)).map (z'[·%z'.size]!)) ze.toList with
      |some cells=>(Go.newRow e cells>>=fun a=>Pure.pure (Value.slice (some a) len len))
      |_=>Go.stuck "buildSlice: a part of the wrong size") q':=by
    intro q' z z' mD km;rcases fJ (fun i=>some (i*size,size)) (h.mono mD) (fB km (len*size))with⟨e1,e2⟩|⟨a,b,e1,e2,iE⟩
    .simp only[e1];exact SR.stuck
    .simp only[e1,e2];exact(SR.newRow e iE).bind fun q a a' hq ha=>SR.pure (ha.1.sl len len)
   split
   .exact key q #[] #[] (Le.refl _) AR.empty
   .refine(SR.zeroValue hz e).bind fun q2 z z' bd km=>?_;obtain⟨rfl,hv⟩:=km;exact key q2 _ _ bd hv.cells
 |_=>exact SR.stuck
theorem SR.loadAt (t:TypeId) (h:VR S p v v'):SR P F S K N (QV S) (Instr.loadAt t v) (Instr.loadAt t v') p:=
 (SR.sureAddr h).bind fun q a a' hq ha=>SR.loadVar t ha
theorem SR.storeAt (t:TypeId) (h:VR S p v v') (hx:VR S p x x'):SR P F S K N (QE Unit) (Instr.storeAt t v x) (Instr.storeAt t v' x') p:=
 (SR.sureAddr h).bind fun q a a' hq ha=>SR.storeVar t ha (hx.mono hq)
theorem SR.fieldAt (s:TypeId) (f:Nat) (hf:∀fs g i,P.underlying s=some (.struct fs)->fs[f]?=some g->P.info? g.type=some i->i.size≠0) (h:VR S p v v'):
 SR P F S K N (QV S) (Instr.fieldAt s v f) (Instr.fieldAt s v' f) p:=by
 unfold Instr.fieldAt;refine SR.aM fun d hd=>?_;cases d with
 |struct fields=>
  simp only;cases hg:fields[f]? with
  |none=>exact SR.stuck
  |some g=>
   simp only;refine(SR.sureAddr h).bind fun q a a' hq ha=>?_;unfold Go.fieldPlace Go.sizeOf;refine SR.bind (Q:=QD) ?_ fun q b b' hq hb=>SR.pure hb.ptr;show SR P F S K N QD ((Go.typeInfo g.type>>=fun i=>Pure.pure i.size)>>=_) ((Go.typeInfo g.type>>=fun i=>Pure.pure i.size)>>=_) q;refine SR.bind (Q:=fun _ (a b:Nat)=>a=b/\a≠0) (SR.fw fun i hi=>SR.pure ⟨rfl,hf fields g i hd hg hi⟩) fun q n n' hq hn=>?_;obtain⟨rfl,hn⟩:=hn;simp only[hn,if_false];exact SR.pure ((ha.mono hq).add _)
 |_=>exact SR.stuck
theorem SR.field (t:TypeId) (f:Nat) (h:VR S p v v'):SR P F S K N (QV S) (Instr.field t v f) (Instr.field t v' f) p:=by
 unfold Instr.field;refine SR.aM fun d hd=>?_;cases d with
 |struct fields=>
  simp only;cases hg:fields[f]? with
  |none=>exact SR.stuck
  |some g=>exact(SR.asAgg h).bind fun q a a' hq ha=>SR.part _ ha _
 |_=>exact SR.stuck
theorem SR.index (t:TypeId) (h:VR S p v v') (hi:VR S p i i'):SR P F S K N (QV S) (Instr.index t v i) (Instr.index t v' i') p:=by
 unfold Instr.index;refine(SR.asIntOf hi).ab fun q ki hq=>?_;obtain⟨k,n⟩:=ki;have h:=h.mono hq;refine SR.aM fun d hd=>?_;cases d with
 |array len elem=>
  cases h with
  |agg hx gx=>
   simp only;split
   .exact(SR.sizeOf elem).ab fun q m hq=>SR.part elem (AR.mono hq ⟨hx,gx⟩) _
   .exact SR.boundsPanic _ _ _ _
  |_=>exact SR.stuck
 |string=>
  cases h with
  |string s=>
   simp only;split
   .exact SR.pure (.int _ _)
   .exact SR.boundsPanic _ _ _ _
  |_=>exact SR.stuck
 |_=>cases h<;>exact SR.stuck
theorem SR.sliceBound (x x':Value) (h:VR S p x x') (y:Nat) (c:BoundsCode):SR P F S K N (QE Nat) (Instr.sliceBound x y c) (Instr.sliceBound x' y c) p:=by
 unfold Instr.sliceBound;refine(SR.asIntOf h).ab fun q ki hq=>?_;obtain⟨k,n⟩:=ki;simp only;split
 .exact SR.pure rfl
 .exact SR.boundsPanic _ _ _ _
def OV (S:Nat->Bool) (p:Pi):Option Value->Option Value->Prop
 |none,none=>True
 |some v,some v'=>VR S p v v'
 |_,_=>False
theorem OV.mono {q:Pi} (h:Le p q) {a b:Option Value} (x:OV S p a b):OV S q a b:=by
 cases a<;>cases b<;>first|trivial|exact x.elim|exact VR.mono h x
theorem SR.sliceBounds (b:Bool) (len cap:Nat) (h1:OV S p lo nP) (h2:OV S p hi lT) (h3:OV S p mx ng):
 SR P F S K N (QE (Nat×Nat×Nat)) (Instr.sliceBounds b len cap lo hi mx) (Instr.sliceBounds b len cap nP lT ng) p:=by
 have hb:∀(q:Pi) (x x':Value) (y:Nat) (c:BoundsCode) (f f':Nat->Sem (Nat×Nat×Nat)),Le p q->VR S p x x'->(∀q' n,Le p q'->SR P F S K N (QE (Nat×Nat×Nat)) (f n) (f' n) q')->SR P F S K N (QE (Nat×Nat×Nat)) (Instr.sliceBound x y c>>=f) (Instr.sliceBound x' y c>>=f') q:=
  fun q x x' y c f f' hq hx hf=>(SR.sliceBound x x' (hx.mono hq) y c).ab fun q' n mD=>hf q' n (hq.trans mD)
 cases mx<;>cases ng<;>(try exact h3.elim)<;>cases hi<;>cases lT<;>(try exact h2.elim)<;>cases lo<;>cases nP<;>(try exact h1.elim)
 .exact SR.pure rfl
 .exact hb p _ _ _ _ _ _ (Le.refl _) h1 fun q n hq=>SR.pure rfl
 .exact hb p _ _ _ _ _ _ (Le.refl _) h2 fun q n hq=>SR.pure rfl
 .exact hb p _ _ _ _ _ _ (Le.refl _) h2 fun q n hq=>hb q _ _ _ _ _ _ hq h1 fun q n hq=>SR.pure rfl
 .exact hb p _ _ _ _ _ _ (Le.refl _) h3 fun q n hq=>SR.stuck
 .exact hb p _ _ _ _ _ _ (Le.refl _) h3 fun q n hq=>SR.stuck
 .exact hb p _ _ _ _ _ _ (Le.refl _) h3 fun q n hq=>hb q _ _ _ _ _ _ hq h2 fun q n hq=>SR.pure rfl
 .exact hb p _ _ _ _ _ _ (Le.refl _) h3 fun q n hq=>hb q _ _ _ _ _ _ hq h2 fun q n hq=>hb q _ _ _ _ _ _ hq h1 fun q n hq=>SR.pure rfl
theorem SR.tC (x x':Value) (h:VR S p x x') (c:BoundsCode):SR P F S K N (fun _ a b=>a=0/\b=0) (Instr.sliceBound x 0 c) (Instr.sliceBound x' 0 c) p:=by
 unfold Instr.sliceBound;refine(SR.asIntOf h).ab fun q ki hq=>?_;obtain⟨k,n⟩:=ki;simp only;split
 .exact SR.pure ⟨by omega,by omega⟩
 .exact SR.boundsPanic _ _ _ _
theorem SR.rj (b:Bool) (h1:OV S p lo nP) (h2:OV S p hi lT) (h3:OV S p mx ng):
 SR P F S K N (fun _ a b=>a=(0,0,0)/\b=(0,0,0)) (Instr.sliceBounds b 0 0 lo hi mx) (Instr.sliceBounds b 0 0 nP lT ng) p:=by
 have hb:∀(q:Pi) (x x':Value) (c:BoundsCode) (f f':Nat->Sem (Nat×Nat×Nat)),Le p q->VR S p x x'->(∀q',Le p q'->SR P F S K N (fun _ a b=>a=(0,0,0)/\b=(0,0,0)) (f 0) (f' 0) q')->SR P F S K N (fun _ a b=>a=(0,0,0)/\b=(0,0,0)) (Instr.sliceBound x 0 c>>=f) (Instr.sliceBound x' 0 c>>=f') q:=
  fun q x x' c f f' hq hx hf=>(SR.tC x x' (hx.mono hq) c).bind fun q' n n' mD hn=>by
   obtain⟨rfl,rfl⟩:=hn;exact hf q' (hq.trans mD)
 cases mx<;>cases ng<;>(try exact h3.elim)<;>cases hi<;>cases lT<;>(try exact h2.elim)<;>cases lo<;>cases nP<;>(try exact h1.elim)
 .exact SR.pure ⟨rfl,rfl⟩
 .exact hb p _ _ _ _ _ (Le.refl _) h1 fun q hq=>SR.pure ⟨rfl,rfl⟩
 .exact hb p _ _ _ _ _ (Le.refl _) h2 fun q hq=>SR.pure ⟨rfl,rfl⟩
 .exact hb p _ _ _ _ _ (Le.refl _) h2 fun q hq=>hb q _ _ _ _ _ hq h1 fun q hq=>SR.pure ⟨rfl,rfl⟩
 .exact hb p _ _ _ _ _ (Le.refl _) h3 fun q hq=>SR.stuck
 .exact hb p _ _ _ _ _ (Le.refl _) h3 fun q hq=>SR.stuck
 .exact hb p _ _ _ _ _ (Le.refl _) h3 fun q hq=>hb q _ _ _ _ _ hq h2 fun q hq=>SR.pure ⟨rfl,rfl⟩
 .exact hb p _ _ _ _ _ (Le.refl _) h3 fun q hq=>hb q _ _ _ _ _ hq h2 fun q hq=>hb q _ _ _ _ _ hq h1 fun q hq=>SR.pure ⟨rfl,rfl⟩
theorem fK {a a':Option Addr} {l' c':Nat} (h:VR S p (.slice a l c) (.slice a' l' c')):l=l'/\c=c'/\((a=none/\a'=none)\/(∃b b',a=some b/\a'=some b'/\cx p b b')\/∃b b',a=some b/\a'=some b'/\l=0/\c=0):=by
 cases h with
 |bF a a'=>exact⟨rfl,rfl,.inr (.inr ⟨a,a',rfl,rfl,rfl,rfl⟩)⟩
 |bA=>exact⟨rfl,rfl,.inl ⟨rfl,rfl⟩⟩
 |slice o sp l c g=>exact⟨rfl,rfl,.inr (.inl ⟨_,_,rfl,rfl,g,rfl,rfl⟩)⟩
theorem SR.slice (t:TypeId) {x x':Value} {lo nP hi lT mx ng:Option Value} (hx:VR S p x x') (h1:OV S p lo nP) (h2:OV S p hi lT) (h3:OV S p mx ng):
 SR P F S K N (QV S) (Instr.slice t x lo hi mx) (Instr.slice t x' nP lT ng) p:=by
 unfold Instr.slice;refine SR.aM fun d hd=>?_
 have nQ:∀arr,SR P F S K N (QV S) (do
  let a<-Go.asAddr x
  let .array n elem<-Go.underlying arr|Go.stuck "Slice: array type expected"
  let(l,h,m)<-Instr.sliceBounds false n n lo hi mx
  let size<-Go.sizeOf elem
  Pure.pure (Value.slice (some (if m=l then a else a.add (l*size))) (h-l) (m-l))) (do
  let a<-Go.asAddr x'
  let .array n elem<-Go.underlying arr|Go.stuck "Slice: array type expected"
  let(l,h,m)<-Instr.sliceBounds false n n nP lT ng
  let size<-Go.sizeOf elem
  Pure.pure (Value.slice (some (if m=l then a else a.add (l*size))) (h-l) (m-l))) p:=by
  intro arr;refine(SR.asAddr hx).bind fun q a a' hq ha=>?_;refine SR.aM fun d hd=>?_;cases d with
  |array n elem=>
   simp only;refine(SR.sliceBounds false n n (h1.mono hq) (h2.mono hq) (h3.mono hq)).ab fun q2 b bd=>?_;obtain⟨l,h,m⟩:=b;simp only;refine(SR.sizeOf elem).ab fun q3 s dK=>?_;have ha:=(ha.mono bd).mono dK;split
   .exact SR.pure (ha.sl _ _)
   .exact SR.pure ((ha.add _).sl _ _)
  |_=>exact SR.stuck
 cases d with
 |string=>
  cases hx with
  |string s=>
   simp only;cases mx<;>cases ng<;>first|exact h3.elim|skip
   .simp only[Option.isSome_none,Bool.false_eq_true,if_false];refine(SR.sliceBounds false _ _ h1 h2 h3).ab fun q2 b bd=>?_;exact SR.pure (.string _)
   .simp only[Option.isSome_some,if_true];exact SR.stuck
  |_=>exact SR.stuck
 |slice elem=>
  cases x<;>cases x'<;>first|(cases hx;done)|exact SR.stuck|skip
  rename_i a len cap a' Im dO;obtain⟨rfl,rfl,hs⟩:=fK hx;simp only;rw[<-or_assoc]at hs;rcases hs with hs|⟨b,b',rfl,rfl,rfl,rfl⟩
  case inr=>
   refine(SR.rj true h1 h2 h3).bind fun q2 c c' bd py=>?_;obtain⟨rfl,rfl⟩:=py;exact(SR.sizeOf elem).ab fun q3 s dK=>SR.pure (.bF _ _)
  refine(SR.sliceBounds true len cap h1 h2 h3).ab fun q2 b bd=>?_;obtain⟨l,h,m⟩:=b;simp only;refine(SR.sizeOf elem).ab fun q3 s dK=>?_;rcases hs with⟨rfl,rfl⟩|⟨b,b',rfl,rfl,hb⟩
  .split<;>exact SR.pure (.bA _ _)
  .have hb:=(hb.mono bd).mono dK;split
   .exact SR.pure (hb.sl _ _)
   .exact SR.pure ((hb.add _).sl _ _)
 |pointer arr=>exact nQ arr
 |_=>cases hx<;>exact SR.stuck
end
def aL (P:Program):Nat->TypeId->Bool
 |0,_=>false
 |n+1,t=>match P.underlying t with
  |some .bool|some (.int _)|some .string=>true
  |some (.slice _)=>true
  |some (.struct fs)=>!P.stoodInHeld t&&fs.all fun f=>aL P n f.type
  |some (.array _ e)=>aL P n e
  |_=>false
def ai (P:Program):Prop:=∀t i u,P.info? t=some i->i.desc≠ .named "sync.copyChecker" u
section
variable {P:Program} {F:Array Func} {S:Nat->Bool} {K:Code->Prop} {N:Nat} {p:Pi}
theorem SR.fL (f f':α->β->Sem (ForInStep β)):∀(l:List α),(∀x,x∈l->∀b q,Le p q->SR P F S K N (QE (ForInStep β)) (f x b) (f' x b) q)->∀(b:β) (q:Pi),Le p q->SR P F S K N (QE β) (forIn l b f) (forIn l b f') q
 | [],_,b,q,hq=>SR.pure rfl
 |x::l,h,b,q,hq=>by
  simp only[List.forIn_cons];refine(h x (by simp) b q hq).ab fun q' r mD=>?_;cases r with
  |done b=>exact SR.pure rfl
  |yield b=>exact SR.fL f f' l (fun y hy=>h y (by simp[hy])) b q' (hq.trans mD)
def NR (p:Pi):Option (Addr×Bool)->Option (Addr×Bool)->Prop
 |none,none=>True
 |some x,some y=>cx p x.1 y.1/\x.2=y.2
 |_,_=>False
theorem SR.numberAt (h:p r r'):SR P F S K N (fun q a b=>NR q a b) (Go.numberAt r) (Go.numberAt r') p:=by
 unfold Go.numberAt;refine(SR.shape h).ab fun q x hq=>?_;cases x with
 |some y=>exact SR.pure trivial
 |none=>
  refine(SR.getObj (hq _ _ h)).bind fun q o o' hq ho=>?_;cases ho with
  |number l h=>exact SR.pure ⟨h,rfl⟩
  |_=>exact SR.pure trivial
theorem SR.viewAt (h:p r r'):SR P F S K N (fun _ a b=>a=none/\b=none) (Go.viewAt r) (Go.viewAt r') p:=by
 unfold Go.viewAt;refine(SR.shape h).ab fun q x hq=>?_;cases x with
 |some y=>exact SR.pure ⟨rfl,rfl⟩
 |none=>
  refine(SR.getObj (hq _ _ h)).bind fun q o o' hq ho=>?_;cases ho<;>exact SR.pure ⟨rfl,rfl⟩
theorem SR.behindNumber (h:cx p a a'):SR P F S K N (fun q x y=>cx q x.1 y.1/\x.2=y.2) (Go.behindNumber a) (Go.behindNumber a') p:=by
 unfold Go.behindNumber;refine(SR.numberAt h.1).bind fun q x y hq rk=>SR.pure ?_;cases x<;>cases y<;>first|exact rk.elim|exact⟨h.mono hq,rfl⟩|exact rk
theorem SR.byteOf (h:cx p a a'):SR P F S K N (QE Nat) (Go.byteOf a) (Go.byteOf a') p:=by
 unfold Go.byteOf;rw[<-h.2.2];cases hs:a.spot with
 |some s=>exact SR.pure rfl
 |none=>
  refine SR.d9 ?_;try simp only[bY,aA,bN,aC,aD,aT,aU,bG]
  unfold Go.noView;refine SR.bind (Q:=QE Unit) ?_ fun q _ _ hq _=>?_
  .exact(SR.viewAt h.1).bind fun q x y hq rk=>by rw[rk.1,rk.2];exact SR.pure rfl
  .refine(SR.shape (hq _ _ h.1)).ab fun q x hq=>?_;cases x with
   |none=>exact SR.stuck
   |some x=>
    obtain⟨e,n⟩:=x;simp only;rw[<-h.2.1];split
    .exact SR.pure rfl
    .split
     .exact SR.pure rfl
     .exact SR.stuck
theorem SR.equalIn (hc:ai P):∀(d n:Nat) (t:TypeId) {p:Pi} {x x' y y':Value},aL P n t=true->VR S p x x'->VR S p y y'->SR P F S K N (QE Bool) (Op.equalIn d t x y) (Op.equalIn d t x' y') p
 |0,_,_,_,_,_,_,_,_,_,_=>SR.unsupported
 |d+1,0,_,_,_,_,_,_,h,_,_=>by simp[aL]at h
 |d+1,n+1,t,p,x,x',y,y',ht,hx,hy=>by
  simp only[Op.equalIn];refine SR.aM fun u hu=>?_;simp only[aL,hu]at ht;cases u with
  |bool=>cases hx<;>cases hy<;>first|exact SR.pure rfl|exact SR.stuck
  |string=>cases hx<;>cases hy<;>first|exact SR.pure rfl|exact SR.stuck
  |int k=>
   cases hx<;>first|exact SR.stuck|(cases hy<;>first|exact SR.stuck|exact SR.unsupported|skip)
   .rename_i k1 a k2 b;simp only;split
    .exact SR.pure rfl
    .exact SR.stuck
   .rename_i k1 a r r' o sp h;rcases a with(_|a)|a<;>first|exact SR.pure rfl|exact SR.unsupported
   .rename_i r r' o sp h k1 a;rcases a with(_|a)|a<;>first|exact SR.pure rfl|exact SR.unsupported
   .rename_i r r' o sp h r2 nR o2 fM h2;intro hp;refine(SR.behindNumber (a:=⟨r,o,sp⟩) (a':=⟨r',o,sp⟩) ⟨h,rfl,rfl⟩).bind (fun q a a' hq ha=>?_) hp;refine(SR.behindNumber (a:=⟨r2,o2,fM⟩) (a':=⟨nR,o2,fM⟩) ⟨hq _ _ h2,rfl,rfl⟩).bind fun q2 b b' bd hb=>?_;have ha:=ha.1.mono bd;have hb:=hb.1;refine SR.d9 ?_;try simp only[bY,aA,bN,aC,aD,aT,aU,bG]
    intro vA;by_cases hg:(a.1.block==b.1.block&&decide (a.1.block<P.globals.size))=true
    .have pz:(a'.1.block==b'.1.block&&decide (a'.1.block<P.globals.size))=true:=by
      simp only[Bool.and_eq_true,beq_iff_eq,decide_eq_true_eq]at hg⊢;exact⟨(vA.1 _ _ _ _ ha.1 hb.1).1 hg.1,(vA.2 _ _ ha.1).1 hg.2⟩
     simp only[hg,pz,if_true];exact(SR.byteOf ha).ab (fun q x hq=>(SR.byteOf (hb.mono hq)).ab fun q y hq=>SR.pure rfl) vA
    .simp only[hg,if_false,Bool.false_eq_true];by_cases pz:(a'.1.block==b'.1.block&&decide (a'.1.block<P.globals.size))=true
     .refine absurd ?_ hg;simp only[Bool.and_eq_true,beq_iff_eq,decide_eq_true_eq]at pz⊢;exact⟨(vA.1 _ _ _ _ ha.1 hb.1).2 pz.1,(vA.2 _ _ ha.1).2 pz.2⟩
     .simp only[pz,if_false,Bool.false_eq_true];refine SR.fw (fun i hi=>?_) vA;have bC:=fun u=>hc t i u hi;generalize i.desc=ds at bC;cases ds<;>first|exact SR.unsupported|skip
      rename_i nm u;by_cases AL:nm= "sync.copyChecker"
      .subst AL;exact absurd rfl (bC u)
      .split
       .rename_i h3;exact absurd (by simpa using h3) (bC _)
       .exact SR.unsupported
  |slice e=>cases hx<;>cases hy<;>first|exact SR.pure rfl|exact SR.stuck
  |struct fs=>
   simp only[Bool.and_eq_true,Bool.not_eq_true']at ht;cases hx<;>first|exact SR.stuck|(cases hy<;>first|exact SR.stuck|skip)
   rename_i xs aQ pl vM ys rf In Io;have ax:AR S p xs aQ:=⟨pl,vM⟩
   have ay:AR S p ys rf:=⟨In,Io⟩
   simp only;refine SR.d9 ?_;try simp only[bY,aA,bN,aC,aD,aT,aU,bG]
   simp only[ht.1,Bool.false_eq_true,if_false]
   refine SR.ab (α:=Option Bool×Unit) ?_ fun q r hq=>by
    split<;>exact SR.pure rfl
   rw[<-Array.forIn_toList,<-Array.forIn_toList]
   have aG:∀f∈fs.toList,aL P n f.type=true:=fun f hf=>by
    obtain⟨i,hi,he⟩:=List.getElem_of_mem hf;have:=Array.all_eq_true.1 ht.2 i (by simpa using hi);rw[<-he];simpa using this
   refine SR.fL (p:=p) _ _ fs.toList (fun f hf b q2 bd=>?_) _ p (Le.refl _);have ax:=ax.mono bd;have ay:=ay.mono bd;split
   .refine(SR.part f.type ax _).bind fun q3 u u' dK Ip=>?_;refine(SR.part f.type (ay.mono dK) _).bind fun q4 v v' pA Iq=>?_;refine(SR.equalIn hc d n f.type (aG f hf) (Ip.mono pA) Iq).ab fun q5 c DO=>?_;split<;>exact SR.pure rfl
   .exact SR.pure rfl
  |array len e=>
   cases hx<;>first|exact SR.stuck|(cases hy<;>first|exact SR.stuck|skip)
   rename_i xs aQ pl vM ys rf In Io;have ax:AR S p xs aQ:=⟨pl,vM⟩
   have ay:AR S p ys rf:=⟨In,Io⟩
   simp only;refine(SR.sizeOf e).ab fun q m hq=>?_
   refine SR.ab (α:=Option Bool×Unit) ?_ fun q r hq=>by
    split<;>exact SR.pure rfl
   simp only[Std.Legacy.Range.forIn_eq_forIn_range'];refine SR.fL (p:=q) _ _ _ (fun i hi b q2 bd=>?_) _ q (Le.refl _);have ax:=(ax.mono hq).mono bd;have ay:=(ay.mono hq).mono bd;refine(SR.part e ax _).bind fun q3 u u' dK Ip=>?_;refine(SR.part e (ay.mono dK) _).bind fun q4 v v' pA Iq=>?_;refine(SR.equalIn hc d n e ht (Ip.mono pA) Iq).ab fun q5 c DO=>?_;split<;>exact SR.pure rfl
  |_=>cases ht
end
section
variable {P:Program} {F:Array Func} {S:Nat->Bool} {K:Code->Prop} {N:Nat} {p:Pi}
theorem SR.intArith (op:BinOp) (k:IntKind) (x y:Int):SR P F S K N (QV S) (Op.intArith op k x y) (Op.intArith op k x y) p:=by
 cases op<;>first|exact SR.pure (.int _ _)|exact SR.stuck
theorem SR.intDiv (op:BinOp) (k:IntKind) (x y:Int):SR P F S K N (QV S) (Op.intDiv op k x y) (Op.intDiv op k x y) p:=by
 unfold Op.intDiv;split
 .exact SR.err _
 .cases op<;>first|exact SR.pure (.int _ _)|exact SR.stuck
theorem SR.intBits (op:BinOp) (k:IntKind) (x y:Int):SR P F S K N (QV S) (Op.intBits op k x y) (Op.intBits op k x y) p:=by
 cases op<;>first|exact SR.pure (.int _ _)|exact SR.stuck
theorem SR.intCmp (op:BinOp) (x y:Int):SR P F S K N (QV S) (Op.intCmp op x y) (Op.intCmp op x y) p:=by
 cases op<;>first|exact SR.pure (.bool _)|exact SR.stuck
theorem SR.shift (op:BinOp) (k:IntKind) (x:Int) (k':IntKind) (y:Int):SR P F S K N (QV S) (Op.shift op k x k' y) (Op.shift op k x k' y) p:=by
 unfold Op.shift;split
 .exact SR.err _
 .cases op<;>first|exact SR.pure (.int _ _)|exact SR.stuck
theorem SR.stringOp (op:BinOp) (x y:ByteArray):SR P F S K N (QV S) (Op.stringOp op x y) (Op.stringOp op x y) p:=by
 cases op<;>first|exact SR.pure (.bool _)|exact SR.stuck|skip
 unfold Op.stringOp;simp only;split
 .exact SR.unsupported
 .exact SR.pure (.string _)
theorem SR.unary (op:UnOp) (h:VR S p x x'):SR P F S K N (QV S) (Op.unary op x) (Op.unary op x') p:=by
 cases op<;>cases h<;>first|exact SR.pure (.bool _)|exact SR.unsupported|exact SR.stuck|skip
 .rename_i k n;exact SR.intArith .sub k 0 n
 .rename_i k n;exact SR.intBits .xor k (if k.signed then-1 else k.max) n
theorem bi (ts:Array TypeId) (t:TypeId) (a:Addr) (y:Value):Builtin.unsafeAdd_ ts t #[.pointer (some a),y]=(Go.asInt y>>=fun n=>
 if n=0 then(Go.viewAt a.block>>=fun v=>if v.isSome then Go.unsupported (.unsafePointer "Add: at a place where no cell lies")else Pure.pure (.pointer (some a)))
 else if n<0 then Go.unsupported (.unsafePointer "Add: a move by a count below zero")
 else Go.shape a.block>>=fun s=>match s with
  |some (e,cells)=>Go.program>>=fun p=>match cellAtBytes p p.depth e (cells/p.cellsOf e) a.off n with
   |some off=>Pure.pure (.pointer (some {a with off}))
   |none=>Go.unsupported (.unsafePointer "Add")
  |none=>Go.unsupported (.unsafePointer "Add")):=by
 unfold Builtin.unsafeAdd_;show(Go.asInt y>>=_)=_;congr 1;funext n;by_cases h0:n=0
 .simp only[h0,if_true];congr 1
 .by_cases h1:n<0
  .simp only[h0,h1,if_true,if_false];rfl
  .simp only[h0,h1,if_false];congr 1;funext s;cases s<;>rfl
theorem SR.unsafeAdd {ts PC:Array TypeId} {t':TypeId} (h:cx p a a') (hy:VR S p y y'):SR P F S K N (fun q v v'=>∃b b',v=.pointer (some b)/\v'=.pointer (some b')/\cx q b b') (Builtin.unsafeAdd_ ts t #[.pointer (some a),y]) (Builtin.unsafeAdd_ PC t' #[.pointer (some a'),y']) p:=by
 rw[bi,bi];refine(SR.asInt hy).ab fun q n hq=>?_;have h:=h.mono hq;refine SR.ite (fun _=>?_) fun _=>SR.ite (fun _=>SR.unsupported) fun _=>?_
 .exact(SR.viewAt h.1).bind fun q x y hq rk=>by
   rw[rk.1,rk.2];exact SR.pure ⟨_,_,rfl,rfl,h.mono hq⟩
 .refine(SR.shape h.1).ab fun q x hq=>?_;cases x with
  |none=>exact SR.unsupported
  |some x=>
   obtain⟨e,cells⟩:=x;refine SR.d9 ?_;try simp only[bY,aA,bN,aC,aD,aT,aU,bG]
   simp only[<-h.2.1];split
   .rename_i off _;exact SR.pure ⟨{a with off},{a' with off},rfl,rfl,hq _ _ h.1,rfl,h.2.2⟩
   .exact SR.unsupported
theorem SR.asNumber (h:cx p a a') (l:Bool):SR P F S K N (QV S) (Go.asNumber a l) (Go.asNumber a' l) p:=by
 unfold Go.asNumber;exact(SR.newObj (.number l h)).bind fun q r r' hq hr=>SR.pure (.ptr 0 none hr.1)
theorem SR.movedNumber (t:TypeId) (hx:VR S p x x') (hy:VR S p y y'):SR P F S K N (QV S) (Go.movedNumber t x y) (Go.movedNumber t x' y') p:=by
 unfold Go.movedNumber;refine SR.aM fun d hd=>?_;dsimp only;refine SR.ite (fun _=>SR.unsupported) fun _=>?_;cases x with
 |pointer a=>
  cases a with
  |none=>
   cases hx;show SR P F S K N (QV S) (Builtin.unsafeAdd_ #[] t #[.pointer none,y]) (Builtin.unsafeAdd_ #[] t #[.pointer none,y']) p;show SR P F S K N (QV S) (Go.asInt y>>=_) (Go.asInt y'>>=_) p;refine(SR.asInt hy).ab fun q n hq=>?_;dsimp only;refine SR.ite (fun _=>SR.unsupported) fun _=>SR.ite (fun _=>SR.unsupported) fun _=>SR.unsupported
  |some a=>
   obtain⟨r,o,sp⟩:=a;cases hx with
   |ptr _ _ h=>
   rename_i r';refine(SR.behindNumber (a:=⟨r,o,sp⟩) (a':=⟨r',o,sp⟩) ⟨h,rfl,rfl⟩).bind fun q a a' hq ha=>?_;obtain⟨a,l⟩:=a;obtain⟨a',l'⟩:=a';obtain⟨ha,hl⟩:=ha;simp only at hl ha;subst hl;simp only;refine(SR.unsafeAdd ha (hy.mono hq)).bind fun q v v' hq hv=>?_;obtain⟨b,b',rfl,rfl,h⟩:=hv;exact SR.asNumber h l
 |_=>
  cases hx<;>exact(SR.stuck:SR P F S K N (QV S) (Go.stuck "unsafe.Add: a pointer and an integer expected") _ p)
theorem SR.twoPlaces {b b':Addr} (ha:cx p a a') (hb:cx p b b'):SR P F S K N (QE (Nat×Nat)) (Op.twoPlaces a b) (Op.twoPlaces a' b') p:=by
 unfold Op.twoPlaces;refine SR.d9 ?_;try simp only[bY,aA,bN,aC,aD,aT,aU,bG]
 intro hp
 have e:(a.block !=b.block||decide (a.block>=P.globals.size))=(a'.block !=b'.block||decide (a'.block>=P.globals.size)):=by
  have h1:=hp.1 _ _ _ _ ha.1 hb.1;have h2:=hp.2 _ _ ha.1;rw[Bool.eq_iff_iff];simp only[Bool.or_eq_true,bne_iff_ne,decide_eq_true_eq,ne_eq];omega
 rw[e];revert hp;show SR P F S K N (QE (Nat×Nat)) _ _ p;try dsimp only
 refine SR.ite (fun _=>SR.unsupported) fun _=>?_;exact(SR.byteOf ha).ab fun q x hq=>(SR.byteOf (hb.mono hq)).ab fun q y hq=>SR.pure rfl
theorem SR.addrSub (k:IntKind) {b b':Addr} (ha:cx p a a') (hb:cx p b b'):SR P F S K N (QV S) (Op.addrSub k a b) (Op.addrSub k a' b') p:=
 (SR.twoPlaces ha hb).ab fun q x hq=>SR.pure (.int _ _)
theorem SR.addrCmp (op:BinOp) {b b':Addr} (ha:cx p a a') (hb:cx p b b'):SR P F S K N (QV S) (Op.addrCmp op a b) (Op.addrCmp op a' b') p:=by
 refine(SR.twoPlaces ha hb).ab fun q x hq=>?_;cases op<;>first|exact SR.pure (.bool _)|exact SR.unsupported
theorem SR.addrMod (k:IntKind) (ha:cx p a a') (n:Int):SR P F S K N (QV S) (Op.addrMod k a n) (Op.addrMod k a' n) p:=by
 unfold Op.addrMod;refine(SR.shape ha.1).ab fun q x hq=>?_;cases x with
 |none=>exact SR.unsupported
 |some x=>
  obtain⟨e,m⟩:=x;simp only;refine SR.fw fun i hi=>?_;refine SR.ite (fun _=>SR.unsupported) fun _=>?_;exact(SR.byteOf (ha.mono hq)).ab fun q x hq=>SR.pure (.int _ _)
theorem SR.equal (hc:ai P) (ht:aL P n t=true) (hx:VR S p x x') (hy:VR S p y y'):SR P F S K N (QE Bool) (Op.equal t x y) (Op.equal t x' y') p:=
 SR.equalIn hc _ n t ht hx hy
def ee (P:Program) (op:BinOp) (t:TypeId):Bool:=
 match op with
 |.eql|.neq=>aL P 10 t&&!P.eqGuardType P.depth t
 |.add|.sub=>match P.underlying t with|some .unsafePointer=>false|_=>true
 |_=>true
end
section
variable {P:Program} {F:Array Func} {S:Nat->Bool} {K:Code->Prop} {N:Nat} {p:Pi}
theorem SR.vN (op:BinOp) (t:TypeId) (k k':IntKind) (a b:Int):SR P F S K N (QV S) (Go.binOp op t (.int k a) (.int k' b)) (Go.binOp op t (.int k a) (.int k' b)) p:=by
 have key:∀(s:Sem Value),SR P F S K N (QV S) s s p->SR P F S K N (QV S) (if k≠k' then Go.stuck "BinOp: operands of different kinds" else s) (if k≠k' then Go.stuck "BinOp: operands of different kinds" else s) p:=fun s h=>SR.ite (fun _=>SR.stuck) fun _=>h;cases op;case shl=>exact SR.shift .shl k a k' b
 case shr=>exact SR.shift .shr k a k' b
 case quo=>exact key _ (SR.intDiv .quo k a b)
 case rem=>exact key _ (SR.intDiv .rem k a b)
 case add=>exact key _ (SR.intArith .add k a b)
 case sub=>exact key _ (SR.intArith .sub k a b)
 case mul=>exact key _ (SR.intArith .mul k a b)
 case and=>exact key _ (SR.intBits .and k a b)
 case or=>exact key _ (SR.intBits .or k a b)
 case xor=>exact key _ (SR.intBits .xor k a b)
 case andNot=>exact key _ (SR.intBits .andNot k a b)
 all_goals exact key _ (SR.intCmp _ a b)
theorem SR.vO (op:BinOp) (t:TypeId) (a b:ByteArray):SR P F S K N (QV S) (Go.binOp op t (.string a) (.string b)) (Go.binOp op t (.string a) (.string b)) p:=by
 cases op;case add=>exact SR.stringOp .add a b
 case sub=>exact SR.stringOp .sub a b
 case mul=>exact SR.stringOp .mul a b
 case quo=>exact SR.stringOp .quo a b
 case rem=>exact SR.stringOp .rem a b
 case and=>exact SR.stringOp .and a b
 case or=>exact SR.stringOp .or a b
 case xor=>exact SR.stringOp .xor a b
 case andNot=>exact SR.stringOp .andNot a b
 case shl=>exact SR.stringOp .shl a b
 case shr=>exact SR.stringOp .shr a b
 case eql=>exact SR.stringOp .eql a b
 case neq=>exact SR.stringOp .neq a b
 case lss=>exact SR.stringOp .lss a b
 case leq=>exact SR.stringOp .leq a b
 case gtr=>exact SR.stringOp .gtr a b
 case geq=>exact SR.stringOp .geq a b
def bl:Value->Value->Bool
 |.int _ _,.int _ _|.string _,.string _=>true
 |_,_=>false
theorem SR.rm (hc:ai P) (t:TypeId) (hx:VR S p x x') (hy:VR S p y y') (h:bl x y=false):SR P F S K N (QV S) (Go.binOp .mul t x y) (Go.binOp .mul t x' y') p:=by
 cases hx<;>cases hy<;>first|exact SR.stuck|exact SR.unsupported|(cases h;done)|skip
theorem SR.rn (hc:ai P) (t:TypeId) (hx:VR S p x x') (hy:VR S p y y') (h:bl x y=false):SR P F S K N (QV S) (Go.binOp .quo t x y) (Go.binOp .quo t x' y') p:=by
 cases hx<;>cases hy<;>first|exact SR.stuck|exact SR.unsupported|(cases h;done)|skip
theorem SR.rp (hc:ai P) (t:TypeId) (hx:VR S p x x') (hy:VR S p y y') (h:bl x y=false):SR P F S K N (QV S) (Go.binOp .rem t x y) (Go.binOp .rem t x' y') p:=by
 cases hx<;>cases hy<;>first|exact SR.stuck|exact SR.unsupported|(cases h;done)|skip
 all_goals
  rename_i r r' o sp g k n;exact SR.bind (SR.behindNumber (a:=⟨r,o,sp⟩) (a':=⟨r',o,sp⟩) ⟨g,rfl,rfl⟩) fun q a a' hq ha=>(SR.addrMod k ha.1 n)
theorem SR.rq (hc:ai P) (t:TypeId) (hx:VR S p x x') (hy:VR S p y y') (h:bl x y=false):SR P F S K N (QV S) (Go.binOp .and t x y) (Go.binOp .and t x' y') p:=by
 cases hx<;>cases hy<;>first|exact SR.stuck|exact SR.unsupported|(cases h;done)|skip
 .rename_i k n r r' o sp g;exact SR.bind (SR.behindNumber (a:=⟨r,o,sp⟩) (a':=⟨r',o,sp⟩) ⟨g,rfl,rfl⟩) fun q a a' hq ha=>SR.addrMod k ha.1 (n+1)
 .rename_i r r' o sp g k n;exact SR.bind (SR.behindNumber (a:=⟨r,o,sp⟩) (a':=⟨r',o,sp⟩) ⟨g,rfl,rfl⟩) fun q a a' hq ha=>SR.addrMod k ha.1 (n+1)
theorem SR.vP (hc:ai P) (t:TypeId) (hx:VR S p x x') (hy:VR S p y y') (h:bl x y=false):SR P F S K N (QV S) (Go.binOp .or t x y) (Go.binOp .or t x' y') p:=by
 cases hx<;>cases hy<;>first|exact SR.stuck|exact SR.unsupported|(cases h;done)|skip
theorem SR.rr (hc:ai P) (t:TypeId) (hx:VR S p x x') (hy:VR S p y y') (h:bl x y=false):SR P F S K N (QV S) (Go.binOp .xor t x y) (Go.binOp .xor t x' y') p:=by
 cases hx<;>cases hy<;>first|exact SR.stuck|exact SR.unsupported|(cases h;done)|skip
theorem SR.kq (hc:ai P) (t:TypeId) (hx:VR S p x x') (hy:VR S p y y') (h:bl x y=false):SR P F S K N (QV S) (Go.binOp .andNot t x y) (Go.binOp .andNot t x' y') p:=by
 cases hx<;>cases hy<;>first|exact SR.stuck|exact SR.unsupported|(cases h;done)|skip
theorem SR.rt (hc:ai P) (t:TypeId) (hx:VR S p x x') (hy:VR S p y y') (h:bl x y=false):SR P F S K N (QV S) (Go.binOp .shl t x y) (Go.binOp .shl t x' y') p:=by
 cases hx<;>cases hy<;>first|exact SR.stuck|exact SR.unsupported|(cases h;done)|skip
theorem SR.ru (hc:ai P) (t:TypeId) (hx:VR S p x x') (hy:VR S p y y') (h:bl x y=false):SR P F S K N (QV S) (Go.binOp .shr t x y) (Go.binOp .shr t x' y') p:=by
 cases hx<;>cases hy<;>first|exact SR.stuck|exact SR.unsupported|(cases h;done)|skip
theorem SR.rx (hc:ai P) (t:TypeId) (hx:VR S p x x') (hy:VR S p y y') (h:bl x y=false):SR P F S K N (QV S) (Go.binOp .lss t x y) (Go.binOp .lss t x' y') p:=by
 cases hx<;>cases hy<;>first|exact SR.stuck|exact SR.unsupported|(cases h;done)|skip
 .rename_i r r' o sp g r2 nR o2 fM g2
  exact SR.bind (SR.behindNumber (a:=⟨r,o,sp⟩) (a':=⟨r',o,sp⟩) ⟨g,rfl,rfl⟩) fun q a a' hq ha=>
   SR.bind (SR.behindNumber (a:=⟨r2,o2,fM⟩) (a':=⟨nR,o2,fM⟩) ⟨hq _ _ g2,rfl,rfl⟩) fun q2 b b' bd hb=>SR.addrCmp .lss (ha.1.mono bd) hb.1
theorem SR.ry (hc:ai P) (t:TypeId) (hx:VR S p x x') (hy:VR S p y y') (h:bl x y=false):SR P F S K N (QV S) (Go.binOp .leq t x y) (Go.binOp .leq t x' y') p:=by
 cases hx<;>cases hy<;>first|exact SR.stuck|exact SR.unsupported|(cases h;done)|skip
 .rename_i r r' o sp g r2 nR o2 fM g2
  exact SR.bind (SR.behindNumber (a:=⟨r,o,sp⟩) (a':=⟨r',o,sp⟩) ⟨g,rfl,rfl⟩) fun q a a' hq ha=>
   SR.bind (SR.behindNumber (a:=⟨r2,o2,fM⟩) (a':=⟨nR,o2,fM⟩) ⟨hq _ _ g2,rfl,rfl⟩) fun q2 b b' bd hb=>SR.addrCmp .leq (ha.1.mono bd) hb.1
theorem SR.rz (hc:ai P) (t:TypeId) (hx:VR S p x x') (hy:VR S p y y') (h:bl x y=false):SR P F S K N (QV S) (Go.binOp .gtr t x y) (Go.binOp .gtr t x' y') p:=by
 cases hx<;>cases hy<;>first|exact SR.stuck|exact SR.unsupported|(cases h;done)|skip
 .rename_i r r' o sp g r2 nR o2 fM g2
  exact SR.bind (SR.behindNumber (a:=⟨r,o,sp⟩) (a':=⟨r',o,sp⟩) ⟨g,rfl,rfl⟩) fun q a a' hq ha=>
   SR.bind (SR.behindNumber (a:=⟨r2,o2,fM⟩) (a':=⟨nR,o2,fM⟩) ⟨hq _ _ g2,rfl,rfl⟩) fun q2 b b' bd hb=>SR.addrCmp .gtr (ha.1.mono bd) hb.1
theorem SR.rA (hc:ai P) (t:TypeId) (hx:VR S p x x') (hy:VR S p y y') (h:bl x y=false):SR P F S K N (QV S) (Go.binOp .geq t x y) (Go.binOp .geq t x' y') p:=by
 cases hx<;>cases hy<;>first|exact SR.stuck|exact SR.unsupported|(cases h;done)|skip
 .rename_i r r' o sp g r2 nR o2 fM g2
  exact SR.bind (SR.behindNumber (a:=⟨r,o,sp⟩) (a':=⟨r',o,sp⟩) ⟨g,rfl,rfl⟩) fun q a a' hq ha=>
   SR.bind (SR.behindNumber (a:=⟨r2,o2,fM⟩) (a':=⟨nR,o2,fM⟩) ⟨hq _ _ g2,rfl,rfl⟩) fun q2 b b' bd hb=>SR.addrCmp .geq (ha.1.mono bd) hb.1
theorem SR.rB (hc:ai P) (t:TypeId) (hu:P.underlying t≠some .unsafePointer) (hx:VR S p x x') (hy:VR S p y y') (h:bl x y=false):SR P F S K N (QV S) (Go.binOp .add t x y) (Go.binOp .add t x' y') p:=by
 have key:∀{a a' b b':Value},VR S p a a'->VR S p b b'->SR P F S K N (QV S) (Go.underlying t>>=fun u=>if(match u with|.unsafePointer=>true|_=>false)=true then Go.movedPointer t a b else Go.movedNumber t a b) (Go.underlying t>>=fun u=>if(match u with|.unsafePointer=>true|_=>false)=true then Go.movedPointer t a' b' else Go.movedNumber t a' b') p:=by
  intro a a' b b' ha hb;refine SR.aM fun d hd=>?_;have bC:d≠ .unsafePointer:=fun e=>hu (e▸hd);cases d<;>first|exact absurd rfl bC|exact SR.movedNumber t ha hb
 have mE:=hx;have Lx:=hy;cases hx<;>cases hy<;>first|exact SR.stuck|exact SR.unsupported|(cases h;done)|exact key mE Lx|exact SR.movedNumber t Lx mE
theorem SR.rC (hc:ai P) (t:TypeId) (hx:VR S p x x') (hy:VR S p y y') (h:bl x y=false):SR P F S K N (QV S) (Go.binOp .sub t x y) (Go.binOp .sub t x' y') p:=by
 have mE:=hx;cases hx<;>cases hy<;>first|exact SR.stuck|exact SR.unsupported|(cases h;done)|skip
 .rename_i k n;exact SR.movedNumber t mE (.int k (-n))
 .rename_i r r' o sp g k n;exact SR.movedNumber t mE (.int k (-n))
 .rename_i r r' o sp g r2 nR o2 fM g2
  exact SR.bind (SR.behindNumber (a:=⟨r,o,sp⟩) (a':=⟨r',o,sp⟩) ⟨g,rfl,rfl⟩) fun q a a' hq ha=>
   SR.bind (SR.behindNumber (a:=⟨r2,o2,fM⟩) (a':=⟨nR,o2,fM⟩) ⟨hq _ _ g2,rfl,rfl⟩) fun q2 b b' bd hb=>SR.addrSub .u64 (ha.1.mono bd) hb.1
theorem ae.Gw {k:Program->Sem α} (h:ae P (k P)):ae P (Sem.program k):=fun w es=>h w es
theorem ae.stuck (x:String):ae P (Go.stuck x:Sem α):=fun w es=>⟨_,w,es,rfl,trivial⟩
theorem iF (ht:aL P n t=true) (h:x=.tuple #[]\/y=.tuple #[]):ae P (Op.equal t x y):=by
 obtain⟨d,hd⟩:∃d,Op.maxDepth=d+1:=⟨_,rfl⟩
 unfold Op.equal;rw[hd];simp only[Op.equalIn];unfold Go.underlying;refine ae.Gw (k:=fun P=>Sem.bind (match P.underlying t with|some i=>Pure.pure i|none=>Go.stuck "no such type") _) ?_;cases n with
 |zero=>simp[aL]at ht
 |succ n=>
 cases hu:P.underlying t with
 |none=>exact ae.bind (ae.stuck _) _
 |some u=>
  simp only[aL,hu]at ht;cases u<;>first|(cases ht;done)|skip
  all_goals rcases h with rfl|rfl
  all_goals first
   |exact fun w es=>⟨_,w,es,rfl,trivial⟩
   |(cases y<;>exact fun w es=>⟨_,w,es,rfl,trivial⟩)
   |(cases x<;>first|exact fun w es=>⟨_,w,es,rfl,trivial⟩|(rename_i a;cases a<;>exact fun w es=>⟨_,w,es,rfl,trivial⟩)|(rename_i a l c;cases a<;>cases l<;>cases c<;>exact fun w es=>⟨_,w,es,rfl,trivial⟩))
theorem fN (f:Bool->Sem β):rh (Op.equal t x y>>=f)=true:=by
 obtain⟨d,hd⟩:∃d,Op.maxDepth=d+1:=⟨_,rfl⟩
 unfold Op.equal;rw[hd];rfl
theorem jI (t:TypeId) (h:bl x y=false) (hj:x=.tuple #[]\/y=.tuple #[]):Go.binOp .eql t x y=(Op.equal t x y>>=fun b=>Pure.pure (.bool b)):=by
 rcases hj with rfl|rfl
 .cases y<;>rfl
 .cases x<;>rfl
theorem jJ (t:TypeId) (h:bl x y=false) (hj:x=.tuple #[]\/y=.tuple #[]):Go.binOp .neq t x y=(Op.equal t x y>>=fun b=>Pure.pure (.bool !b)):=by
 rcases hj with rfl|rfl
 .cases y<;>rfl
 .cases x<;>rfl
theorem SR.jI (hc:ai P) (t:TypeId) (ht:aL P n t=true) (hx:VR S p x x') (hy:VR S p y y') (h:bl x y=false):SR P F S K N (QV S) (Go.binOp .eql t x y) (Go.binOp .eql t x' y') p:=by
 by_cases hj:x=.tuple #[]\/y=.tuple #[]
 .rw[aB.jI t h hj];exact SR.gS (ae.bind (iF ht hj) _) (fN _)
 have key:SR P F S K N (QV S) (Op.equal t x y>>=fun b=>Pure.pure (.bool b)) (Op.equal t x' y'>>=fun b=>Pure.pure (.bool b)) p:=(SR.equal hc ht hx hy).ab fun q b hq=>SR.pure (.bool b);cases hx<;>cases hy<;>first|exact key|(cases h;done)|exact absurd (.inl rfl) hj|exact absurd (.inr rfl) hj
theorem SR.jJ (hc:ai P) (t:TypeId) (ht:aL P n t=true) (hx:VR S p x x') (hy:VR S p y y') (h:bl x y=false):SR P F S K N (QV S) (Go.binOp .neq t x y) (Go.binOp .neq t x' y') p:=by
 by_cases hj:x=.tuple #[]\/y=.tuple #[]
 .rw[aB.jJ t h hj];exact SR.gS (ae.bind (iF ht hj) _) (fN _)
 have key:SR P F S K N (QV S) (Op.equal t x y>>=fun b=>Pure.pure (.bool !b)) (Op.equal t x' y'>>=fun b=>Pure.pure (.bool !b)) p:=(SR.equal hc ht hx hy).ab fun q b hq=>SR.pure (.bool !b);cases hx<;>cases hy<;>first|exact key|(cases h;done)|exact absurd (.inl rfl) hj|exact absurd (.inr rfl) hj
theorem SR.binOp (hc:ai P) (op:BinOp) (t:TypeId) (ho:ee P op t=true) (hx:VR S p x x') (hy:VR S p y y'):SR P F S K N (QV S) (Go.binOp op t x y) (Go.binOp op t x' y') p:=by
 cases hp:bl x y with
 |true=>
  cases hx<;>first|(cases hp;done)|(cases hy<;>first|(cases hp;done)|exact SR.vN op t _ _ _ _|exact SR.vO op t _ _)
 |false=>
  cases op;case add=>exact SR.rB hc t (fun e=>by simp[ee,e]at ho) hx hy hp
  case sub=>exact SR.rC hc t hx hy hp
  case mul=>exact SR.rm hc t hx hy hp
  case quo=>exact SR.rn hc t hx hy hp
  case rem=>exact SR.rp hc t hx hy hp
  case and=>exact SR.rq hc t hx hy hp
  case or=>exact SR.vP hc t hx hy hp
  case xor=>exact SR.rr hc t hx hy hp
  case andNot=>exact SR.kq hc t hx hy hp
  case shl=>exact SR.rt hc t hx hy hp
  case shr=>exact SR.ru hc t hx hy hp
  case lss=>exact SR.rx hc t hx hy hp
  case leq=>exact SR.ry hc t hx hy hp
  case gtr=>exact SR.rz hc t hx hy hp
  case geq=>exact SR.rA hc t hx hy hp
  case eql=>exact SR.jI hc t (by simp only[ee,Bool.and_eq_true]at ho;exact ho.1) hx hy hp
  case neq=>exact SR.jJ hc t (by simp only[ee,Bool.and_eq_true]at ho;exact ho.1) hx hy hp
end
section
variable {P:Program} {F:Array Func} {S:Nat->Bool} {K:Code->Prop} {N:Nat} {p:Pi}
theorem SR.kr (t:TypeId) (ht:aL P n t=true):∀d,SR P F S K N (QE Bool) (Op.eqGuardIn d t .nilIface .nilIface) (Op.eqGuardIn d t .nilIface .nilIface) p
 |0=>SR.unsupported
 |d+1=>by
  simp only[Op.eqGuardIn];refine SR.aM fun u hu=>?_;cases n with
  |zero=>simp[aL]at ht
  |succ n=>
   simp only[aL,hu]at ht;cases u<;>first|exact SR.pure rfl|(cases ht;done)
def bn (t:TypeId) (x y:Operand) (a b:Value):Sem Unit:=
 match a,b with
 |.nilIface,.nilIface=>
  if((x matches .const _)||(y matches .const _))=true then Pure.pure ()
  else Op.eqGuardIn Op.maxDepth t .nilIface .nilIface>>=fun g=>if g=true then Go.unsupported (.noEntry "binop/eql: two nil values of an interface type with methods, neither of them the literal nil")else Pure.pure ()
 |.agg xs,.agg ys=>Go.program>>=fun q=>Go.program>>=fun r=>
  if(!q.eqGuardType r.depth t)=true then Pure.pure ()
  else Op.eqGuardIn Op.maxDepth t (.agg xs) (.agg ys)>>=fun g=>if g=true then Go.unsupported (.noEntry "binop/eql: two nil values of an interface type with methods, in a part of a struct or an array")else Pure.pure ()
 |_,_=>Pure.pure ()
theorem cy (t:TypeId) (x y:Operand) (a b:Value):Go.eqGuard .eql t x y a b=bn t x y a b:=by
 cases a<;>cases b<;>rfl
theorem cz (t:TypeId) (x y:Operand) (a b:Value):Go.eqGuard .neq t x y a b=bn t x y a b:=by
 cases a<;>cases b<;>rfl
theorem SR.bn (t:TypeId) (ht:aL P 10 t=true) (hg:P.eqGuardType P.depth t=false) (x y:Operand) {a a' b b':Value} (ha:VR S p a a') (hb:VR S p b b') (Vw:a≠ .tuple #[]) (rD:b≠ .tuple #[]):SR P F S K N (QE Unit) (bn t x y a b) (bn t x y a' b') p:=by
 cases ha<;>first|exact SR.pure rfl|exact absurd rfl Vw|(cases hb<;>first|exact SR.pure rfl|exact absurd rfl rD|skip)
 .refine SR.ite (fun _=>SR.pure rfl) fun _=>?_;exact(SR.kr t ht Op.maxDepth).ab fun q g hq=>SR.ite (fun _=>SR.unsupported) fun _=>SR.pure rfl
 .refine SR.d9 (SR.d9 ?_);have pz:(aa P F).eqGuardType (aa P F).depth t=false:=by rw[bG,bB,hg]
  rw[hg,pz];exact SR.pure rfl
theorem SR.eqGuard (op:BinOp) (t:TypeId) (ho:ee P op t=true) (x y:Operand) {a a' b b':Value} (ha:VR S p a a') (hb:VR S p b b') (hj:¬((op=.eql\/op=.neq)/\(a=.tuple #[]\/b=.tuple #[]))):SR P F S K N (QE Unit) (Go.eqGuard op t x y a b) (Go.eqGuard op t x y a' b') p:=by
 cases op
 case eql=>
  simp only[ee,Bool.and_eq_true,Bool.not_eq_true']at ho;rw[cy,cy];exact SR.bn t ho.1 ho.2 x y ha hb (fun e=>hj ⟨.inl rfl,.inl e⟩) fun e=>hj ⟨.inl rfl,.inr e⟩
 case neq=>
  simp only[ee,Bool.and_eq_true,Bool.not_eq_true']at ho;rw[cz,cz];exact SR.bn t ho.1 ho.2 x y ha hb (fun e=>hj ⟨.inr rfl,.inl e⟩) fun e=>hj ⟨.inr rfl,.inr e⟩
 all_goals exact SR.pure rfl
inductive EL (S:Nat->Bool) (p:Pi):List MapEntry->List MapEntry->Prop
 |nil:EL S p [] []
 |cons {e e':MapEntry} {l l':List MapEntry} (h:ER S p e e') (t:EL S p l l'):EL S p (e::l) (e'::l')
theorem EL.mono {q:Pi} (h:Le p q) {l l':List MapEntry} (x:EL S p l l'):EL S q l l':=by
 induction x with
 |nil=>exact .nil
 |cons g _ ih=>exact .cons (g.mono h) ih
theorem EL.of:∀{l l':List MapEntry},l.length=l'.length->(∀(i:Nat) e e',l[i]?=some e->l'[i]?=some e'->ER S p e e')->EL S p l l'
 | [],[],_,_=>.nil
 | [],_::_,h,_=>by cases h
 |_::_,[],h,_=>by cases h
 |e::l,e'::l',h,g=>.cons (g 0 e e' rfl rfl) (EL.of (by simpa using h) fun i a b h1 h2=>g (i+1) a b h1 h2)
theorem lU {S:Nat->Bool} (hJ:S JK=false) (h:S JK=true):False:=by rw[hJ]at h;cases h
theorem gt (d:TypeDesc) {a a' b b':Value} (ha:VR S p a a') (hb:VR S p b b'):Instr.sameNow d a b=Instr.sameNow d a' b':=by
 cases ha with
 |lP hj hv=>cases d<;>cases a'<;>first|(cases hv;done)|rfl
 |_=>
  cases hb with
  |lP hj hv=>cases d<;>cases b'<;>first|(cases hv;done)|rfl
  |_=>cases d<;>rfl
def fx:Value->Bool
 |.bool _|.int _ _|.string _|.pointer _=>true
 |_=>false
def tD (P:Program) (t:TypeId):Bool:=match P.underlying t with
 |some .bool|some (.int _)|some .string=>true
 |_=>false
theorem rE {d:TypeDesc} {a b:Value} {c:Bool} (h:Instr.sameNow d a b=some c):fx a=true/\fx b=true:=by
 cases d<;>cases a<;>first|(cases h;done)|(cases b<;>first|(cases h;done)|exact⟨rfl,rfl⟩)
theorem nh (ht:tD P t=true) (h:¬(fx x=true/\fx y=true)):ae P (Op.equal t x y):=by
 obtain⟨d,hd⟩:∃d,Op.maxDepth=d+1:=⟨_,rfl⟩
 unfold Op.equal;rw[hd];simp only[Op.equalIn];unfold Go.underlying;refine ae.Gw (k:=fun P=>Sem.bind (match P.underlying t with|some i=>Pure.pure i|none=>Go.stuck "no such type") _) ?_;cases hu:P.underlying t with
 |none=>exact ae.bind (ae.stuck _) _
 |some u=>
  simp only[tD,hu]at ht;cases u<;>first|(cases ht;done)|skip
  all_goals
   cases x<;>first
    |exact fun w es=>⟨_,w,es,rfl,trivial⟩
    |(cases y<;>first
       |exact absurd ⟨rfl,rfl⟩ h
       |exact fun w es=>⟨_,w,es,rfl,trivial⟩)
    |(rename_i o;cases o<;>cases y<;>first
       |exact absurd ⟨rfl,rfl⟩ h
       |exact fun w es=>⟨_,w,es,rfl,trivial⟩)
theorem jj (d:TypeDesc) (hk:VR S p k k'):∀{l l':List MapEntry},EL S p l l'->∀i,
 (Instr.findNow d k l i=none/\Instr.findNow d k' l' i=none)\/(Instr.findNow d k l i=some none/\Instr.findNow d k' l' i=some none)\/
   ∃j v v',Instr.findNow d k l i=some (some (i+j,v))/\Instr.findNow d k' l' i=some (some (i+j,v'))/\VR S p v v'/\∃e,l[j]?=some e/\fx k=true/\fx e.key=true:=by
 intro l l' h;induction h with
 |nil=>intro i;exact .inr (.inl ⟨rfl,rfl⟩)
 | @cons e e' l l' he _ ih=>
   intro i;simp only[Instr.findNow];rw[gt d hk he.1];cases hs:Instr.sameNow d k' e'.key with
   |none=>exact .inl ⟨rfl,rfl⟩
   |some b=>
    have hl:=rE ((gt d hk he.1).trans hs);cases b with
    |true=>exact .inr (.inr ⟨0,_,_,rfl,rfl,he.2.1,e,rfl,hl.1,hl.2⟩)
    |false=>
     rcases ih (i+1)with h|h|⟨j,v,v',h1,h2,h3,e2,h4,h5,h6⟩
     .exact .inl h
     .exact .inr (.inl h)
     .refine .inr (.inr ⟨j+1,v,v',?_,?_,h3,e2,by simpa using h4,h5,h6⟩)
      .rw[show i+(j+1)=i+1+j by omega];exact h1
      .rw[show i+(j+1)=i+1+j by omega];exact h2
def FR (S:Nat->Bool) (p:Pi) (G:Nat->Prop):Option (Nat×Value)->Option (Nat×Value)->Prop
 |none,none=>True
 |some x,some y=>x.1=y.1/\VR S p x.2 y.2/\G x.1
 |_,_=>False
theorem SR.findAsking (hc:ai P) (ht:aL P n t=true) (hJ:S JK=true->tD P t=true) (G:Nat->Prop):∀{l l':List MapEntry} {p:Pi} {k k':Value} (i:Nat),(∀j e,l[j]?=some e->(S JK=true->fx k=true/\fx e.key=true)->G (i+j))->VR S p k k'->EL S p l l'->
 SR P F S K N (fun q a b=>FR S q G a b) (Instr.findAsking t k l i) (Instr.findAsking t k' l' i) p
 | [],_,p,k,k',i,hG,hk,h=>by cases h;exact SR.pure trivial
 |e::l,_,p,k,k',i,hG,hk,h=>by
  cases h with
  | @cons _ e' _ l' he hl=>
  simp only[Instr.findAsking];by_cases hj:S JK=true->fx k=true/\fx e.key=true
  .refine(SR.equal hc ht hk he.1).ab fun q b hq=>?_;refine SR.ite (fun _=>SR.pure ⟨rfl,he.2.1.mono hq,hG 0 e rfl hj⟩) fun _=>SR.findAsking hc ht hJ G (i+1) (fun j e2 h1 h2=>?_) (hk.mono hq) (hl.mono hq);have:=hG (j+1) e2 (by simpa using h1) h2;rwa [show i+(j+1)=i+1+j by omega]at this
  .have h1:S JK=true:=Classical.byContradiction fun h=>hj fun h2=>absurd h2 h;exact SR.gS (ae.bind (nh (hJ h1) fun h2=>hj fun _=>h2) _) (fN _)
theorem SR.findKey (hc:ai P) (ht:aL P n t=true) (hJ:S JK=true->tD P t=true) {l l':List MapEntry} (hk:VR S p k k') (h:EL S p l l'):
 SR P F S K N (fun q a b=>FR S q (fun j=>S JK=true->fx k=true/\∀e,l[j]?=some e->fx e.key=true) a b) (Instr.findKey t k l) (Instr.findKey t k' l') p:=by
 unfold Instr.findKey;refine SR.aM fun u hu=>?_;rcases jj u hk h 0 with⟨e1,e2⟩|⟨e1,e2⟩|⟨j,v,v',e1,e2,hv,e,he,h5,h6⟩
 .rw[e1,e2];refine SR.findAsking hc ht hJ _ 0 (fun j e he hg hj=>?_) hk h;refine⟨(hg hj).1,fun e2 tE=>?_⟩;rw[Nat.zero_add,he]at tE;cases tE;exact(hg hj).2
 .rw[e1,e2];exact SR.pure trivial
 .rw[e1,e2];refine SR.pure ⟨rfl,hv,fun _=>⟨h5,fun e2 tE=>?_⟩⟩;rw[show(0+j,v).1=j by simp,he]at tE;cases tE;exact h6
theorem SR.checkKey (b:Bool):∀(d n:Nat) (t:TypeId) {p:Pi} {k k':Value},aL P n t=true->VR S p k k'->SR P F S K N (QE Unit) (Instr.checkKey b d t k) (Instr.checkKey b d t k') p
 |0,_,_,_,_,_,_,_=>SR.unsupported
 |d+1,0,_,_,_,_,h,_=>by simp[aL]at h
 |d+1,n+1,t,p,k,k',ht,hk=>by
  simp only[Instr.checkKey];refine SR.aM fun u hu=>?_;simp only[aL,hu]at ht;cases u with
  |array len e=>
   cases hk<;>first|exact SR.stuck|skip
   rename_i xs aQ pl vM;have ax:AR S p xs aQ:=⟨pl,vM⟩
   simp only;refine SR.ab (α:=PUnit) ?_ fun q r hq=>SR.pure rfl;simp only[Std.Legacy.Range.forIn_eq_forIn_range'];refine SR.fL (p:=p) _ _ _ (fun i hi b q2 bd=>?_) _ p (Le.refl _);refine(SR.sizeOf e).ab fun q3 m dK=>?_;refine(SR.part e ((ax.mono bd).mono dK) _).bind fun q4 v v' pA hv=>?_;exact(SR.checkKey _ d n e ht hv).ab fun q5 _ DO=>SR.pure rfl
  |struct fs=>
   simp only[Bool.and_eq_true]at ht
   have aG:∀f∈fs.toList,aL P n f.type=true:=fun f hf=>by
    obtain⟨i,hi,he⟩:=List.getElem_of_mem hf;have:=Array.all_eq_true.1 ht.2 i (by simpa using hi);rw[<-he];simpa using this
   cases hk<;>first|exact SR.stuck|skip
   rename_i xs aQ pl vM;have ax:AR S p xs aQ:=⟨pl,vM⟩
   simp only;refine SR.ab (α:=PUnit) ?_ fun q r hq=>SR.pure rfl;rw[<-Array.forIn_toList,<-Array.forIn_toList];refine SR.fL (p:=p) _ _ _ (fun f hf b q2 bd=>?_) _ p (Le.refl _);refine SR.ite (fun _=>?_) fun _=>SR.pure rfl;refine(SR.part f.type (ax.mono bd) _).bind fun q4 v v' pA hv=>?_;exact(SR.checkKey _ d n f.type (aG f hf) hv).ab fun q5 _ DO=>SR.pure rfl
  |bool=>cases hk<;>exact SR.pure rfl
  |int k=>cases hk<;>exact SR.pure rfl
  |string=>cases hk<;>exact SR.pure rfl
  |slice e=>cases hk<;>exact SR.pure rfl
  |_=>cases ht
end
section
variable {P:Program} {F:Array Func} {S:Nat->Bool} {K:Code->Prop} {N:Nat} {p:Pi}
theorem OR.mapList {es bM:Array MapEntry} (h:es.size=bM.size) (g:∀(i:Nat) (e e':MapEntry),es[i]?=some e->bM[i]?=some e'->ER S p e e'):EL S p es.toList bM.toList:=
 EL.of (by simpa using h) fun i e e' h1 h2=>g i e e' (by simpa using h1) (by simpa using h2)
def ib (P:Program) (t:TypeId):Bool:=match P.underlying t with|some (.map k _)=>aL P 10 k|_=>true
def gu (P:Program) (t:TypeId):Bool:=match P.underlying t with|some (.map k _)=>tD P k|_=>true
theorem SR.lookup (hz:au P) (hc:ai P) (t:TypeId) (hJ:S JK=true->gu P t=true) (ht:ib P t=true) (ok:Bool) (hx:VR S p x x') (hi:VR S p i i'):SR P F S K N (QV S) (Instr.lookup t x i ok) (Instr.lookup t x' i' ok) p:=by
 unfold Instr.lookup;refine SR.aM fun u hu=>?_;cases u with
 |map k e=>
  simp only[ib,hu]at ht;simp only[gu,hu]at hJ;simp only
  have rest:∀(q:Pi) (es bM:Array MapEntry),Le p q->es.size=bM.size->EL S q es.toList bM.toList->SR P F S K N (QV S)
   (Instr.checkKey es.isEmpty 10000 k i>>=fun _=>Instr.findKey k i es.toList>>=fun r=>match r with|some (_,v)=>(Pure.pure (v,true)>>=fun(x:Value×Bool)=>Pure.pure (if ok=true then Value.tuple #[x.1,.bool x.2]else x.1))|none=>Go.zeroValue e>>=fun z=>(Pure.pure (z,false)>>=fun(x:Value×Bool)=>Pure.pure (if ok=true then Value.tuple #[x.1,.bool x.2]else x.1)))
   (Instr.checkKey bM.isEmpty 10000 k i'>>=fun _=>Instr.findKey k i' bM.toList>>=fun r=>match r with|some (_,v)=>(Pure.pure (v,true)>>=fun(x:Value×Bool)=>Pure.pure (if ok=true then Value.tuple #[x.1,.bool x.2]else x.1))|none=>Go.zeroValue e>>=fun z=>(Pure.pure (z,false)>>=fun(x:Value×Bool)=>Pure.pure (if ok=true then Value.tuple #[x.1,.bool x.2]else x.1))) q:=by
   intro q es bM hq hs hl;have PD:es.isEmpty=bM.isEmpty:=by simp[Array.isEmpty,hs]
   have fin:∀(q:Pi) (a b:Value) (c:Bool),VR S q a b->SR P F S K N (QV S) (Pure.pure (if ok=true then Value.tuple #[a,.bool c]else a)) (Pure.pure (if ok=true then Value.tuple #[b,.bool c]else b)) q:=by
    intro q a b c h;cases ok with
    |true=>exact SR.pure (AR.tuple ((AR.one h).push (.bool _)))
    |false=>exact SR.pure h
   rw[PD];refine(SR.checkKey _ 10000 10 k ht (hi.mono hq)).ab fun q1 _ kM=>?_;refine(SR.findKey hc ht hJ ((hi.mono hq).mono kM) (hl.mono kM)).bind fun q2 r r' bd hr=>?_;cases r<;>cases r'<;>first|exact hr.elim|skip
   .exact(SR.zeroValue hz e).bind fun q4 z z' pA km=>fin q4 _ _ _ (km.1▸km.2)
   .exact fin q2 _ _ _ hr.2.1
  cases hx<;>first|exact SR.stuck|skip
  .exact rest p #[] #[] (Le.refl _) rfl .nil
  .rename_i r r' h;refine(SR.getObj h).bind fun q o o' hq ho=>?_;cases ho with
   |map c h g=>exact rest q _ _ hq h (OR.mapList h g)
   |_=>exact SR.stuck
 |_=>exact SR.stuck
theorem cQ (hJ:S JK=false) (hp:kN P p):∀(n:Nat) {a a' b b':Value},VR S p a a'->VR S p b b'->Instr.sameBits n a b=Instr.sameBits n a' b'
 |n,a,a',b,b',ha,hb=>by
  have nQ:∀{r r' s s':Nat} (o o2:Nat) (sp fM:Option Nat),p r r'->p s s'->((some (⟨r,o,sp⟩:Addr))==(some (⟨s,o2,fM⟩:Addr)))=((some (⟨r',o,sp⟩:Addr))==(some (⟨s',o2,fM⟩:Addr))):=by
   intro r r' s s' o o2 sp fM h1 h2;have:=hp.1 _ _ _ _ h1 h2;rw[Bool.eq_iff_iff];simp[this]
  cases n with
  |zero=>
   cases ha<;>first|rfl|exact(lU hJ ‹_›).elim|(cases hb<;>first|rfl|exact nQ _ _ _ _ ‹_› ‹_›|exact(lU hJ ‹_›).elim)
  |succ n=>
   cases ha with
   |iface h=>cases hb<;>first|rfl|exact(lU hJ ‹_›).elim|(simp only[Instr.sameBits];rw[cQ hJ hp n h ‹_›])
   |agg h g=>
    cases hb with
    |agg h2 g2=>
     rename_i xs aQ ys rf;simp only[Instr.sameBits];rw[h,h2];congr 1
     have hl:∀(l l' m m':List Value),l.length=l'.length->m.length=m'.length->(∀(i:Nat) v v',l[i]?=some v->l'[i]?=some v'->VR S p v v')->(∀(i:Nat) v v',m[i]?=some v->m'[i]?=some v'->VR S p v v')->
      ((l.zip m).all fun(x,y)=>Instr.sameBits n x y)=((l'.zip m').all fun(x,y)=>Instr.sameBits n x y):=by
      intro l;induction l with
      |nil=>intro l' m m' h1 h2 _ _;cases l' with
       |nil=>rfl
       |cons=>cases h1
      |cons x l ih=>
       intro l' m m' h1 h2 g1 g2;cases l' with
       |nil=>cases h1
       |cons x' l'=>
        cases m with
        |nil=>cases m' with
         |nil=>rfl
         |cons=>cases h2
        |cons y m=>cases m' with
         |nil=>cases h2
         |cons y' m'=>
          simp only[List.zip_cons_cons,List.all_cons];rw[cQ hJ hp n (g1 0 x x' rfl rfl) (g2 0 y y' rfl rfl),ih l' m m' (by simpa using h1) (by simpa using h2) (fun i v v' a b=>g1 (i+1) v v' a b) (fun i v v' a b=>g2 (i+1) v v' a b)]
     exact hl _ _ _ _ (by simpa using h) (by simpa using h2) (fun i v v' a b=>g i v v' (by simpa using a) (by simpa using b)) (fun i v v' a b=>g2 i v v' (by simpa using a) (by simpa using b))
    |lP hj _=>exact(lU hJ hj).elim
    |_=>rfl
   |lP hj _=>exact(lU hJ hj).elim
   |_=>cases hb<;>first|rfl|exact nQ _ _ _ _ ‹_› ‹_›|exact(lU hJ ‹_›).elim
theorem pB (hp:kN P p):∀(n:Nat) {a a' b b':Value},fx a=true->fx b=true->VR S p a a'->VR S p b b'->Instr.sameBits n a b=Instr.sameBits n a' b':=fun n a a' b b' la lb ha hb=>by
 have nQ:∀{r r' s s':Nat} (o o2:Nat) (sp fM:Option Nat),p r r'->p s s'->((some (⟨r,o,sp⟩:Addr))==(some (⟨s,o2,fM⟩:Addr)))=((some (⟨r',o,sp⟩:Addr))==(some (⟨s',o2,fM⟩:Addr))):=by
  intro r r' s s' o o2 sp fM h1 h2;have:=hp.1 _ _ _ _ h1 h2;rw[Bool.eq_iff_iff];simp[this]
 cases ha<;>first|(cases la;done)|skip
 all_goals cases hb<;>first|(cases lb;done)|skip
 all_goals cases n<;>first|rfl|exact nQ _ _ _ _ ‹_› ‹_›
theorem SR.keyThatStays {a a' b b':Value} (hJ:S JK=true->fx a=true/\fx b=true) (ha:VR S p a a') (hb:VR S p b b'):SR P F S K N (QV S) (Instr.keyThatStays a b) (Instr.keyThatStays a' b') p:=by
 intro hp;unfold Instr.keyThatStays
 have e:Instr.sameBits 10000 a b=Instr.sameBits 10000 a' b':=by
  cases hs:S JK with
  |false=>exact cQ hs hp 10000 ha hb
  |true=>exact pB hp 10000 (hJ hs).1 (hJ hs).2 ha hb
 rw[e];refine SR.ite (P:=P) (S:=S) (K:=K) (N:=N) (fun _=>SR.pure hb) (fun _=>?_) hp;refine(SR.choose _).ab fun q n hq=>?_;split
 .exact SR.pure (hb.mono hq)
 .exact SR.pure (ha.mono hq)
theorem SR.mapUpdate (hc:ai P) (t:TypeId) (hJ:S JK=true->gu P t=true) (ht:ib P t=true) {m m':Value} (hm:VR S p m m') (hk:VR S p k k') (hv:VR S p v v'):SR P F S K N (QE Unit) (Instr.mapUpdate t m k v) (Instr.mapUpdate t m' k' v') p:=by
 unfold Instr.mapUpdate;refine SR.aM fun u hu=>?_;cases u with
 |map kt e=>
  simp only[ib,hu]at ht;simp only[gu,hu]at hJ;simp only;cases hm<;>first|exact SR.stuck|exact SR.nO _|skip
  rename_i r r' h;simp only;refine(SR.getObj h).bind fun q o o' hq ho=>?_;cases ho with
  | @map es bM c hs g=>
    simp only;refine(SR.checkKey _ 10000 10 kt ht (hk.mono hq)).ab fun q1 _ kM=>?_;have hl:EL S q1 es.toList bM.toList:=(OR.mapList hs g).mono kM;refine(SR.findKey hc ht hJ ((hk.mono hq).mono kM) hl).bind fun q2 x x' bd hx=>?_;have h:=bd _ _ (kM _ _ (hq _ _ h));have hk:=((hk.mono hq).mono kM).mono bd;have hv:=((hv.mono hq).mono kM).mono bd;have g2:∀(i:Nat) (e e':MapEntry),es[i]?=some e->bM[i]?=some e'->ER S q2 e e':=fun i e e' a b=>((g i e e' a b).mono kM).mono bd;cases x<;>cases x'<;>first|exact hx.elim|skip
    .refine SR.setObj h (.map (c+1) (by simp[hs]) fun i a b ha hb=>?_);rw[Array.getElem?_push]at ha hb;rw[hs]at ha;split at ha
     .rename_i hi;simp only[hi,if_true,Option.some.injEq]at ha hb;subst ha;subst hb;exact⟨hk,hv,rfl⟩
     .rename_i hi;simp only[hi,if_false]at hb;exact g2 i a b ha hb
    .rename_i y y';obtain⟨j,u⟩:=y;obtain⟨j',u'⟩:=y';obtain⟨hj,PE,Ol⟩:=hx;simp only at hj PE Ol;subst hj;simp only;refine SR.bind (Q:=QV S) (SR.keyThatStays (fun h=>⟨?_,(Ol h).1⟩) ?_ hk) fun q3 b b' dK hb=>?_
     .cases he:es[j]? with
      |none=>exact(Ol h).1
      |some e1=>exact(Ol h).2 e1 (by simpa using he)
     .cases he:es[j]? with
      |none=>
       have:bM[j]?=none:=by rw[Array.getElem?_eq_none_iff]at he⊢;omega
       rw[this];exact hk
      |some e1=>
       have ao:j<bM.size:=by rw[<-hs];exact(Array.getElem?_eq_some_iff.1 he).1
       rw[Array.getElem?_eq_getElem ao];exact(g2 j e1 _ he (Array.getElem?_eq_getElem ao)).1
     .refine SR.setObj (dK _ _ h) (.map c (by simp[hs]) fun i a b ha hb=>?_);rw[Array.getElem?_modify]at ha hb;split at ha
      .rename_i hi;simp only[hi,if_true]at hb;cases hea:es[i]? with
       |none=>rw[hea]at ha;cases ha
       |some ea=>
        have ao:i<bM.size:=by rw[<-hs];exact(Array.getElem?_eq_some_iff.1 hea).1
        rw[hea]at ha;rw[Array.getElem?_eq_getElem ao]at hb;simp only[Option.map_some,Option.some.injEq]at ha hb;subst ha;subst hb;exact⟨by assumption,hv.mono dK,(g2 i ea _ hea (Array.getElem?_eq_getElem ao)).2.2⟩
      .rename_i hi;simp only[hi,if_false]at hb;exact(g2 i a b ha hb).mono dK
  |_=>exact SR.stuck
 |_=>exact SR.stuck
theorem SR.makeMap (t:TypeId):SR P F S K N (QV S) (Instr.makeMap t none) (Instr.makeMap t none) p:=by
 refine SR.bind (Q:=fun q r r'=>q r r'/\N<=r) (SR.newObj (.map 0 rfl fun i e e' h=>by simp at h)) fun q r r' hq hr=>SR.pure (.map hr.1)
def eS (e:TypeId) (n m:Int) (bytes:Nat):Sem Value:=
 Go.askRoom ((IntKind.i64.wrap m).toNat*bytes)>>=fun _=>Go.sizeOf e>>=fun s=>
  if(IntKind.i64.wrap m).toNat*s=0 then(Go.newRow e ((Array.range ((IntKind.i64.wrap m).toNat*s)).map ((#[]:Array Value)[·%(#[]:Array Value).size]!))>>=fun a=>Pure.pure (Value.slice (some a) (IntKind.i64.wrap n).toNat (IntKind.i64.wrap m).toNat))
  else Go.zeroValue e>>=fun z=>(Go.newRow e ((Array.range ((IntKind.i64.wrap m).toNat*s)).map (z.cells[·%z.cells.size]!))>>=fun a=>Pure.pure (Value.slice (some a) (IntKind.i64.wrap n).toNat (IntKind.i64.wrap m).toNat))
theorem SR.makeSlice (hz:au P) (t:TypeId) {l l' c c':Value} (hl:VR S p l l') (ku:VR S p c c'):SR P F S K N (QV S) (Instr.makeSlice t l c) (Instr.makeSlice t l' c') p:=by
 unfold Instr.makeSlice;refine SR.aM fun u hu=>?_;cases u with
 |slice e=>
  simp only;refine(SR.asInt hl).ab fun q n hq=>?_;refine(SR.asInt (ku.mono hq)).ab fun q2 m bd=>?_;refine SR.fw fun i hi=>?_
  have rest:∀(q:Pi),SR P F S K N (QV S)
   (eS e n m i.bytes)
   (eS e n m i.bytes) q:=by
   intro q;unfold eS;refine(SR.askRoom _).ab fun q1 _ kM=>(SR.sizeOf e).ab fun q2 s bd=>?_;refine SR.ite (fun _=>?_) fun _=>?_
   .exact(SR.newRow e (fB AR.empty _)).bind fun q4 a a' pA ha=>SR.pure (ha.1.sl _ _)
   .refine(SR.zeroValue hz e).bind fun q3 z z' dK km=>?_;obtain⟨rfl,hv⟩:=km;exact(SR.newRow e (fB hv.cells _)).bind fun q4 a a' pA ha=>SR.pure (ha.1.sl _ _)
  have Ir:∀(msg:String) (q:Pi),SR P F S K N (QV S) (Go.runtimePanic (.error msg)>>=fun(_:PUnit)=>eS e n m i.bytes) (Go.runtimePanic (.error msg)>>=fun(_:PUnit)=>eS e n m i.bytes) q:=
   fun msg q=>SR.bind (Q:=QE PUnit) (SR.err msg) fun q _ _ _ _=>rest q
  refine SR.ite (fun _=>?_) fun _=>rest q2;refine SR.ite (fun _=>Ir _ q2) fun _=>SR.ite (fun _=>Ir _ q2) fun _=>?_;exact(SR.choose _).ab fun q3 c dK=>Ir _ q3
 |_=>exact SR.stuck
theorem SR.extract (h:VR S p v v') (i:Nat):SR P F S K N (QV S) (Instr.extract v i) (Instr.extract v' i) p:=by
 unfold Instr.extract;cases h<;>first|exact SR.stuck|skip
 rename_i xs aQ hx gx;simp only;cases hi:xs[i]? with
 |none=>exact SR.stuck
 |some u=>obtain⟨u',Il,hr⟩:=AR.get (S:=S) (p:=p) ⟨hx,gx⟩ hi;rw[Il];exact SR.pure hr
theorem SR.indexAt (t:TypeId) (h:VR S p v v') (hi:VR S p i i'):SR P F S K N (QV S) (Instr.indexAt t v i) (Instr.indexAt t v' i') p:=by
 unfold Instr.indexAt;refine(SR.asIntOf hi).ab fun q ki hq=>?_;obtain⟨k,n⟩:=ki;have h:=h.mono hq;refine SR.aM fun u hu=>?_;simp only
 have rest:∀(q:Pi) (b b':Option Addr) (len:Nat) (e:TypeId),((b=none/\b'=none)\/(∃a a',b=some a/\b'=some a'/\cx q a a')\/∃a a',b=some a/\b'=some a'/\len=0)->∀vQ:Bool,SR P F S K N (QV S)
  (match b with
    |some a=>if 0<=n/\n<(len:Int)then(Go.sizeOf e>>=fun s=>Pure.pure (Value.pointer (some (a.add (n.toNat*s)))))else if vQ=true then Go.unsupported (.noEntry "op/indexAddr.an index out of range at an array of length 0 or 1 (ledger 616)")else Go.boundsPanic k n (len:Int) .index
    |none=>Go.boundsPanic k n 0 .index)
  (match b' with
    |some a=>if 0<=n/\n<(len:Int)then(Go.sizeOf e>>=fun s=>Pure.pure (Value.pointer (some (a.add (n.toNat*s)))))else if vQ=true then Go.unsupported (.noEntry "op/indexAddr.an index out of range at an array of length 0 or 1 (ledger 616)")else Go.boundsPanic k n (len:Int) .index
    |none=>Go.boundsPanic k n 0 .index) q:=by
  intro q b b' len e hb vQ;rcases hb with⟨rfl,rfl⟩|⟨a,a',rfl,rfl,ha⟩|⟨a,a',rfl,rfl,rfl⟩
  .exact SR.boundsPanic _ _ _ _
  .refine SR.ite (fun _=>?_) fun _=>SR.ite (fun _=>SR.unsupported) fun _=>SR.boundsPanic _ _ _ _;exact(SR.sizeOf e).ab fun q s hq=>SR.pure (ha.mono hq|>.add _).ptr
  .refine SR.ite (fun h=>absurd h.2 (by simp only[Int.natCast_zero];omega)) fun _=>SR.ite (fun _=>SR.unsupported) fun _=>SR.boundsPanic _ _ _ _
 cases u with
 |array len e=>
  refine(SR.sureAddr h).bind fun q2 a a' bd ha=>?_;refine SR.aM fun u hu=>?_;exact rest q2 _ _ len e (.inr (.inl ⟨a,a',rfl,rfl,ha⟩)) _
 |slice e=>
  cases v with
  |slice b len cap=>
   cases v' with
   |slice b' Im dO=>
    obtain⟨rfl,rfl,hs⟩:=fK h;refine SR.aM fun u hu=>?_;exact rest q _ _ len e (hs.imp id fun h=>h.imp id fun⟨b,b',h1,h2,h3,_⟩=>⟨b,b',h1,h2,h3⟩) _
   |_=>cases h
  |_=>cases h<;>exact SR.stuck
 |_=>exact SR.stuck
end
section
variable {P:Program} {F:Array Func} {S:Nat->Bool} {K:Code->Prop} {N:Nat} {p:Pi}
theorem SR.lenOf (h:VR S p x x'):SR P F S K N (fun _ a b=>a=b/\∀b l c,x=.slice b l c->a=l) (Builtin.lenOf x) (Builtin.lenOf x') p:=by
 cases h<;>first|exact SR.pure ⟨rfl,fun b l c e=>by cases e<;>rfl⟩|exact SR.stuck
theorem SR.firstCells (s n:Nat) (h:VR S p x x') (hn:∀b c,x=.slice b 0 c->n=0):SR P F S K N (QA S) (Builtin.firstCells s n x) (Builtin.firstCells s n x') p:=by
 cases h<;>first|exact SR.stuck|skip
 .rename_i s1;exact SR.pure (AR.map _ _ _ fun x _=>.int _ _)
 .exact SR.pure AR.empty
 .rename_i r r' o sp l c g;exact SR.loadCells (a:=⟨r,o,sp⟩) (a':=⟨r',o,sp⟩) ⟨g,rfl,rfl⟩ _
 .obtain rfl:=hn _ _ rfl;simp only[Builtin.firstCells,Nat.zero_mul];exact SR.pure AR.empty
theorem SR.mF (s:Nat) (h:VR S p x x'):SR P F S K N (fun _ a b=>a=#[]/\b=#[]) (Builtin.firstCells s 0 x) (Builtin.firstCells s 0 x') p:=by
 have hl:∀b:Addr,Go.loadCells b (0*s)=Pure.pure #[]:=fun b=>by rw[Nat.zero_mul];rfl
 cases h<;>first|exact SR.stuck|exact SR.pure ⟨rfl,rfl⟩|(simp only[Builtin.firstCells,hl];exact SR.pure ⟨rfl,rfl⟩)|exact SR.pure ⟨by simp,by simp⟩
theorem eM (h:AR S p z z') (n:Nat):AR S p (Builtin.zeroCells z n) (Builtin.zeroCells z' n):=by
 unfold Builtin.zeroCells;rw[<-h.1];have:=fB h (n*z.size);rw[<-h.1]at this;exact this
theorem iT (a:Addr) (n:Nat) (w:World) (es:Array Event):∃b,(Builtin.holdsCells a n).runT P w es=(.ok b w,es):=by
 unfold Builtin.holdsCells;show∃b,(Sem.shape a.block fun s=>_).runT P w es=_;simp only[Sem.runT];cases w.shape? a.block with
 |none=>exact⟨_,rfl⟩
 |some x=>exact⟨_,rfl⟩
theorem iG (P:Program) (f:α->Sem β) {a:α} {es1:Array Event}:∀(s:Sem α) (w:World) (es:Array Event),s.runT P w es=(.ok a w1,es1)->(s.bind f).runT P w es=(f a).runT P w1 es1:=by
 intro s;induction s with
 |pure x=>intro w es e;simp only[Sem.runT,Prod.mk.injEq,Result.ok.injEq]at e;obtain⟨⟨rfl,rfl⟩,rfl⟩:=e;rfl
 |load m a k ih=>
  intro w es e;simp only[Sem.bind,Sem.runT]at e⊢;cases hc:w.cell? a with
  |some v=>rw[hc]at e;exact ih v _ _ e
  |none=>
   rw[hc]at e;simp only at e⊢;cases hf:w.farLoad P a (m== .atomic)with
   |ok x=>rw[hf]at e;exact ih _ _ _ e
   |error x=>rw[hf]at e;cases e
 |store m a v k ih=>
  intro w es e;cases hv:cu v with
  |false=>obtain⟨x,hx,_⟩:=gR P m a v k w es hv;rw[hx]at e;cases e
  |true=>
   rw[cg P m a v k w es hv]at e;show(Sem.store m a v (k.bind f)).runT P w es=_;rw[cg P m a v _ w es hv];cases hc:w.cell? a with
   |some u=>
    rw[hc]at e;simp only at e⊢;by_cases hz:w.frozen? a=true
    .simp only[hz,if_true]at e;cases e
    .simp only[hz,Bool.false_eq_true,if_false]at e⊢;exact ih _ _ e
   |none=>
    rw[hc]at e;simp only at e⊢;cases hf:w.farStore P a v (m== .atomic)with
    |ok x=>rw[hf]at e;exact ih _ _ e
    |error x=>rw[hf]at e;cases e
 |new o k ih=>intro w es e;exact ih _ _ _ e
 |shape r k ih=>intro w es e;exact ih _ _ _ e
 |freeze a n k ih=>intro w es e;exact ih _ _ e
 |frozen a k ih=>intro w es e;exact ih _ _ _ e
 |getObj r k ih=>
  intro w es e;simp only[Sem.bind,Sem.runT]at e⊢;cases ho:w.heap[r]? with
  |none=>rw[ho]at e;cases e
  |some o=>rw[ho]at e;cases o<;>first|exact ih _ _ _ e|(cases e;done)
 |setObj r o k ih=>
  intro w es e;simp only[Sem.bind,Sem.runT]at e⊢;cases ho:w.heap[r]? with
  |none=>rw[ho]at e;cases e
  |some o'=>rw[ho]at e;cases o'<;>first|exact ih _ _ e|(cases e;done)
 |choose q k ih=>
  intro w es e;simp only[Sem.bind,Sem.runT]at e⊢;split at e
  .rename_i hq;simp only[hq,if_true];exact ih _ _ _ e
  .rename_i hq;simp only[hq,if_false,Bool.false_eq_true];exact ih _ _ _ e
 |sys c k ih=>intro w es e;exact ih _ _ _ e
 |program k ih=>intro w es e;exact ih _ _ _ e
 |mark m k ih=>intro w es e;exact ih _ _ e
 |halt x=>intro w es e;cases e
theorem pC (s l n:Nat) (b:Option Addr) (x:Value) (w:World) (es:Array Event):∃c,(Builtin.mayShare s l n b x).runT P w es=(.ok c w,es):=by
 have tail:∀t:Bool,∃c,(if(!t)=true then(Pure.pure true:Sem Bool)else match x with
  |.slice (some b') _ _=>Builtin.holdsCells b' (n*s)>>=fun h=>Pure.pure (!h||b.any (·.block==b'.block))
  |_=>Pure.pure false).runT P w es=(.ok c w,es):=by
  intro t;split
  .exact⟨_,rfl⟩
  .split
   .rename_i b' _ _;obtain⟨h,hh⟩:=iT (P:=P) b' (n*s) w es;exact⟨_,(iG P _ _ w es hh)⟩
   .exact⟨_,rfl⟩
 unfold Builtin.mayShare;cases b with
 |none=>exact tail true
 |some a=>
  obtain⟨h,hh⟩:=iT (P:=P) a (l*s) w es;obtain⟨c,hc⟩:=tail (h&&!w.frozen? (a.add (l/2*s)));refine⟨c,?_⟩;show((Builtin.holdsCells a (l*s)).bind _).runT P w es=_;rw[iG P _ _ w es hh];exact hc
theorem tF (s l n:Nat) (b:Option Addr) (x:Value) (u:Unsupported) (hu:∀g,u≠ .initOrder g) (k:PUnit->Sem β):
 ae P (Builtin.mayShare s l n b x>>=fun c=>if(!c)=true then Go.mark .noRoom>>=fun _=>Go.unsupported u>>=k else Go.unsupported u>>=k):=by
 intro w es;obtain⟨c,hc⟩:=pC (P:=P) s l n b x w es;have hd:dead (.unsupported u):=by cases u<;>first|trivial|exact absurd rfl (hu _)
 show∃h w1 es1,((Builtin.mayShare s l n b x).bind _).runT P w es=_/\_;rw[iG P _ _ w es hc];cases c with
 |true=>exact⟨_,w,es,rfl,hd⟩
 |false=>exact⟨_,w,es.push ⟨.mark .noRoom,false,true⟩,rfl,hd⟩
def j0 (P:Program) (ts:Array TypeId):Bool:=match ts[1]? with|some t=>(match P.underlying t with|some (.int _)=>false|_=>true)|none=>true
def bR (e:TypeId) (b:Option Addr) (sl sc n size:Nat) (x:Value):Sem Value:=
 Go.choose (.appendCap (sl+n) sc e)>>=fun vR=>Go.typeInfo e>>=fun i=>Go.askRoom (vR*i.bytes)>>=fun _=>
  Builtin.firstCells size sl (.slice b sl sc)>>=fun old=>Builtin.firstCells size n x>>=fun new=>Go.zeroValue e>>=fun z=>
   Go.newRow e (old++new++Builtin.zeroCells z.cells (vR-(sl+n)))>>=fun a=>Pure.pure (.slice (some a) (sl+n) vR)
def fC (e:TypeId) (b:Option Addr) (sl sc n size:Nat) (x:Value):Sem Value:=
 Go.typeInfo e>>=fun i=>if Builtin.nextslicecap (sl+n) sc*i.bytes>2^48 then
  ((Builtin.mayShare size sl n b x>>=fun c=>if(!c)=true then Go.mark .noRoom>>=fun _=>Go.unsupported (.resourceLimit "append: a slice or a string whose bytes no memory bears")else Go.unsupported (.resourceLimit "append: a slice or a string whose bytes no memory bears"))>>=fun(_:PUnit)=>bR e b sl sc n size x)
  else bR e b sl sc n size x
def bu (e:TypeId) (b:Option Addr) (sl sc size:Nat) (x:Value):Sem Value:=
 Builtin.lenOf x>>=fun n=>if sl+n<=sc then
  Builtin.firstCells size n x>>=fun new=>match b with
   |some a=>Go.storeCells (a.add (sl*size)) new.toList>>=fun _=>Pure.pure (.slice b (sl+n) sc)
   |none=>Pure.pure (.slice b (sl+n) sc)
  else Go.typeInfo e>>=fun i=>if((sl+n:Nat):Int)>IntKind.i64.max/\(false=true\/i.bytes=0)then(Go.runtimePanic (.error "growslice: len out of range")>>=fun(_:PUnit)=>fC e b sl sc n size x)else fC e b sl sc n size x
def BR (p:Pi) (b b':Option Addr) (sl sc:Nat):Prop:=(b=none/\b'=none)\/(∃a a',b=some a/\b'=some a'/\cx p a a')\/∃a a',b=some a/\b'=some a'/\sl=0/\sc=0
theorem BR.mono {q:Pi} (h:Le p q) {b:Option Addr} {sl sc:Nat} (x:BR p b b' sl sc):BR q b b' sl sc:=x.imp id fun y=>y.imp (fun⟨a,a',h1,h2,h3⟩=>⟨a,a',h1,h2,h3.mono h⟩) id
theorem BR.sl {b:Option Addr} (x:BR p b b' l c):VR S p (.slice b l c) (.slice b' l c):=by
 rcases x with⟨rfl,rfl⟩|⟨a,a',rfl,rfl,h⟩|⟨a,a',rfl,rfl,rfl,rfl⟩
 .exact .bA l c
 .exact h.sl l c
 .exact .bF a a'
theorem SR.bR (hz:au P) (e:TypeId) {b:Option Addr} (sl sc n size:Nat) (hb:BR p b b' sl sc) (hx:VR S p x x') (xQ:∀b c,x=.slice b 0 c->n=0):SR P F S K N (QV S) (bR e b sl sc n size x) (bR e b' sl sc n size x') p:=by
 refine(SR.choose _).ab fun q1 c kM=>SR.fw fun i hi=>(SR.askRoom _).ab fun q2 _ bd=>?_;have hb:=(hb.mono kM).mono bd;have hx:=(hx.mono kM).mono bd;refine(SR.firstCells size sl hb.sl (fun b c h=>by simp only[Value.slice.injEq]at h;exact h.2.1)).bind fun q3 o o' dK ho=>(SR.firstCells size n (hx.mono dK) xQ).bind fun q4 y y' pA hy=>(SR.zeroValue hz e).bind fun q5 z z' DO km=>?_;obtain⟨rfl,hv⟩:=km;exact(SR.newRow e ((((ho.mono pA).mono DO).append (hy.mono DO)).append (eM hv.cells _))).bind fun q6 a a' Zv ha=>SR.pure (ha.1.sl _ _)
theorem SR.fC (hz:au P) (e:TypeId) {b:Option Addr} (sl sc n size:Nat) (hb:BR p b b' sl sc) (hx:VR S p x x') (xQ:∀b c,x=.slice b 0 c->n=0):SR P F S K N (QV S) (fC e b sl sc n size x) (fC e b' sl sc n size x') p:=by
 refine SR.fw fun i hi=>SR.ite (fun _=>?_) fun _=>SR.bR hz e sl sc n size hb hx xQ;have hu:∀g,Unsupported.resourceLimit "append: a slice or a string whose bytes no memory bears" ≠ .initOrder g:=fun g h=>by cases h
 have hd:=ae.bind (tF (P:=P) size sl n b x _ hu (fun(u:PUnit)=>Pure.pure u)) (fun(_:PUnit)=>aB.bR e b sl sc n size x);rcases hb with⟨rfl,rfl⟩|⟨a,a',rfl,rfl,iE⟩|⟨a,a',rfl,rfl,_⟩
 .cases hx with
  |slice o sp l c g=>exact SR.gS hd rfl
  |_=>exact SR.gS hd rfl
 .exact SR.gS hd rfl
 .exact SR.gS hd rfl
theorem SR.bu (hz:au P) (e:TypeId) {b:Option Addr} (sl sc size:Nat) (hb:BR p b b' sl sc) (hx:VR S p x x'):SR P F S K N (QV S) (bu e b sl sc size x) (bu e b' sl sc size x') p:=by
 refine(SR.lenOf hx).bind fun q1 n n' kM hn=>?_;obtain⟨rfl,hn⟩:=hn;have xQ:∀b c,x=.slice b 0 c->n=0:=fun b c e=>hn b 0 c e;have hb:=hb.mono kM;have hx:=hx.mono kM;refine SR.ite (fun hle=>?_) fun _=>SR.fw fun i hi=>SR.ite (fun _=>?_) fun _=>SR.fC hz e sl sc n size hb hx xQ
 .rcases hb with⟨rfl,rfl⟩|⟨a,a',rfl,rfl,iE⟩|⟨a,a',rfl,rfl,rfl,rfl⟩
  .exact(SR.firstCells size n hx xQ).bind fun q2 y y' bd hy=>SR.pure (.bA _ _)
  .exact(SR.firstCells size n hx xQ).bind fun q2 y y' bd hy=>(SR.ca ((iE.mono bd).add _) hy).ab fun q3 _ dK=>SR.pure (((iE.mono bd).mono dK).sl _ _)
  .obtain rfl:n=0:=by omega
   refine(SR.mF size hx).bind fun q2 y y' bd hy=>?_;obtain⟨rfl,rfl⟩:=hy;exact SR.pure (.bF a a')
 .exact SR.bind (Q:=QE PUnit) (SR.err _) fun q2 _ _ bd _=>SR.fC hz e sl sc n size (hb.mono bd) (hx.mono bd) xQ
theorem SR.append (hz:au P) (ts:Array TypeId) (ht:j0 P ts=true) (t:TypeId) (h:AR S p xs aQ):SR P F S K N (QV S) (Builtin.append_ ts t xs) (Builtin.append_ ts t aQ) p:=by
 unfold Builtin.append_;cases h0:ts[0]? with
 |none=>cases xs[0]? <;>cases xs[1]? <;>exact SR.stuck
 |some sT=>
 cases h1:xs[0]? with
 |none=>cases xs[1]? <;>exact SR.stuck
 |some s=>
 cases h2:xs[1]? with
 |none=>exact SR.stuck
 |some x=>
 obtain⟨s',lV,hs⟩:=h.get h1;obtain⟨x',mG,hx⟩:=h.get h2;rw[lV,mG];simp only;refine SR.aM fun u hu=>?_;cases u with
 |slice e=>
  cases s with
  |slice b sl sc=>
   cases s' with
   |slice b' eE pm=>
    obtain⟨rfl,rfl,hb⟩:=fK hs;have hb:BR p b b' sl sc:=hb;simp only;refine(SR.sizeOf e).ab fun q size hq=>?_;have key:=SR.bu (P:=P) (F:=F) (S:=S) (K:=K) (N:=N) hz e sl sc size (hb.mono hq) (hx.mono hq);rcases hb with⟨rfl,rfl⟩|⟨a,a',rfl,rfl,iE⟩|⟨a,a',rfl,rfl,_⟩
    all_goals cases h3:ts[1]? with
    |none=>
     simp only[pure_bind,Bool.false_eq_true,if_false,Bool.not_false,if_true,false_or];unfold aB.bu aB.fC aB.bR at key;simp only[Bool.false_eq_true,false_or]at key;exact key
    |some xT=>
     refine SR.aM fun u hu=>?_;simp only[j0,h3,hu]at ht;unfold aB.bu aB.fC aB.bR at key;simp only[Bool.false_eq_true,false_or]at key;cases u<;>first|(cases ht;done)|skip
     all_goals simp only[pure_bind,Bool.false_eq_true,if_false,Bool.not_false,if_true,false_or]
     all_goals exact key
   |_=>cases hs
  |_=>cases hs<;>exact SR.stuck
 |_=>exact SR.stuck
end
section
variable {P:Program} {F:Array Func} {S:Nat->Bool} {K:Code->Prop} {N:Nat} {p:Pi}
theorem SR.copy (ts:Array TypeId) (t:TypeId) (h:AR S p xs aQ):SR P F S K N (QV S) (Builtin.copy_ ts t xs) (Builtin.copy_ ts t aQ) p:=by
 unfold Builtin.copy_;cases h0:ts[0]? with
 |none=>cases xs[0]? <;>cases xs[1]? <;>exact SR.stuck
 |some dT=>
 cases h1:xs[0]? with
 |none=>cases xs[1]? <;>exact SR.stuck
 |some s=>
 cases h2:xs[1]? with
 |none=>exact SR.stuck
 |some x=>
 obtain⟨s',lV,hs⟩:=h.get h1;obtain⟨x',mG,hx⟩:=h.get h2;rw[lV,mG];simp only;refine SR.aM fun u hu=>?_;cases u with
 |slice e=>
  cases s with
  |slice b sl sc=>
   cases s' with
   |slice b' eE pm=>
    obtain⟨rfl,rfl,hb⟩:=fK hs;simp only;refine(SR.lenOf hx).bind fun q n n' hq hn=>(SR.sizeOf e).ab fun q2 size bd=>?_;obtain⟨rfl,hn⟩:=hn;have Ly:∀b c,x=.slice b 0 c->min n sl=0:=fun b c e=>by rw[hn b 0 c e];exact Nat.zero_min _
    rcases hb with⟨rfl,rfl⟩|⟨a,a',rfl,rfl,iE⟩|⟨a,a',rfl,rfl,rfl,rfl⟩
    .exact(SR.firstCells size _ ((hx.mono hq).mono bd) Ly).bind fun q3 y y' dK hy=>SR.pure (.int _ _)
    .exact(SR.firstCells size _ ((hx.mono hq).mono bd) Ly).bind fun q3 y y' dK hy=>(SR.ca (((iE.mono hq).mono bd).mono dK) hy).ab fun q4 _ pA=>SR.pure (.int _ _)
    .have e0:Nat.min n 0=0:=Nat.min_zero n;rw[e0];refine(SR.mF size ((hx.mono hq).mono bd)).bind fun q3 y y' dK hy=>?_;obtain⟨rfl,rfl⟩:=hy;exact SR.pure (.int _ _)
   |_=>cases hs
  |_=>cases hs<;>exact SR.stuck
 |_=>exact SR.stuck
def nS (P:Program) (ts:Array TypeId):Bool:=match ts[0]? with|some t=>(match P.underlying t with|some (.chan ..)=>false|_=>true)|none=>true
theorem SR.len (ts:Array TypeId) (ht:nS P ts=true) (t:TypeId) (h:AR S p xs aQ):SR P F S K N (QV S) (Builtin.len_ ts t xs) (Builtin.len_ ts t aQ) p:=by
 unfold Builtin.len_;cases h0:ts[0]? with
 |none=>cases xs[0]? <;>exact SR.stuck
 |some dT=>
 cases h1:xs[0]? with
 |none=>exact SR.stuck
 |some s=>
 obtain⟨s',lV,hs⟩:=h.get h1;rw[lV];simp only;refine SR.aM fun u hu=>?_;simp only[nS,h0,hu]at ht;cases u with
 |chan=>cases ht
 |array n e=>cases hs<;>exact SR.pure (.int _ _)
 |pointer arr=>
  cases hs<;>
  .refine SR.aM fun u hu=>?_;cases u<;>first|exact SR.pure (.int _ _)|exact SR.stuck
 |map k e=>
  cases hs<;>first|exact SR.stuck|exact SR.pure (.int _ _)|skip
  rename_i r r' g;refine(SR.getObj g).bind fun q o o' hq ho=>?_;cases ho with
  |map c h g=>simp only;rw[h];exact SR.pure (.int _ _)
  |_=>exact SR.stuck
 |string=>cases hs<;>first|exact SR.pure (.int _ _)|exact SR.stuck
 |slice e=>cases hs<;>first|exact SR.pure (.int _ _)|exact SR.stuck
 |_=>cases hs<;>exact SR.stuck
theorem SR.clear (hz:au P) (ts:Array TypeId) (t:TypeId) (h:AR S p xs aQ):SR P F S K N (QV S) (Builtin.clear_ ts t xs) (Builtin.clear_ ts t aQ) p:=by
 unfold Builtin.clear_;cases h0:ts[0]? with
 |none=>cases xs[0]? <;>exact SR.stuck
 |some dT=>
 cases h1:xs[0]? with
 |none=>exact SR.stuck
 |some s=>
 obtain⟨s',lV,hs⟩:=h.get h1;rw[lV];simp only;refine SR.aM fun u hu=>?_;have hv:∀q,VR S q (.tuple #[]) (.tuple #[]):=fun q=>VR.plain 2 _ (by simp[plain])
 have Is:∀r r',p r r'->SR P F S K N (QV S)
  (Go.getObj r>>=fun o=>match o with|.map _ c=>Go.setObj r (.map #[] c)>>=fun _=>Pure.pure (.tuple #[])|_=>Go.stuck "clear: map expected" >>=fun(_:PUnit)=>Pure.pure (.tuple #[]))
  (Go.getObj r'>>=fun o=>match o with|.map _ c=>Go.setObj r' (.map #[] c)>>=fun _=>Pure.pure (.tuple #[])|_=>Go.stuck "clear: map expected" >>=fun(_:PUnit)=>Pure.pure (.tuple #[])) p:=by
  intro r r' g;refine(SR.getObj g).bind fun q o o' hq ho=>?_;cases ho with
  |map c h g2=>exact(SR.setObj (hq _ _ g) (.map c rfl fun i e e' h=>by simp at h)).ab fun q2 _ bd=>SR.pure (hv q2)
  |_=>exact SR.stuck
 have ni:∀(e:TypeId) (a a':Addr) (n:Nat),cx p a a'->SR P F S K N (QV S)
  (Go.zeroValue e>>=fun z=>Go.storeCells a (Builtin.zeroCells z.cells n).toList>>=fun _=>Pure.pure (.tuple #[]))
  (Go.zeroValue e>>=fun z=>Go.storeCells a' (Builtin.zeroCells z.cells n).toList>>=fun _=>Pure.pure (.tuple #[])) p:=by
  intro e a a' n ha;refine(SR.zeroValue hz e).bind fun q z z' hq km=>?_;obtain⟨rfl,D7⟩:=km;exact(SR.ca (ha.mono hq) (eM D7.cells n)).ab fun q2 _ bd=>SR.pure (hv q2)
 cases hs with
 |ja=>cases u<;>exact SR.pure (hv p)
 |bA l c=>cases u<;>exact SR.pure (hv p)
 |bF a a'=>cases u<;>exact SR.pure (hv p)
 |map g=>cases u<;>exact Is _ _ g
 |slice o sp l c g=>
  cases l with
  |zero=>cases u<;>exact SR.pure (hv p)
  |succ l=>cases u<;>first|exact SR.stuck|exact ni _ ⟨_,o,sp⟩ ⟨_,o,sp⟩ _ ⟨g,rfl,rfl⟩
 |_=>cases u<;>exact SR.stuck
theorem SR.max2 (hx:VR S p x x') (hy:VR S p y y'):SR P F S K N (QV S) (Builtin.max2 x y) (Builtin.max2 x' y') p:=by
 cases hx<;>cases hy<;>first|exact SR.stuck|exact SR.unsupported|exact SR.pure (.int _ _)|skip
 rename_i s1 s2;refine SR.bind (Q:=QV S) (SR.stringOp .geq s1 s2) fun q v v' hq hv=>?_;exact(SR.asBool hv).ab fun q2 b bd=>SR.pure (.string _)
theorem SR.min2 (hx:VR S p x x') (hy:VR S p y y'):SR P F S K N (QV S) (Builtin.min2 x y) (Builtin.min2 x' y') p:=by
 cases hx<;>cases hy<;>first|exact SR.stuck|exact SR.unsupported|exact SR.pure (.int _ _)|skip
 rename_i s1 s2;refine SR.bind (Q:=QV S) (SR.stringOp .leq s1 s2) fun q v v' hq hv=>?_;exact(SR.asBool hv).ab fun q2 b bd=>SR.pure (.string _)
theorem SR.nU (f:Value->Value->Sem Value) (hf:∀{p:Pi} {x x' y y':Value},VR S p x x'->VR S p y y'->SR P F S K N (QV S) (f x y) (f x' y') p):∀(l l':List Value) {p:Pi} {x x':Value},l.length=l'.length->(∀(i:Nat) v v',l[i]?=some v->l'[i]?=some v'->VR S p v v')->VR S p x x'->
 SR P F S K N (QV S) (l.foldlM f x) (l'.foldlM f x') p
 | [],[],_,_,_,_,_,hx=>SR.pure hx
 | [],_::_,_,_,_,h,_,_=>by cases h
 |_::_,[],_,_,_,h,_,_=>by cases h
 |v::l,v'::l',p,x,x',h,g,hx=>by
  simp only[List.foldlM_cons];exact(hf hx (g 0 v v' rfl rfl)).bind fun q y y' hq hy=>SR.nU f hf l l' (by simpa using h) (fun i a b h1 h2=>(g (i+1) a b h1 h2).mono hq) hy
theorem SR.max (ts:Array TypeId) (t:TypeId) (h:AR S p xs aQ):SR P F S K N (QV S) (Builtin.max_ ts t xs) (Builtin.max_ ts t aQ) p:=by
 unfold Builtin.max_;have hl:xs.toList.length=aQ.toList.length:=by simpa using h.1
 have hg:∀(i:Nat) v v',xs.toList[i]?=some v->aQ.toList[i]?=some v'->VR S p v v':=fun i v v' a b=>h.2 i v v' (by simpa using a) (by simpa using b);revert hl hg;generalize xs.toList=l;generalize aQ.toList=l';intro hl hg;cases l<;>cases l'<;>first|(cases hl;done)|exact SR.stuck|skip
 exact SR.nU _ SR.max2 _ _ (by simpa using hl) (fun i a b h1 h2=>hg (i+1) a b h1 h2) (hg 0 _ _ rfl rfl)
theorem SR.min (ts:Array TypeId) (t:TypeId) (h:AR S p xs aQ):SR P F S K N (QV S) (Builtin.min_ ts t xs) (Builtin.min_ ts t aQ) p:=by
 unfold Builtin.min_;have hl:xs.toList.length=aQ.toList.length:=by simpa using h.1
 have hg:∀(i:Nat) v v',xs.toList[i]?=some v->aQ.toList[i]?=some v'->VR S p v v':=fun i v v' a b=>h.2 i v v' (by simpa using a) (by simpa using b);revert hl hg;generalize xs.toList=l;generalize aQ.toList=l';intro hl hg;cases l<;>cases l'<;>first|(cases hl;done)|exact SR.stuck|skip
 exact SR.nU _ SR.min2 _ _ (by simpa using hl) (fun i a b h1 h2=>hg (i+1) a b h1 h2) (hg 0 _ _ rfl rfl)
def gT (P:Program) (s d:TypeId):Bool:=match P.underlying s,P.underlying d with
 |some (.int _),some (.int _)=>true
 |some .string,some (.slice e)=>(match P.underlying e with|some (.int .u8)=>true|_=>false)
 |some .string,some .string=>true
 |some (.slice e),some .string=>(match P.underlying e with|some (.int .u8)=>true|_=>false)
 |_,_=>false
def jk (c:Value) (s:ByteArray):Sem (ForInStep ByteArray):=match c with
 |.int .u8 n=>Pure.pure (.yield (s.push (UInt8.ofNat n.toNat)))
 |_=>Go.stuck "bytesToString: byte expected"
theorem SR.A8:∀{l l':List Value} {p:Pi} (s:ByteArray),l.length=l'.length->(∀(i:Nat) v v',l[i]?=some v->l'[i]?=some v'->VR S p v v')->SR P F S K N (QE ByteArray) (forIn l s jk) (forIn l' s jk) p
 | [],[],_,s,_,_=>SR.pure rfl
 | [],_::_,_,_,h,_=>by cases h
 |_::_,[],_,_,h,_=>by cases h
 |c::l,c'::l',p,s,h,g=>by
  simp only[List.forIn_cons];have hc:=g 0 c c' rfl rfl;have rest:∀q s,Le p q->SR P F S K N (QE ByteArray) (forIn l s jk) (forIn l' s jk) q:=fun q s hq=>SR.A8 s (by simpa using h) fun i v v' a b=>(g (i+1) v v' a b).mono hq;cases hc<;>first|exact SR.stuck|skip
  rename_i k n;cases k<;>first|exact SR.stuck|exact rest p _ (Le.refl _)
theorem SR.bytesToString (hx:VR S p x x'):SR P F S K N (QV S) (Conv.bytesToString x) (Conv.bytesToString x') p:=by
 have e:∀(a:Addr) (n c:Nat),Conv.bytesToString (.slice (some a) n c)=(Go.loadCells a n>>=fun cs=>forIn cs.toList ByteArray.empty jk>>=fun s=>Pure.pure (Value.string s)):=by
  intro a n c;unfold Conv.bytesToString jk;simp only[Array.forIn_toList];rfl
 have key:∀{q:Pi} {cs fA:Array Value},AR S q cs fA->SR P F S K N (QV S) (forIn cs.toList ByteArray.empty jk>>=fun s=>Pure.pure (Value.string s)) (forIn fA.toList ByteArray.empty jk>>=fun s=>Pure.pure (Value.string s)) q:=fun{q cs fA} h=>
  (SR.A8 _ (by simpa using h.1) fun i v v' a b=>h.2 i v v' (by simpa using a) (by simpa using b)).ab fun q2 s hq=>SR.pure (.string s)
 cases hx<;>first|exact SR.stuck|exact SR.pure (.string _)|skip
 .rename_i r r' o sp l c h;rw[e,e];exact(SR.loadCells (a:=⟨r,o,sp⟩) (a':=⟨r',o,sp⟩) ⟨h,rfl,rfl⟩ l).bind fun q cs fA hq pn=>key pn
theorem SR.stringToBytes (e:TypeId) (s:ByteArray):SR P F S K N (QV S) (Conv.stringToBytes e s) (Conv.stringToBytes e s) p:=by
 unfold Conv.stringToBytes;refine(SR.choose _).ab fun q c hq=>?_;refine(SR.newRow e ((AR.map _ _ _ fun x _=>.int _ _).append (AR.replicate _ (.int _ _)))).bind fun q2 a a' bd ha=>?_;refine SR.bind (Q:=QE Unit) ?_ fun q3 _ _ dK _=>SR.pure ((ha.1.mono dK).sl _ _);unfold Go.markStringish;refine(SR.shape ha.1.1).ab fun q3 x dK=>?_;cases x with
 |none=>exact SR.pure rfl
 |some x=>
  obtain⟨e,n⟩:=x;exact fun hp=>⟨⟨dK _ _ ha.1.1,rfl,rfl⟩,rfl,ha.2,rfl⟩
theorem SR.convert (s d:TypeId) (ho:gT P s d=true) (hx:VR S p x x'):SR P F S K N (QV S) (Go.convert s d x) (Go.convert s d x') p:=by
 unfold Go.convert;refine SR.aM fun u hu=>SR.aM fun v hv=>?_;simp only[gT,hu,hv]at ho;cases u<;>first|(cases ho;done)|skip
 .cases v<;>first|(cases ho;done)|skip
  cases hx<;>first|exact SR.stuck|exact SR.pure (.int _ _)|exact SR.unsupported
 .cases v<;>first|(cases ho;done)|skip
  .cases hx<;>first|exact SR.stuck|exact SR.unsupported|exact SR.pure (.string _)
  .rename_i e;cases hx<;>first|exact SR.stuck|exact SR.unsupported|skip
   refine SR.aM fun w hw=>?_;simp only[hw]at ho;cases w<;>first|(cases ho;done)|skip
   rename_i k;cases k<;>first|(cases ho;done)|exact SR.stringToBytes _ _
 .cases v<;>first|(cases ho;done)|skip
  rename_i e
  have rest:∀{y y':Value},VR S p y y'->SR P F S K N (QV S) (Go.underlying e>>=fun w=>match w with|.int .u8=>Conv.bytesToString y|.int .i32=>Conv.runesToString y|_=>Go.stuck "Convert: a slice of what to string?")
   (Go.underlying e>>=fun w=>match w with|.int .u8=>Conv.bytesToString y'|.int .i32=>Conv.runesToString y'|_=>Go.stuck "Convert: a slice of what to string?") p:=fun{y y'} hy=>by
   refine SR.aM fun w hw=>?_;simp only[hw]at ho;cases w<;>first|(cases ho;done)|skip
   rename_i k;cases k<;>first|(cases ho;done)|exact SR.bytesToString hy
  have mE:=hx;cases hx<;>first|exact rest mE|exact SR.pure (.string _)|skip
  .rename_i hj hv;cases x'<;>first|(cases hv;done)|exact rest mE
inductive NX (S:Nat->Bool) (K:Code->Prop) (p:Pi):Next->Next->Prop
 |value {v v':Value} (h:VR S p v v'):NX S K p (.value v) (.value v')
 |skip:NX S K p .skip .skip
 |enter {f:Nat} {xs aQ:Array Value} (hf:S f=true) (h:AR S p xs aQ):NX S K p (.enter f xs) (.enter f aQ)
 |round {l l' f:Nat} {xs aQ:Array Value} {a b:Code} (hl:p l l') (hf:S f=true) (h:AR S p xs aQ) (ha:K a) (hb:K b) (hz:K (.label (100000+f))):NX S K p (.round l f xs a b) (.round l' f aQ a b)
abbrev QX (S:Nat->Bool) (K:Code->Prop):Pi->Next->Next->Prop:=fun q a b=>NX S K q a b
def gU (P:Program) (F:Array Func) (S:Nat->Bool):Prop:=(S JK=true->P.info? 1000000=none)/\∀f,S f=true->(P.funcs[f]?=none/\F[f]?=none)\/
 ∃fn gq,P.funcs[f]? =some fn/\F[f]? =some gq/\fn.body.isSome=true/\gq.body.isSome=true/\fn.name≠ "runtime.NumGoroutine" /\gq.name≠ "runtime.NumGoroutine"
theorem qa (h:P.info? 1000000=none):ae P (Go.typeInfo 1000000):=by
 unfold Go.typeInfo;refine ae.Gw (k:=fun P=>match P.info? 1000000 with|some i=>Pure.pure i|none=>Go.stuck "no such type") ?_;rw[h];exact ae.stuck _
theorem pD (n:String) (h:ys[0]?=some v):invoke (.fn (.method n) #[]) ys=callMethod v n (ys.extract 1 ys.size):=by
 show(match ys[0]? with|some recv=>callMethod recv n (ys.extract 1)|_=>Go.stuck "call: a method without a receiver")=_;rw[h]
theorem qb (xs:Array Value):(Deferred.ofValue MF xs>>=fun d=>invoke d.target d.args)=callMethod (.iface 1000000 .nilIface) "" ((#[Value.iface 1000000 .nilIface]++xs).extract 1 (#[Value.iface 1000000 .nilIface]++xs).size):=by
 show invoke (.fn (.method "") #[]) (#[.iface 1000000 .nilIface]++xs)=_;exact pD (v:=.iface 1000000 .nilIface) "" (by simp[Array.getElem?_append])
theorem D9 (h:P.info? 1000000=none) (xs:Array Value):ae P (Deferred.ofValue MF xs>>=fun d=>invoke d.target d.args):=by
 rw[qb];unfold callMethod;refine ae.Gw (k:=fun P=>Sem.bind (method (P.types.size+Made.depth) 1000000 .nilIface "") _) ?_;refine ae.bind ?_ _;show ae P (method ((P.types.size+99)+1) 1000000 .nilIface "");unfold method;exact ae.bind (qa h) _
theorem It (h:P.info? 1000000=none) (f:Option Bool->Sem α):ae P (Go.program>>=fun q=>nilAhead (q.types.size+Made.depth) 1000000 .nilIface "" >>=f):=by
 refine ae.Gw (k:=fun P=>Sem.bind (nilAhead (P.types.size+Made.depth) 1000000 .nilIface "") _) ?_;refine ae.bind ?_ _;show ae P (nilAhead ((P.types.size+99)+1) 1000000 .nilIface "");unfold nilAhead;exact ae.bind (qa h) _
theorem SR.callFunc (hb:gU P F S) {f:Nat} (hf:S f=true) (h:AR S p xs aQ):SR P F S K N (QX S K) (Go.callFunc f xs) (Go.callFunc f aQ) p:=by
 unfold Go.callFunc;refine SR.d9 ?_
 have key:∀fn:Func,fn.body.isSome=true->fn.name≠ "runtime.NumGoroutine" ->fn.body.isNone=false/\(fn.name== "runtime.NumGoroutine")=false:=fun fn h2 h3=>
  ⟨by cases hx:fn.body<;>simp[hx]at h2⊢,by simpa using h3⟩
 rcases hb.2 f hf with⟨h1,h2⟩|⟨fn,gq,h1,h2,h3,h4,h5,h6⟩
 .rw[h1];exact SR.stuck
 .have mG:(aa P F).funcs[f]?=some gq:=h2;rw[h1,mG];simp only[key fn h3 h5,key gq h4 h6,Bool.false_eq_true,if_false];exact SR.pure (.enter hf h)
theorem rF (ps:Array Nat) {as bs:Array Value} (h:AR S p xs ys) (k:AR S p as bs):AR S p ((ps.zip xs).foldl (fun ts (t,a)=>ts.setIfInBounds t a) as) ((ps.zip ys).foldl (fun ts (t,a)=>ts.setIfInBounds t a) bs):=by
 rw[<-Array.foldl_toList,<-Array.foldl_toList,Array.toList_zip,Array.toList_zip];have hx:∀(i:Nat) v v',xs.toList[i]?=some v->ys.toList[i]?=some v'->VR S p v v':=fun i v v' a b=>h.2 i v v' (by simpa using a) (by simpa using b);have hl:xs.toList.length=ys.toList.length:=by simpa using h.1
 revert hx hl;generalize xs.toList=l;generalize ys.toList=l';generalize ps.toList=m;intro hx hl;clear h;induction m generalizing l l' as bs with
 |nil=>exact k
 |cons t m ih=>
  cases l<;>cases l'<;>first|(cases hl;done)|skip
  .exact k
  .rename_i v l v' l';simp only[List.zip_cons_cons,List.foldl_cons];exact ih (k.set t (hx 0 v v' rfl rfl)) l l' (fun i a b h1 h2=>hx (i+1) a b h1 h2) (by simpa using hl)
theorem SR.yield {l':Nat} (hl:p l l') (h:AR S p xs aQ):SR P F S K N (QX S K) (Instr.yield l xs) (Instr.yield l' aQ) p:=by
 unfold Instr.yield Instr.getLoop;refine SR.bind (Q:=fun q (a b:Loop)=>OR S K q (.loop a) (.loop b)) ?_ fun q r r' hq hr=>?_
 .refine(SR.getObj hl).bind fun q o o' hq ho=>?_;have Lz:=ho;cases ho with
  |loop h1 h2 h3 h4 h5 h6 h7 h8 k1 k2 k3 k4 k5=>exact SR.pure Lz
  |_=>exact SR.stuck
 .cases hr with
  |loop h1 h2 h3 h4 h5 h6 h7 h8 k1 k2 k3 k4 k5=>
   have h:=h.mono hq;rw[<-h.1,<-h5,<-h3,<-h6,<-h7];dsimp only;refine SR.ite (fun _=>SR.stuck) fun _=>?_;exact SR.pure (.round (hq _ _ hl) k1 (rF r.params h h4) k2 k3 k5)
def cY (P:Program) (S:Nat->Bool):Operand->Bool
 |.tmp _=>true
 |.const v=>plain 50 v
 |.global g=>decide (g<P.globals.size)&&S (P.funcs.size+g)
 |.func f=>S f
def ic (P:Program) (S:Nat->Bool) (c:Call):Bool:=
 match c.callee with
 |.builtin .append=>j0 P c.argTypes
 |.builtin .len=>nS P c.argTypes
 |.builtin .copy|.builtin .clear|.builtin .max|.builtin .min=>true
 |.value f=>cY P S f
 |_=>false
def jl (P:Program) (S:Nat->Bool) (o:Op):Bool:=
 o.operands.all (cY P S)&&match o with
 |.nilCheck _|.move _|.assign _|.pick _ _ _|.alloc _|.box _ _|.build _ _|.buildSlice _ _ _|.load _ _|.store _ _ _|.unOp _ _ _|.makeSlice _ _ _|.slice _ _ _ _ _|.field _ _ _|.indexAddr _ _ _|.index _ _ _|.extract _ _=>true
 |.makeMap _ none=>true
 |.binOp op t _ _ _=>ee P op t
 |.convert s d _=>gT P s d
 |.makeFunc (.func f) _ _=>S f
 |.fieldAddr t _ f=>match P.underlying t with
  |some (.struct fs)=>(match fs[f]? with|some g=>(match P.info? g.type with|some i=>i.size !=0|none=>true)|none=>true)
  |_=>true
 |.lookup t _ _ _=>ib P t&&(!S JK||gu P t)
 |.mapUpdate t _ _ _=>ib P t&&(!S JK||gu P t)
 |.call c=>ic P S c
 |_=>false
def eh (S:Nat->Bool) (o:Op):Bool:=
 match o with
 |.call c=>(match c.callee with|.value (.func f)=>S (JK+1+f)|_=>false)&&c.args.isEmpty
 |_=>false
structure ie (P:Program) (S:Nat->Bool) (p:Pi) (r r':Operand->Value):Prop where
 tmp:∀t,VR S p (r (.tmp t)) (r' (.tmp t))
 const:∀v,r (.const v)=v/\r' (.const v)=v
 global:∀g,g<P.globals.size->S (P.funcs.size+g)=true->VR S p (r (.global g)) (r' (.global g))
 func:∀f,r (.func f)=.func (.func f) #[] #[]/\r' (.func f)=.func (.func f) #[] #[]
theorem ie.at {r r':Operand->Value} (h:ie P S p r r') {x:Operand} (hx:cY P S x=true):VR S p (r x) (r' x):=by
 cases x with
 |tmp t=>exact h.tmp t
 |const v=>rw[(h.const v).1,(h.const v).2];exact VR.plain 50 v hx
 |global g=>
  simp only[cY,Bool.and_eq_true,decide_eq_true_eq]at hx;exact h.global g hx.1 hx.2
 |func f=>
  rw[(h.func f).1,(h.func f).2];exact .func hx rfl rfl (fun i v v' e=>by simp at e) (fun i v v' e=>by simp at e)
theorem ie.many {r r':Operand->Value} (h:ie P S p r r') {xs:Array Operand} (hx:∀x∈xs,cY P S x=true):AR S p (xs.map r) (xs.map r'):=AR.map xs r r' fun x m=>h.at (hx x m)
theorem ie.opt {r r':Operand->Value} (h:ie P S p r r') {x:Option Operand} (hx:∀y,x=some y->cY P S y=true):OV S p (x.map r) (x.map r'):=by
 cases x with
 |none=>trivial
 |some y=>exact h.at (hx y rfl)
theorem SR.aJ {s s':Sem Value} (h:SR P F S K N (QV S) s s' p):SR P F S K N (QX S K) (s>>=fun v=>Pure.pure (.value v)) (s'>>=fun v=>Pure.pure (.value v)) p:=h.bind fun q v v' hq hv=>SR.pure (.value hv)
theorem SR.nV {s s':Sem Unit} (h:SR P F S K N (QE Unit) s s' p):SR P F S K N (QX S K) (s>>=fun _=>Pure.pure .skip) (s'>>=fun _=>Pure.pure .skip) p:=h.ab fun q v hq=>SR.pure .skip
theorem SR.eT (hb:gU P F S) {f f':Value} (hf:VR S p f f') (h:AR S p xs aQ):
 SR P F S K N (QX S K) (Deferred.ofValue f xs>>=fun d=>invoke d.target d.args) (Deferred.ofValue f' aQ>>=fun d=>invoke d.target d.args) p:=by
 cases hf<;>first|exact SR.stuck|skip
 .rename_i f fs LA cs fA hS h1 h2 g1 g2;have a1:AR S p fs LA:=⟨h1,g1⟩
  have a2:AR S p cs fA:=⟨h2,g2⟩
  exact SR.callFunc hb hS ((a1.append h).append a2)
 .rename_i l l' hl;show SR P F S K N (QX S K) (Instr.yield l (#[]++xs)) (Instr.yield l' (#[]++aQ)) p;rw[Array.empty_append,Array.empty_append];exact SR.yield hl h
 .exact SR.nilDeref
 .rename_i hj n as bs;exact SR.gS (D9 (hb.1 hj) xs) (by rw[qb];rfl)
end
section
variable {P:Program} {F:Array Func} {S:Nat->Bool} {K:Code->Prop} {N:Nat} {p:Pi}
theorem SR.execOp (hz:au P) (hc:ai P) (hb:gU P F S) {r r':Operand->Value} (h:ie P S p r r') (o:Oper) (ho:jl P S o.op=true):SR P F S K N (QX S K) (Go.execOp r o) (Go.execOp r' o) p:=by
 unfold Go.execOp;obtain⟨dst,op,ty,pos,af,gd⟩:=o;simp only at ho⊢;unfold jl at ho;simp only[Bool.and_eq_true]at ho;obtain⟨lW,bq⟩:=ho
 have aG:∀x∈op.operands,cY P S x=true:=by
  intro x hx;obtain⟨i,hi,he⟩:=Array.mem_iff_getElem.1 hx;have:=Array.all_eq_true.1 lW i hi;rw[he]at this;exact this
 cases op<;>try(simp only[Bool.false_eq_true]at bq)
 case move x=>exact SR.pure (.value (h.at (aG x (by simp[Op.operands]))))
 case assign x=>exact SR.pure (.value (h.at (aG x (by simp[Op.operands]))))
 case pick c a b=>
  refine(SR.asBool (h.at (aG c (by simp[Op.operands])))).ab fun q t hq=>?_;cases t with
  |true=>exact SR.pure (.value ((h.at (aG a (by simp[Op.operands]))).mono hq))
  |false=>exact SR.pure (.value ((h.at (aG b (by simp[Op.operands]))).mono hq))
 case alloc e=>exact SR.aJ (SR.alloc hz e)
 case box e x=>exact SR.aJ (SR.box e (h.at (aG x (by simp[Op.operands]))))
 case build t ps=>
  refine SR.aJ (SR.build hz t ?_);rw[Array.toList_map,Array.toList_map];refine PL.map _ r r' fun x hx=>h.at (aG x.2 ?_)
  simp only[Op.operands,List.mem_toArray,List.mem_map];exact⟨x,hx,rfl⟩
 case buildSlice t n ps=>
  refine SR.aJ (SR.buildSlice hz t n ?_);rw[Array.toList_map,Array.toList_map];refine PL.map _ r r' fun x hx=>h.at (aG x.2 ?_)
  simp only[Op.operands,List.mem_toArray,List.mem_map];exact⟨x,hx,rfl⟩
 case load t a=>exact SR.aJ (SR.loadAt t (h.at (aG a (by simp[Op.operands]))))
 case store t a x=>exact SR.nV (SR.storeAt t (h.at (aG a (by simp[Op.operands]))) (h.at (aG x (by simp[Op.operands]))))
 case nilCheck x=>
  have hx:=h.at (aG x (by simp[Op.operands]))
  dsimp only;revert hx;generalize r x=v;generalize r' x=v';intro hx;have mE:=hx;cases hx with
  |jg=>exact SR.nilDeref
  |nilIface=>exact SR.nilDeref
  |nilFunc=>exact SR.nilDeref
  |vK hj n xs ys=>exact SR.gS (It (hb.1 hj) _) rfl
  |lP hj hv=>
   cases v'<;>first|(cases hv;done)|exact SR.pure (Q:=QX S K) (NX.value mE)|skip
   .rename_i a;cases a<;>first|(cases hv;done)|exact SR.pure (Q:=QX S K) (NX.value mE)
   .rename_i f xs ys;cases f<;>first|(cases hv;done)|exact SR.pure (Q:=QX S K) (NX.value mE)
  |_=>exact SR.pure (Q:=QX S K) (NX.value mE)
 case binOp op t x y t2=>
  have hx:=h.at (aG x (by simp[Op.operands]))
  have hy:=h.at (aG y (by simp[Op.operands]))
  by_cases hj:(op=.eql\/op=.neq)/\(r x=.tuple #[]\/r y=.tuple #[])
  ·
   have hd:ae P (Go.eqGuard op t x y (r x) (r y)>>=fun _=>Go.binOp op t (r x) (r y))/\rh (Go.eqGuard op t x y (r x) (r y)>>=fun _=>Go.binOp op t (r x) (r y))=true:=by
    have TB:bl (r x) (r y)=false:=by rcases hj.2 with e|e<;>rw[e]<;>cases r x<;>cases r y<;>rfl
    have hg:Go.eqGuard op t x y (r x) (r y)=Pure.pure ():=by
     rcases hj.1 with rfl|rfl
     .rw[cy];rcases hj.2 with e|e<;>rw[e]<;>cases r x<;>cases r y<;>rfl
     .rw[cz];rcases hj.2 with e|e<;>rw[e]<;>cases r x<;>cases r y<;>rfl
    rw[hg];show ae P (Go.binOp op t (r x) (r y))/\rh (Go.binOp op t (r x) (r y))=true;rcases hj.1 with rfl|rfl
    .simp only[ee,Bool.and_eq_true]at bq;rw[aB.jI t TB hj.2];exact⟨ae.bind (iF bq.1 hj.2) _,fN _⟩
    .simp only[ee,Bool.and_eq_true]at bq;rw[aB.jJ t TB hj.2];exact⟨ae.bind (iF bq.1 hj.2) _,fN _⟩
   exact SR.aJ (SR.gS hd.1 hd.2)
  .refine SR.aJ ((SR.eqGuard op t bq x y hx hy hj).ab fun q _ hq=>SR.binOp hc op t bq (hx.mono hq) (hy.mono hq))
 case unOp op t x=>exact SR.aJ (SR.unary op (h.at (aG x (by simp[Op.operands]))))
 case convert s d x=>exact SR.aJ (SR.convert s d bq (h.at (aG x (by simp[Op.operands]))))
 case makeFunc fn fs cs=>
  cases fn<;>simp only[Bool.false_eq_true]at bq;rename_i f;have h1:AR S p (fs.map r) (fs.map r'):=h.many fun x hx=>aG x (by simp[Op.operands,hx]);have h2:AR S p (cs.map r) (cs.map r'):=h.many fun x hx=>aG x (by simp[Op.operands,hx]);exact SR.pure (.value (.func bq h1.1 h2.1 h1.2 h2.2))
 case makeMap t rs=>
  cases rs<;>simp only[Bool.false_eq_true]at bq;exact SR.aJ (SR.makeMap t)
 case makeSlice t l c=>exact SR.aJ (SR.makeSlice hz t (h.at (aG l (by simp[Op.operands]))) (h.at (aG c (by simp[Op.operands]))))
 case slice t x lo hi mx=>
  refine SR.aJ ?_;have hx:=h.at (aG x (by simp[Op.operands]))
  have h1:OV S p (lo.map r) (lo.map r'):=h.opt fun y hy=>aG y (by simp[Op.operands,hy]);have h2:OV S p (hi.map r) (hi.map r'):=h.opt fun y hy=>aG y (by simp[Op.operands,hy]);have h3:OV S p (mx.map r) (mx.map r'):=h.opt fun y hy=>aG y (by simp[Op.operands,hy]);unfold Instr.sliceAt;refine SR.aM fun u hu=>?_;cases u with
  |array n e=>
   refine(SR.sureAddr hx).bind fun q a a' hq ha=>?_;refine(SR.sliceBounds false n n (h1.mono hq) (h2.mono hq) (h3.mono hq)).ab fun q2 b bd=>?_;obtain⟨l,hh,m⟩:=b;simp only;refine(SR.sizeOf e).ab fun q3 s dK=>?_;have ha:=(ha.mono bd).mono dK;split
   .exact SR.pure (ha.sl _ _)
   .exact SR.pure ((ha.add _).sl _ _)
  |_=>exact SR.slice t hx h1 h2 h3
 case fieldAddr t x f=>
  refine SR.aJ (SR.fieldAt t f ?_ (h.at (aG x (by simp[Op.operands]))));intro fs g i hu hg hi;simp only[hu,hg,hi]at bq;simpa using bq
 case field t x f=>exact SR.aJ (SR.field t f (h.at (aG x (by simp[Op.operands]))))
 case indexAddr t x i=>exact SR.aJ (SR.indexAt t (h.at (aG x (by simp[Op.operands]))) (h.at (aG i (by simp[Op.operands]))))
 case index t x i=>exact SR.aJ (SR.index t (h.at (aG x (by simp[Op.operands]))) (h.at (aG i (by simp[Op.operands]))))
 case lookup t x i ok=>
  simp only[Bool.and_eq_true,Bool.or_eq_true,Bool.not_eq_true']at bq;have hJ:S JK=true->gu P t=true:=fun h=>bq.2.elim (fun h2=>absurd (h.symm.trans h2) (by decide)) id;exact SR.aJ (SR.lookup hz hc t hJ bq.1 ok (h.at (aG x (by simp[Op.operands]))) (h.at (aG i (by simp[Op.operands]))))
 case mapUpdate t m k x=>
  simp only[Bool.and_eq_true,Bool.or_eq_true,Bool.not_eq_true']at bq;have hJ:S JK=true->gu P t=true:=fun h=>bq.2.elim (fun h2=>absurd (h.symm.trans h2) (by decide)) id;exact SR.nV (SR.mapUpdate hc t hJ bq.1 (h.at (aG m (by simp[Op.operands]))) (h.at (aG k (by simp[Op.operands]))) (h.at (aG x (by simp[Op.operands]))))
 case extract x i=>exact SR.aJ (SR.extract (h.at (aG x (by simp[Op.operands]))) i)
 case call c=>
  obtain⟨cl,as,ts⟩:=c;have ha:AR S p (as.map r) (as.map r'):=h.many fun x hx=>aG x (by simp[Op.operands,Call.operands,hx]);unfold ic at bq;cases cl<;>simp only[Bool.false_eq_true]at bq;case value f=>exact SR.eT hb (h.at bq) ha
  case builtin b=>
   cases b<;>simp only[Bool.false_eq_true]at bq;case append=>exact SR.aJ (SR.append hz ts bq ty ha)
   case len=>exact SR.aJ (SR.len ts bq ty ha)
   case copy=>exact SR.aJ (SR.copy ts ty ha)
   case clear=>exact SR.aJ (SR.clear hz ts ty ha)
   case max=>exact SR.aJ (SR.max ts ty ha)
   case min=>exact SR.aJ (SR.min ts ty ha)
end
def codeOk (P:Program) (S:Nat->Bool):Code->Bool
 |.region _ ops _=>ops.all fun o=>jl P S o.op||eh S o.op
 |.seq a b=>codeOk P S a&&codeOk P S b
 |.cond c a b=>cY P S c&&codeOk P S a&&codeOk P S b
 |.block _ c|.loop c|.scope c=>codeOk P S c
 |.rangeFunc f _ a b=>cY P S f&&codeOk P S a&&codeOk P S b
 |.label n=>decide (n<100000)||!S (P.funcs.size+P.globals.size+1+(n-100000))
 |_=>true
def cn:Code->Bool
 |.seq a b=>cn a&&cn b
 |.cond _ a b=>cn a&&cn b
 |.block _ c|.loop c|.scope c=>cn c
 |.rangeFunc ..=>false
 |_=>true
abbrev KS (P:Program) (S:Nat->Bool):Code->Prop:=fun c=>codeOk P S c=true
inductive CR (P:Program) (S:Nat->Bool) (H:Code->Code->Prop):Code->Code->Prop
 |same {c:Code} (h:codeOk P S c=true) (hr:cn c=true\/∀a b,¬H a b):CR P S H c c
 |hole {c c':Code} (h:H c c'):CR P S H c c'
 |seq {a a' b b':Code} (ha:CR P S H a a') (hb:CR P S H b b'):CR P S H (.seq a b) (.seq a' b')
 |cond {c:Operand} {a a' b b':Code} (hc:cY P S c=true) (ha:CR P S H a a') (hb:CR P S H b b'):CR P S H (.cond c a b) (.cond c a' b')
 |block (i:Nat) {a a':Code} (ha:CR P S H a a'):CR P S H (.block i a) (.block i a')
 |loop {a a':Code} (ha:CR P S H a a'):CR P S H (.loop a) (.loop a')
structure Closed (P:Program) (F:Array Func) (S:Nat->Bool) (H:FuncId->Code->Code->Prop):Prop where
 fy:au P
 cR:ai P
 LB:S JK=true->P.info? 1000000=none
 size:F.size=P.funcs.size
 AM:∀f,S f=true->((∀a b,¬H f a b)↔S (P.funcs.size+P.globals.size+1+f)=false)
 body:∀f,S f=true->(P.funcs[f]?=none/\F[f]?=none)\/∃fn gq c c',P.funcs[f]?=some fn/\F[f]?=some gq/\fn.body=some c/\gq.body=some c'/\CR P S (H f) c c'/\
  fn.name≠ "runtime.NumGoroutine" /\gq.name≠ "runtime.NumGoroutine" /\fn.ntmps=gq.ntmps/\fn.results=gq.results
theorem Closed.kv {P:Program} {F:Array Func} {S:Nat->Bool} {H:FuncId->Code->Code->Prop} (h:Closed P F S H):gU P F S:=⟨h.LB,fun f hf=>
 (h.body f hf).imp id fun⟨fn,gq,c,c',h1,h2,h3,h4,_,h5,h6,_⟩=>⟨fn,gq,h1,h2,by rw[h3];rfl,by rw[h4];rfl,h5,h6⟩⟩
def fO (P:Program) (S:Nat->Bool) (p:Pi):Prop:=∀g,g<P.globals.size->S (P.funcs.size+g)=true->p g g
theorem fO.mono {P:Program} {S:Nat->Bool} {p q:Pi} (h:fO P S p) (k:Le p q):fO P S q:=fun g a b=>k _ _ (h g a b)
section
variable (P:Program) (S:Nat->Bool) (H:Code->Code->Prop) (p:Pi)
inductive IR:Item->Item->Prop
 |code {c c':Code} (h:CR P S H c c'):IR (.code c) (.code c')
 |inBlock (i:Nat):IR (.inBlock i) (.inBlock i)
 |inLoop {c c':Code} (h:CR P S H c c'):IR (.inLoop c) (.inLoop c')
 |inScope {c:Code} (h:codeOk P S c=true) (hr:cn c=true\/∀a b,¬H a b):IR (.inScope c) (.inScope c)
 |inRegion {ops:Array Oper} (l:List Nat) (h:∀o∈ops,(jl P S o.op||eh S o.op)=true):IR (.inRegion ops l) (.inRegion ops l)
 |kQ {l l':Nat} (h:p l l') (hr:∀a b,¬H a b):IR (.inRangeFunc l) (.inRangeFunc l')
 |ig {l l':Nat} (h:p l l') (hr:∀a b,¬H a b):IR (.endRangeFunc l) (.endRangeFunc l')
 |begin:IR .beginRound .beginRound
inductive TL:List Item->List Item->Prop
 |nil:TL [] []
 |cons {i i':Item} {l l':List Item} (h:IR P S H p i i') (t:TL l l'):TL (i::l) (i'::l')
inductive DL:List Deferred->List Deferred->Prop
 |nil:DL [] []
 |cons {r r':Nat} {l l':List Deferred} (h:p r r') (t:DL l l'):DL ({target:=.collected r,args:=#[]}::l) ({target:=.collected r',args:=#[]}::l')
inductive CL:List PanicEntry->List PanicEntry->Prop
 |nil:CL [] []
 |cons {v v':Value} (b c:Bool) {l l':List PanicEntry} (h:VR S p v v') (t:CL l l'):CL (⟨v,b,c⟩::l) (⟨v',b,c⟩::l')
inductive MR:FrameMode->FrameMode->Prop
 |run:MR .run .run
 |returning:MR .returning .returning
 |panicking {l l':List PanicEntry} (h:CL S p l l'):MR (.panicking l) (.panicking l')
inductive RR:Option Nat->Option Nat->Prop
 |none:RR .none .none
 |some {l l':Nat} (h:p l l'):RR (.some l) (.some l')
end
section
variable (P:Program) (S:Nat->Bool) (H:FuncId->Code->Code->Prop) (p:Pi)
structure jc (f f':Frame):Prop where
 fn:f.fn=f'.fn
 Gx:S f.fn=true
 tmps:AR S p f.tmps f'.tmps
 todo:TL P S (H f.fn) p f.todo f'.todo
 defers:DL p f.defers f'.defers
 mode:MR S p f.mode f'.mode
 kind:f.kind=.normal
 iU:f'.kind=.normal
 round:RR p f.roundOf f'.roundOf
 AM:f.roundOf=none\/∀a b,¬H f.fn a b
 nd:(f.defers=[]/\f'.defers=[])\/∀a b,¬H f.fn a b
 wide:(∀a b,¬H f.fn a b)\/∀fn,P.funcs[f.fn]?=some fn->fn.ntmps<=f.tmps.size
inductive FL:List Frame->List Frame->Prop
 |one {f f':Frame} (h:jc P S H p f f') (r:f.roundOf=.none/\∀c c',¬H f.fn c c'):FL [f] [f']
 |cons {f f':Frame} {l l':List Frame} (h:jc P S H p f f') (t:FL l l'):FL (f::l) (f'::l')
end
section
variable {P:Program} {F:Array Func} {S:Nat->Bool} {H:Code->Code->Prop} {p q:Pi}
theorem IR.mono (h:Le p q) {i i':Item} (x:IR P S H p i i'):IR P S H q i i':=by
 cases x with
 |code h=>exact .code h
 |inBlock i=>exact .inBlock i
 |inLoop h=>exact .inLoop h
 |inScope h hr=>exact .inScope h hr
 |inRegion l h=>exact .inRegion l h
 |kQ g hr=>exact .kQ (h _ _ g) hr
 |ig g hr=>exact .ig (h _ _ g) hr
 |begin=>exact .begin
theorem TL.mono (h:Le p q) {l:List Item} (x:TL P S H p l l'):TL P S H q l l':=by
 induction x with
 |nil=>exact .nil
 |cons g _ ih=>exact .cons (g.mono h) ih
theorem DL.mono (h:Le p q) {l l':List Deferred} (x:DL p l l'):DL q l l':=by
 induction x with
 |nil=>exact .nil
 |cons g _ ih=>exact .cons (h _ _ g) ih
theorem CL.mono (h:Le p q) {l l':List PanicEntry} (x:CL S p l l'):CL S q l l':=by
 induction x with
 |nil=>exact .nil
 |cons b c g _ ih=>exact .cons b c (g.mono h) ih
theorem MR.mono (h:Le p q) {l l':FrameMode} (x:MR S p l l'):MR S q l l':=by
 cases x with
 |run=>exact .run
 |returning=>exact .returning
 |panicking g=>exact .panicking (g.mono h)
theorem RR.mono (h:Le p q) {l l':Option Nat} (x:RR p l l'):RR q l l':=by
 cases x with
 |none=>exact .none
 |some g=>exact .some (h _ _ g)
end
section
variable {P:Program} {F:Array Func} {S:Nat->Bool} {H:FuncId->Code->Code->Prop} {p q:Pi}
theorem jc.mono (h:Le p q) (x:jc P S H p f f'):jc P S H q f f':=
 ⟨x.fn,x.Gx,x.tmps.mono h,x.todo.mono h,x.defers.mono h,x.mode.mono h,x.kind,x.iU,x.round.mono h,x.AM,x.nd,x.wide⟩
theorem FL.mono (h:Le p q) {l l':List Frame} (x:FL P S H p l l'):FL P S H q l l':=by
 induction x with
 |one g r=>exact .one (g.mono h) r
 |cons g _ ih=>exact .cons (g.mono h) ih
theorem VR.undef:VR S p Go.undef Go.undef:=VR.plain 2 _ (by simp[aB.plain,Go.undef])
theorem jc.eval (h:jc P S H p f f') (hg:fO P S p):ie P S p f.eval f'.eval where
 tmp t:=h.tmps.getD t VR.undef
 const v:=⟨rfl,rfl⟩
 global g hl hs:=.ptr 0 none (hg g hl hs)
 func f:=⟨rfl,rfl⟩
theorem jc.vS (h:jc P S H p f f') {l:List Item} (hl:TL P S (H f.fn) p l l'):jc P S H p {f with todo:=l} {f' with todo:=l'}:=
 ⟨h.fn,h.Gx,h.tmps,hl,h.defers,h.mode,h.kind,h.iU,h.round,h.AM,h.nd,h.wide⟩
theorem jc.finish (h:jc P S H p f f') (hv:VR S p v v'):jc P S H p (f.finish v) (f'.finish v'):=by
 obtain⟨fn,tmps,todo,defers,mode,kind,ro⟩:=f;obtain⟨gq,nW,LC,Ea,LD,iU,Vx⟩:=f';obtain⟨h1,h2,h3,h4,h5,h6,h7,h8,h9,nj,tG,tH⟩:=h;simp only at h1 h2 h3 h4 h5 h6 h7 h8 h9 nj tG tH;subst h1;cases h4 with
 |nil=>exact⟨rfl,h2,h3,.nil,h5,h6,h7,h8,h9,nj,tG,tH⟩
 |cons hi ht=>
  cases hi with
  |inRegion l ho=>
   cases l with
   |nil=>exact⟨rfl,h2,h3,.cons (.inRegion _ ho) ht,h5,h6,h7,h8,h9,nj,tG,tH⟩
   |cons i rest=>
    refine⟨rfl,h2,?_,.cons (.inRegion _ ho) ht,h5,h6,h7,h8,h9,nj,tG,tH.imp id fun h fn hf=>?_⟩
    .simp only[Frame.finish];split
     .exact h3.set _ hv
     .exact h3
    .simp only[Frame.finish];split
     .rw[Array.size_setIfInBounds];exact h fn hf
     .exact h fn hf
  |kQ g hr=>exact⟨rfl,h2,h3,.cons (.ig g hr) ht,h5,h6,h7,h8,h9,nj,tG,tH⟩
  |begin=>exact⟨rfl,h2,h3,ht,h5,h6,h7,h8,h9,nj,tG,tH⟩
  |code g=>exact⟨rfl,h2,h3,.cons (.code g) ht,h5,h6,h7,h8,h9,nj,tG,tH⟩
  |inBlock i=>exact⟨rfl,h2,h3,.cons (.inBlock i) ht,h5,h6,h7,h8,h9,nj,tG,tH⟩
  |inLoop g=>exact⟨rfl,h2,h3,.cons (.inLoop g) ht,h5,h6,h7,h8,h9,nj,tG,tH⟩
  |inScope g hr=>exact⟨rfl,h2,h3,.cons (.inScope g hr) ht,h5,h6,h7,h8,h9,nj,tG,tH⟩
  |ig g hr=>exact⟨rfl,h2,h3,.cons (.ig g hr) ht,h5,h6,h7,h8,h9,nj,tG,tH⟩
theorem CL.append {l l' m m':List PanicEntry} (h:CL S p l l') (k:CL S p m m'):CL S p (l++m) (l'++m'):=by
 induction h with
 |nil=>exact k
 |cons b c g _ ih=>exact .cons b c g ih
theorem jc.raise (h:jc P S H p f f') {l l':List PanicEntry} (hl:CL S p l l'):jc P S H p (f.raise l) (f'.raise l'):=by
 obtain⟨fn,tmps,todo,defers,mode,kind,ro⟩:=f;obtain⟨gq,nW,LC,Ea,LD,iU,Vx⟩:=f';obtain⟨h1,h2,h3,h4,h5,h6,h7,h8,h9,nj,tG,tH⟩:=h;simp only at h1 h2 h3 h4 h5 h6 h7 h8 h9 nj tG tH;cases h6 with
 |run=>exact⟨h1,h2,h3,h4,h5,.panicking hl,h7,h8,h9,nj,tG,tH⟩
 |returning=>exact⟨h1,h2,h3,h4,h5,.panicking hl,h7,h8,h9,nj,tG,tH⟩
 |panicking g=>exact⟨h1,h2,h3,h4,h5,.panicking (hl.append g),h7,h8,h9,nj,tG,tH⟩
theorem jc.enter (hc:Closed P F S H) {f:Nat} (hf:S f=true) {xs aQ:Array Value} (h:AR S p xs aQ) {k k':CallKind} (hk:k=.normal) (vB:k'=.normal):jc P S H p (Frame.enter P f xs k) (Frame.enter (aa P F) f aQ k'):=by
 subst hk;subst vB;unfold Frame.enter;rcases hc.body f hf with⟨h1,h2⟩|⟨fn,gq,c,c',h1,h2,h3,h4,h5,_,_,h6,_⟩
 .have mG:(aa P F).funcs[f]?=none:=h2;simp only[h1,mG,Option.map_none,Option.getD_none,Option.bind_none];rw[h.1];exact⟨rfl,hf,h.append (AR.replicate _ VR.undef),.cons (.code (.same rfl (.inl rfl))) .nil,.nil,.run,rfl,rfl,.none,.inl rfl,.inl ⟨rfl,rfl⟩,.inr fun fn hf=>by simp only at hf;rw[h1]at hf;cases hf⟩
 .have mG:(aa P F).funcs[f]?=some gq:=h2;simp only[h1,mG,h3,h4,Option.map_some,Option.getD_some,Option.bind_some];rw[h.1,h6]
  exact⟨rfl,hf,h.append (AR.replicate _ VR.undef),.cons (.code h5) .nil,.nil,.run,rfl,rfl,.none,.inl rfl,.inl ⟨rfl,rfl⟩,.inr fun gn hg=>by
   simp only at hg;rw[h1]at hg;cases hg;simp only[Array.size_append,Array.size_replicate];have:=h.1;omega⟩
theorem jc.Eb {l' f:Nat} (hn:∀a b,¬H f a b) (hl:p l l') (hf:S f=true) (h:AR S p xs aQ) {a b:Code} (ha:codeOk P S a=true) (hb:codeOk P S b=true):
 jc P S H p (Frame.round l f xs a b .normal) (Frame.round l' f aQ a b .normal):=
 ⟨rfl,hf,h,.cons (.code (.same ha (.inr hn))) (.cons .begin (.cons (.code (.same hb (.inr hn))) .nil)),.nil,.run,rfl,rfl,.some hl,.inr hn,.inr hn,.inl hn⟩
theorem kR (l:Nat):∀(c:Code) {d:Code},cn c=true->findLabel c l=some d->cn d=true:=by
 intro c;induction c with
 |seq a b LE LF=>
  intro d hc hd;simp only[cn,Bool.and_eq_true]at hc;simp only[findLabel]at hd;cases ha:findLabel a l with
  |some r=>rw[ha]at hd;simp only[Option.some.injEq]at hd;subst hd;simp only[cn,Bool.and_eq_true];exact⟨LE hc.1 ha,hc.2⟩
  |none=>rw[ha]at hd;exact LF hc.2 hd
 |label l'=>
  intro d hc hd;simp only[findLabel]at hd;split at hd
  .simp only[Option.some.injEq]at hd;subst hd;rfl
  .cases hd
 |_=>intro d _ hd;cases hd
theorem vT {H:Code->Code->Prop} (id:Nat) {l:List Item} (h:TL P S H p l l'):(exitTo id l=none/\exitTo id l'=none)\/∃k k',exitTo id l=some k/\exitTo id l'=some k'/\TL P S H p k k':=by
 induction h with
 |nil=>exact .inl ⟨rfl,rfl⟩
 |cons hi ht ih=>
  cases hi with
  |inBlock i=>
   simp only[exitTo];split
   .exact .inr ⟨_,_,rfl,rfl,ht⟩
   .exact ih
  |_=>exact ih
theorem rG (l:Nat):∀(c:Code) {d:Code},codeOk P S c=true->findLabel c l=some d->codeOk P S d=true:=by
 intro c;induction c with
 |seq a b LE LF=>
  intro d hc hd;simp only[codeOk,Bool.and_eq_true]at hc;simp only[findLabel]at hd;cases ha:findLabel a l with
  |some r=>rw[ha]at hd;simp only[Option.some.injEq]at hd;subst hd;simp only[codeOk,Bool.and_eq_true];exact⟨LE hc.1 ha,hc.2⟩
  |none=>rw[ha]at hd;exact LF hc.2 hd
 |label l'=>
  intro d hc hd;simp only[findLabel]at hd;split at hd
  .simp only[Option.some.injEq]at hd;subst hd;rfl
  .cases hd
 |_=>intro d _ hd;cases hd
theorem vU {H:Code->Code->Prop} (id:Nat) {l:List Item} (h:TL P S H p l l'):(gotoIn id l=none/\gotoIn id l'=none)\/∃k k',gotoIn id l=some k/\gotoIn id l'=some k'/\TL P S H p k k':=by
 induction h with
 |nil=>exact .inl ⟨rfl,rfl⟩
 |cons hi ht ih=>
  cases hi with
  | @inScope c hc hr=>
    simp only[gotoIn];cases hd:findLabel c id with
    |some d=>exact .inr ⟨_,_,rfl,rfl,.cons (.code (.same (rG id c hc hd) (hr.imp (fun x=>kR id c x hd) fun x=>x))) (.cons (.inScope hc hr) ht)⟩
    |none=>exact ih
  |_=>exact ih
def lX (S:Nat->Bool) (f:Frame):Prop:=
 f.mode=.run/\∃o ops i is k,f.todo=.inRegion ops (i::is)::k/\ops[i]?=some o/\eh S o.op=true/\Region.wanted o (yielded ops f.tmps)=true
theorem mH (ops:Array Oper) (h:AR S p xs ys) (j:Nat):yielded ops xs j=yielded ops ys j:=by
 unfold yielded;cases((ops[j]?).bind (·.dst))with
 |none=>rfl
 |some d=>
  simp only[Option.bind_some];cases hx:xs[d]? with
  |none=>rw[h.none hx]
  |some v=>
   obtain⟨v',iD,hr⟩:=h.get hx;rw[iD];cases hr with
   |lP hj h=>cases v'<;>first|rfl|cases h
   |_=>rfl
theorem mem_seen {P:Program} {fn:FuncId} {e:Event} (h:e∈seen P fn es):e∈es:=by
 have key:∀(quiet:FuncId->Bool) (l:List Event) (q:Bool) (kept:Array Event),e∈(l.foldl (fun(x:Bool×Array Event) (e:Event)=>match x with
  |(q,kept)=>match e.loc with
   |.mark (.extern f)=>(quiet f,kept)
   |_=>(q,if q&&!e.sync then kept else kept.push e)) (q,kept)).2->e∈kept\/e∈l:=by
  intro quiet l;induction l with
  |nil=>intro q kept h;exact .inl h
  |cons x l ih=>
   intro q kept h;rw[List.foldl_cons]at h
   generalize hy:(match(q,kept)with
    |(q,kept)=>match x.loc with
     |.mark (.extern f)=>(quiet f,kept)
     |_=>(q,if q&&!x.sync then kept else kept.push x))=y at h
   obtain⟨q',k'⟩:=y
   have hk:e∈k'->e∈kept\/e=x:=by
    intro he;simp only at hy;split at hy
    .rw[Prod.mk.injEq]at hy;rw[hy.2];exact .inl he
    .rw[Prod.mk.injEq]at hy;rw[<-hy.2]at he;split at he
     .exact .inl he
     .exact Array.mem_push.1 he
   rcases ih q' k' h with h|h
   .exact(hk h).imp id fun h=>by simp[h]
   .exact .inr (by simp[h])
 unfold seen at h;dsimp only at h;rw[<-Array.foldl_toList]at h;have:=key _ _ _ _ h;simpa using this
end
def gw:GStep->World
 |.go _ w _=>w
 |.comm _ _ _ _ w _=>w
 |.spawn _ _ w _=>w
 |.count _ w _=>w
 |.timer _ _ w _=>w
 |.alone _ _ w _=>w
 |.newcoro _ _ _ w _=>w
 |.coroswitch _ _ _ w _=>w
 |.collect _ w _=>w
 |.watch _ w _=>w
 |.ended _ w _=>w
@[simp] theorem ii (es:Array Event) (s:GStep):gw (GStep.after es s)=gw s:=by cases s <;> rfl
theorem zf (P:Program) (s:Sem α) (w:World):w.drawn<=(world (s.run P w)).drawn:=by
 have:=kh P s w #[];rw[Sem.runT_fst]at this;exact this
theorem jm {P:Program} {s:Sem α} {w:World} {r:Result α} (h:s.run P w=r):w.drawn<=(world r).drawn:=h▸zf P s w
theorem nX (P:Program) (fr:Frame) (cs:List Frame) (d:Option Dying) (m:String) (w:World):w.drawn<=(gw (endFatal P fr cs d m w)).drawn:=by
 unfold endFatal;dsimp only;split
 .rename_i h;exact jm h
 .rename_i h;exact jm h
 .rename_i h;exact jm h
theorem tI (P:Program) (fr:Frame) (cs:List Frame) (d:Option Dying) (g:Nat) (w:World):w.drawn<=(gw (early P fr cs d g w)).drawn:=by
 unfold early;dsimp only;repeat' split
 all_goals first
  |exact Nat.le_refl _
  |(have hx:=jm (by assumption:Sem.run P (choose (Question.early g)) w=Result.ok _ _);exact hx)
  |(have hx:=jm (by assumption:Sem.run P (choose (Question.early g)) w=Result.halt _ _);exact hx)
theorem mI (P:Program) (fr:Frame) (cs:List Frame) (d:Option Dying) (s:Sem Next) (w:World):(world (s.runT P w #[]).1).drawn<=(gw (stepG.apply P true fr cs d s w)).drawn:=by
 unfold stepG.apply;simp only[if_true];generalize s.runT P w #[]=x;obtain⟨r,es⟩:=x;simp only[ii];split;all_goals(try exact Nat.le_refl _)
 all_goals(try(split<;>exact Nat.le_refl _))
 all_goals first
  |exact nX ..
  |exact tI ..
  |(split<;>split<;>exact Nat.le_refl _)
section
variable (P:Program) (S:Nat->Bool) (H:FuncId->Code->Code->Prop) (N:Nat)
def cH (p:Pi) (w w':World) (b:Frame) (bs:List Frame) (aH:List Frame) (s s':GStep):Prop:=
 (∃o w1 es,s=.ended o w1 es)\/(∃q ch KP w1 es,CL S q ch KP/\s=.go {frame:=b.raise ch,callers:=bs,status:=.running,dying:=none} w1 es)\/
 ∃c n w1 eD es bM,bX P S (KS P S) N p w w' c n w1 eD/\(∀e∈bM,DM N (ext p w.heap.size w'.heap.size c) e)/\
  ((∃f f' top cL,FL P S H (ext p w.heap.size w'.heap.size c) (f::top) (f'::cL)/\
     s=.go {frame:=f,callers:=top++b::bs,status:=.running,dying:=none} w1 es/\
     s'=.go {frame:=f',callers:=cL++aH,status:=.running,dying:=none} eD bM)\/
   (∃v v',VR S (ext p w.heap.size w'.heap.size c) v v'/\
     s=.go {frame:=b.finish v,callers:=bs,status:=.running,dying:=none} w1 es/\
     ((∃b' rH,aH=b'::rH/\s'=.go {frame:=b'.finish v',callers:=rH,status:=.running,dying:=none} eD bM)\/
      (aH=[]/\s'=.ended (.done v') eD bM))))
end
section
variable {P:Program} {F:Array Func} {S:Nat->Bool} {H:FuncId->Code->Code->Prop} {N:Nat} {p:Pi} {w w':World} {b:Frame} {bs:List Frame} {aH:List Frame}
theorem cH.ended (o:Outcome) (w1:World) (es:Array Event):cH P S H N p w w' b bs aH (.ended o w1 es) s':=.inl ⟨o,w1,es,rfl⟩
theorem cH.go (h:WR P S (KS P S) N p w w') {top cL:List Frame} (hf:FL P S H p (f::top) (f'::cL)):
 cH P S H N p w w' b bs aH (.go {frame:=f,callers:=top++b::bs,status:=.running,dying:=none} w) (.go {frame:=f',callers:=cL++aH,status:=.running,dying:=none} w'):=
 .inr (.inr ⟨0,0,w,w',#[],#[],bX.refl h,by simp,.inl ⟨f,f',top,cL,by rw[bp];exact hf,rfl,rfl⟩⟩)
theorem cH.ret (h:WR P S (KS P S) N p w w') (hv:VR S p v v') (b':Frame) (rH:List Frame):
 cH P S H N p w w' b bs (b'::rH) (.go {frame:=b.finish v,callers:=bs,status:=.running,dying:=none} w) (.go {frame:=b'.finish v',callers:=rH,status:=.running,dying:=none} w'):=
 .inr (.inr ⟨0,0,w,w',#[],#[],bX.refl h,by simp,.inr ⟨v,v',by rw[bp];exact hv,rfl,.inl ⟨b',rH,rfl,rfl⟩⟩⟩)
theorem cH.Ec (h:WR P S (KS P S) N p w w') (hv:VR S p v v'):
 cH P S H N p w w' b bs [] (.go {frame:=b.finish v,callers:=bs,status:=.running,dying:=none} w) (.ended (.done v') w'):=
 .inr (.inr ⟨0,0,w,w',#[],#[],bX.refl h,by simp,.inr ⟨v,v',by rw[bp];exact hv,rfl,.inr ⟨rfl,rfl⟩⟩⟩)
theorem cH.raised {q:Pi} {v v':List PanicEntry} (h:CL S q v v') (w1:World) (es:Array Event):
 cH P S H N p w w' b bs aH (.go {frame:=b.raise v,callers:=bs,status:=.running,dying:=none} w1 es) s':=.inr (.inl ⟨q,v,v',w1,es,h,rfl⟩)
theorem cH.trans (hm:bX P S (KS P S) N p w w' c n w1 eD) {bM:Array Event} (he:∀e∈bM,DM N (ext p w.heap.size w'.heap.size c) e) {s:GStep}
 (h:cH P S H N (ext p w.heap.size w'.heap.size c) w1 eD b bs aH s s'):cH P S H N p w w' b bs aH (s.after es) (s'.after bM):=by
 rcases h with⟨o,w2,PA,rfl⟩|⟨q,ch,KP,w2,PA,xR,rfl⟩|⟨c2,n2,w2,KO,fs,LA,k1,k2,k3⟩
 .exact .inl ⟨o,w2,_,rfl⟩
 .exact .inr (.inl ⟨q,ch,KP,w2,_,xR,rfl⟩)
 .rw[hm.size,hm.jh,kO]at k2 k3;refine .inr (.inr ⟨c+c2,n+n2,w2,KO,es++fs,bM++LA,hm.trans k1,fun x hx=>?_,?_⟩)
  .rcases Array.mem_append.1 hx with hx|hx
   .refine(he x hx).mono fun r r' y=>?_;rw[<-kO];exact .inl y
   .exact k2 x hx
  .rcases k3 with⟨f,f',top,cL,x1,rfl,rfl⟩|⟨v,v',x1,rfl,⟨b',rH,x2,rfl⟩|⟨x2,rfl⟩⟩
   .exact .inl ⟨f,f',top,cL,x1,rfl,rfl⟩
   .exact .inr ⟨v,v',x1,rfl,.inl ⟨b',rH,x2,rfl⟩⟩
   .exact .inr ⟨v,v',x1,rfl,.inr ⟨x2,rfl⟩⟩
def iV (m:Nat) (w w':World):Prop:=∀j,j<m->∀q,w.tape (w.drawn+j) q=w'.tape (w'.drawn+j) q
theorem iV.LG (h:iV m w w') (hm:bX P S (KS P S) N p w w' c n w1 eD):iV (m-n) w1 eD:=by
 intro j hj q;have:=h (n+j) (by omega) q;rw[hm.tape,hm.xP,hm.drawn,hm.ji,Nat.add_assoc,Nat.add_assoc];exact this
theorem cH.run {Q:Pi->α->β->Prop} {s:Sem α} {s':Sem β} (h:SR P F S (KS P S) N Q s s' p) (hw:WR P S (KS P S) N p w w') (hm:iV m w w')
 {ev:Result α->Array Event->Array Event} {Iu:Result β->Array Event->Array Event} (aX:∀r es e,e∈Iu r es->e∈es)
 {k:Result α->GStep} {k':Result β->GStep} (hd:(gw (k' (s'.runT (aa P F) w' #[]).1)).drawn<=w'.drawn+m) (hk:∀r,(world r).drawn<=(gw (k' r)).drawn)
 (LH:∀x w1,dead x->∃o w2 es,k (.halt x w1)=.ended o w2 es)
 (pp:∀c n w1 eD x y,bX P S (KS P S) N p w w' c n w1 eD->Q (ext p w.heap.size w'.heap.size c) x y->iV (m-n) w1 eD->(gw (k' (.ok y eD))).drawn<=eD.drawn+(m-n)->
   cH P S H N (ext p w.heap.size w'.heap.size c) w1 eD b bs aH (k (.ok x w1)) (k' (.ok y eD)))
 (Iv:∀c n w1 eD v v',bX P S (KS P S) N p w w' c n w1 eD->VR S (ext p w.heap.size w'.heap.size c) v v'->
   cH P S H N (ext p w.heap.size w'.heap.size c) w1 eD b bs aH (k (.halt (.panic v) w1)) (k' (.halt (.panic v') eD))):
 cH P S H N p w w' b bs aH (GStep.after (ev (s.runT P w #[]).1 (s.runT P w #[]).2) (k (s.runT P w #[]).1)) (GStep.after (Iu (s'.runT (aa P F) w' #[]).1 (s'.runT (aa P F) w' #[]).2) (k' (s'.runT (aa P F) w' #[]).1)):=by
 have ho:=SR.sound h w w' #[] #[] m hw hm (Nat.le_trans (hk _) hd);rcases ho with⟨x,w1,es1,e,hx⟩|⟨c,n,w1,eD,es1,fs,k1,k2,⟨x,y,e,e',hq⟩|⟨v,v',e,e',hv⟩⟩
 .rw[e];obtain⟨o,w2,es,e2⟩:=LH x w1 hx;simp only[e2];exact .inl ⟨o,w2,_,rfl⟩
 .rw[e']at hd;simp only at hd;have TC:(world (.ok y eD:Result β)).drawn<=w'.drawn+m:=Nat.le_trans (hk _) hd;simp only[world]at TC;rw[k1.ji]at TC;rw[e,e'];simp only[Array.empty_append];refine cH.trans k1 (fun z hz=>k2 z (aX _ _ _ hz)) (pp c n w1 eD x y k1 hq (hm.LG k1) ?_);rw[k1.ji];omega
 .rw[e,e'];simp only[Array.empty_append];exact cH.trans k1 (fun z hz=>k2 z (aX _ _ _ hz)) (Iv c n w1 eD v v' k1 hv)
end
section
variable {P:Program} {F:Array Func} {S:Nat->Bool} {K:Code->Prop} {N:Nat} {p:Pi}
structure tJ (S:Nat->Bool) (K:Code->Prop) (p:Pi) (l l':Loop):Prop where
 h1:l.state=l'.state
 h2:l.pending=l'.pending
 h3:l.fn=l'.fn
 h4:AR S p l.tmps l'.tmps
 h5:l.params=l'.params
 h6:l.assign=l'.assign
 h7:l.body=l'.body
 h8:p l.defers l'.defers
 k1:S l.fn=true
 k2:K l.assign
 k3:K l.body
 k4:∀c,l.pending=some c->K c
 k5:K (.label (100000+l.fn))
theorem tJ.or {l l':Loop} (x:tJ S K p l l'):OR S K p (.loop l) (.loop l'):=.loop x.h1 x.h2 x.h3 x.h4 x.h5 x.h6 x.h7 x.h8 x.k1 x.k2 x.k3 x.k4 x.k5
theorem SR.getLoop (h:p r r'):SR P F S K N (fun q l l'=>tJ S K q l l') (Instr.getLoop r) (Instr.getLoop r') p:=by
 unfold Instr.getLoop;refine(SR.getObj h).bind fun q o o' hq ho=>?_;cases ho<;>first|exact SR.stuck|skip
 rename_i h1 h2 h3 h4 h5 h6 h7 h8 k1 k2 k3 k4 k5;exact SR.pure ⟨h1,h2,h3,h4,h5,h6,h7,h8,k1,k2,k3,k4,k5⟩
theorem SR.enterLoop {f f':Nat} (PF:f=f') (hf:S f=true) (hz:K (.label (100000+f))) (hx:AR S p xs aQ) (ps:Array Tmp) {a c:Code} (ha:K a) (hc:K c) {o o':Option Nat} (ho:RR p o o'):
 SR P F S K N (fun q x y=>q x.1 y.1/\DL q x.2 y.2) (Instr.enterLoop f xs ps a c o) (Instr.enterLoop f' aQ ps a c o') p:=by
 subst PF;unfold Instr.enterLoop;cases ho with
 |none=>
  simp only[bind_assoc,pure_bind];refine(SR.newObj .bW).bind fun q r r' hq hr=>?_;refine(SR.newObj (tJ.or (l:={state:=.ready,pending:=none,fn:=f,tmps:=xs,params:=ps,assign:=a,body:=c,defers:=r}) (l':={state:=.ready,pending:=none,fn:=f,tmps:=aQ,params:=ps,assign:=a,body:=c,defers:=r'}) ⟨rfl,rfl,rfl,hx.mono hq,rfl,rfl,rfl,hr.1,hf,ha,hc,fun c h=>(by cases h),hz⟩)).bind fun q2 s s' bd hs=>?_;exact SR.pure ⟨hs.1,.cons (bd _ _ hr.1) .nil⟩
 |some h=>
  simp only[bind_assoc,pure_bind];refine(SR.getLoop h).bind fun q r r' hq hr=>?_;refine(SR.newObj (tJ.or (l:={state:=.ready,pending:=none,fn:=f,tmps:=xs,params:=ps,assign:=a,body:=c,defers:=r.defers}) (l':={state:=.ready,pending:=none,fn:=f,tmps:=aQ,params:=ps,assign:=a,body:=c,defers:=r'.defers}) ⟨rfl,rfl,rfl,hx.mono hq,rfl,rfl,rfl,hr.h8,hf,ha,hc,fun c h=>(by cases h),hz⟩)).bind fun q2 s s' bd hs=>?_;exact SR.pure ⟨hs.1,.nil⟩
theorem SR.beginRound (h:p r r'):SR P F S K N (QE Unit) (Instr.beginRound r) (Instr.beginRound r') p:=by
 unfold Instr.beginRound;refine(SR.getLoop h).bind fun q l l' hq hl=>?_;refine(SR.setObj (hq _ _ h) (tJ.or (l:={l with state:=.busy}) (l':={l' with state:=.busy}) ⟨rfl,hl.h2,hl.h3,hl.h4,hl.h5,hl.h6,hl.h7,hl.h8,hl.k1,hl.k2,hl.k3,hl.k4,hl.k5⟩)).ab fun q2 _ bd=>?_;rw[<-hl.h1];cases l.state with
 |ready=>exact SR.pure rfl
 |done=>exact SR.err _
 |busy=>exact SR.err _
 |exhausted=>exact SR.err _
theorem SR.endRound (h:p r r') (j:Option Code) (hj:∀c,j=some c->K c):SR P F S K N (QV S) (Instr.endRound r j) (Instr.endRound r' j) p:=by
 unfold Instr.endRound;refine(SR.getLoop h).bind fun q l l' hq hl=>?_;refine(SR.setObj (hq _ _ h) (tJ.or (l:={l with state:=if j.isNone then .ready else .done,pending:=j}) (l':={l' with state:=if j.isNone then .ready else .done,pending:=j}) ⟨rfl,rfl,hl.h3,hl.h4,hl.h5,hl.h6,hl.h7,hl.h8,hl.k1,hl.k2,hl.k3,hj,hl.k5⟩)).ab fun q2 _ bd=>?_;exact SR.pure (VR.plain 2 _ rfl)
theorem SR.endLoop (h:p r r'):SR P F S K N (fun _ a b=>a=b/\∀c,a=some c->K c) (Instr.endLoop r) (Instr.endLoop r') p:=by
 unfold Instr.endLoop;refine(SR.getLoop h).bind fun q l l' hq hl=>?_;rw[<-hl.h1]
 have tail:∀q2,Le q q2->SR P F S K N (fun _ a b=>a=b/\∀c,a=some c->K c) (Go.setObj r (.loop {l with state:=.exhausted})>>=fun _=>(Pure.pure l.pending:Sem (Option Code))) (Go.setObj r' (.loop {l' with state:=.exhausted})>>=fun _=>(Pure.pure l'.pending:Sem (Option Code))) q2:=fun q2 bd=>by
  refine(SR.setObj (bd _ _ (hq _ _ h)) (tJ.or (l:={l with state:=.exhausted}) (l':={l' with state:=.exhausted}) ⟨rfl,hl.h2,hl.h3,hl.h4.mono bd,hl.h5,hl.h6,hl.h7,bd _ _ hl.h8,hl.k1,hl.k2,hl.k3,hl.k4,hl.k5⟩)).ab fun q3 _ dK=>?_;exact SR.pure ⟨hl.h2,hl.k4⟩
 split
 .exact(SR.err (α:=PUnit) (β:=PUnit) (Q:=QE PUnit) _).ab fun q2 _ bd=>tail q2 bd
 .exact tail q (Le.refl q)
theorem SR.takeDeferred (h:p r r'):SR P F S K N (fun _ a b=>a=[]/\b=[]) (Instr.takeDeferred r) (Instr.takeDeferred r') p:=by
 unfold Instr.takeDeferred;refine(SR.getObj h).bind fun q o o' hq ho=>?_;cases ho<;>first|exact SR.stuck|skip
 refine(SR.setObj (hq _ _ h) .bV).ab fun q2 _ bd=>?_;exact SR.pure ⟨rfl,rfl⟩
theorem SR.A9 (f f':α->Sem Value):∀(l:List α) {p:Pi} {acc kl:Array Value},(∀x q,Le p q->SR P F S K N (QV S) (f x) (f' x) q)->AR S p acc kl->
 SR P F S K N (QA S) (l.foldlM (fun bs a=>Functor.map bs.push (f a)) acc) (l.foldlM (fun bs a=>Functor.map bs.push (f' a)) kl) p:=by
 intro l;induction l with
 |nil=>intro p acc kl _ ha;exact SR.pure ha
 |cons x l ih=>
  intro p acc kl h ha;simp only[List.foldlM_cons];refine SR.bind (Q:=QA S) ?_ fun q a b hq iE=>ih (fun y q2 bd=>h y q2 (hq.trans bd)) iE;exact(h x p (Le.refl p)).bind fun q b b' hq hb=>SR.pure ((ha.mono hq).push hb)
theorem SR.results {fn gq:Func} (hr:fn.results=gq.results) (h:AR S p xs aQ):SR P F S K N (QV S) (Go.results fn xs) (Go.results gq aQ) p:=by
 unfold Go.results;rw[<-hr];refine SR.bind (Q:=QA S) ?_ fun q vs tB hq hv=>?_
 .rw[Array.mapM_eq_foldlM,<-Array.foldlM_toList,Array.mapM_eq_foldlM,<-Array.foldlM_toList];refine SR.A9 _ _ _ (fun x q hq=>?_) AR.empty;cases x with
  |tmp t=>exact SR.pure ((h.mono hq).getD t VR.undef)
  |cell a t=>exact(SR.asAddr ((h.mono hq).getD a VR.undef)).bind fun q2 a a' bd ha=>SR.loadVar t ha
 .refine SR.pure ?_;have:=hv.1;by_cases h1:vs.size=1
  .have lV:tB.size=1:=by omega
   simp only[h1,lV,dif_pos];exact hv.2 0 _ _ (by simp[h1]) (by simp[lV])
  .have lV:tB.size≠1:=by omega
   simp only[h1,lV,dif_neg,not_false_eq_true];exact hv.tuple
end
end Go.aB
