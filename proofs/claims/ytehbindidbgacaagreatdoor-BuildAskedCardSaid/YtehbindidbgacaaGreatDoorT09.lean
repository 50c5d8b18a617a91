/- A part. Conditions: none. -/
import Derived.Test.YtehbindidbgacaaGreatDoorT08
set_option linter.all false
namespace Go.Ev
open Go.aB (aa bi bn eS bu fC bR bN bQ aC aD bB d8 cz cy bH aA aU aT bY bG bl)
variable {H2:Nat->Option Obj} {R W c k l l' m n n1 r r' s:Nat} {W1:Nat->Prop} {a a':Addr} {aQ xs ys z z':Array Value} {b b' i i' k' v v' x x' y y':Value} {e t:TypeId} {fz:Nat×Nat} {hi lT lo mx nP ng:Option Value} {o o' o0 o1:Obj} {ps ze:Array (Nat×Value)} {q:Pi} {w1 w2:World} {α β:Type}
section
variable {P:Program} {F:Array Func} {S:Nat->Bool} {K:Kz} {N:Nat} {p:Pi}
theorem SR.lS (f:α->Sem β) (h:∀x q,SR P F S K N (QE β) (f x) (f x) q) (xs:Array α):SR P F S K N (QE (Array β)) (xs.mapM f) (xs.mapM f) p:=by
 rw[Array.mapM_eq_foldlM,<-Array.foldlM_toList];generalize xs.toList=l;generalize(#[]:Array β)=acc;induction l generalizing acc p with
 |nil=>exact SR.pure rfl
 |cons x l ih=>
  simp only[List.foldlM_cons];refine SR.ab (α:=Array β) ?_ fun q a hq=>ih a;exact(h x p).ab fun q b hq=>SR.pure rfl
inductive PL (S:Nat->Bool) (p:Pi):List (Nat×Value)->List (Nat×Value)->Prop
 |nil:PL S p [] []
 |cons {i:Nat} {v v':Value} {l l':List (Nat×Value)} (h:VR S p v v') (t:PL S p l l'):PL S p ((i,v)::l) ((i,v')::l')
theorem PL.mono (h:Le p q) {l l':List (Nat×Value)} (x:PL S p l l'):PL S q l l':=by
 induction x with
 |nil=>exact .nil
 |cons g _ ih=>exact .cons (g.mono h) ih
theorem PL.map (l:List (Nat×Operand)) (f g:Operand->Value) (h:∀x∈l,VR S p (f x.2) (g x.2)):PL S p (l.map fun(i,x)=>(i,f x)) (l.map fun(i,x)=>(i,g x)):=by
 induction l with
 |nil=>exact .nil
 |cons x l ih=>exact .cons (h x (by simp)) (ih fun y hy=>h y (by simp[hy]))
theorem vL (h:AR S p xs ys) {cs fA:List (Value×Nat)} (off:Nat) (hc:∀(j:Nat) a b,cs[j]?=some a->fA[j]?=some b->VR S p a.1 b.1/\a.2=b.2) (hl:cs.length=fA.length):
 AR S p (cs.foldl (fun acc (c,j)=>acc.setIfInBounds (off+j) c) xs) (fA.foldl (fun acc (c,j)=>acc.setIfInBounds (off+j) c) ys):=by
 induction cs generalizing fA xs ys with
 |nil=>cases fA with
  |nil=>exact h
  |cons=>cases hl
 |cons c cs ih=>cases fA with
  |nil=>cases hl
  |cons c' fA=>
   have h0:=hc 0 c c' rfl rfl;simp only[List.foldl_cons];rw[h0.2];exact ih (h.set _ h0.1) (fun j a b h1 h2=>hc (j+1) a b h1 h2) (by simpa using hl)
theorem fJ (place:Nat->Option (Nat×Nat)):∀{l l':List (Nat×Value)} {xs ys:Array Value},PL S p l l'->AR S p xs ys->
 (Instr.fill place xs l=none/\Instr.fill place ys l'=none)\/∃a b,Instr.fill place xs l=some a/\Instr.fill place ys l'=some b/\AR S p a b:=by
 intro l l' xs ys hl;induction hl generalizing xs ys with
 |nil=>intro h;exact .inr ⟨_,_,rfl,rfl,h⟩
 | @cons i v v' l l' hv _ ih=>
   intro h;simp only[Instr.fill];cases place i with
   |none=>exact .inl ⟨rfl,rfl⟩
   |some x=>
    obtain⟨off,size⟩:=x;simp only;have hc:=hv.cells;rw[<-hc.1,<-h.1];split
    .exact .inl ⟨rfl,rfl⟩
    .refine ih ?_;rw[<-Array.foldl_toList,<-Array.foldl_toList];refine vL h off (fun j a b h1 h2=>?_) (by simp[hc.1]);simp only[Array.getElem?_toList,Array.getElem?_zipIdx]at h1 h2;cases hx:v.cells[j]? with
     |none=>rw[hx]at h1;cases h1
     |some u=>
      obtain⟨u',Il,hr⟩:=hc.get hx;rw[hx]at h1;rw[Il]at h2;simp only[Option.map_some,Option.some.injEq]at h1 h2;subst h1;subst h2;exact⟨hr,rfl⟩
theorem SR.box (e:TypeId) (h:VR S p v v'):SR P F S K N (QV S) (Instr.box e v) (Instr.box e v') p:=
 (SR.newVar e h).bind fun q a a' hq ha=>SR.pure ha.1.ptr
theorem SR.alloc (hz:au P) (e:TypeId):SR P F S K N (QV S) (Instr.alloc e true (.tuple #[])) (Instr.alloc e true (.tuple #[])) p:=by
 unfold Instr.alloc;refine(SR.zeroValue hz e).bind fun q z z' hq km=>?_;obtain⟨rfl,hv⟩:=km;exact(SR.newVar e hv).bind fun q a a' hq ha=>SR.pure ha.1.ptr
theorem SR.build (hz:au P) (t:TypeId) (h:PL S p ps.toList ze.toList):SR P F S K N (QV S) (Instr.build t ps) (Instr.build t ze) p:=by
 unfold Instr.build;refine(SR.zeroValue hz t).bind fun q z z' hq km=>?_;obtain⟨rfl,hv⟩:=km;have h:=h.mono hq;refine SR.aM fun d hd=>?_;cases d with
 |struct fields=>
  refine SR.ab (α:=Array (Nat×Nat)) (SR.lS _ (fun f q=>(SR.sizeOf f.type).ab fun q n hq=>SR.pure rfl) fields) fun q places hq=>?_;rcases fJ (fun i=>places[i]?) (h.mono hq) (hv.mono hq).cells with⟨e1,e2⟩|⟨a,b,e1,e2,iE⟩
  .simp only[e1];exact SR.stuck
  .simp only[e1,e2];exact SR.pure iE.agg
 |array n e=>
  refine(SR.sizeOf e).ab fun q size hq=>?_;rcases fJ (fun i=>some (i*size,size)) (h.mono hq) (hv.mono hq).cells with⟨e1,e2⟩|⟨a,b,e1,e2,iE⟩
  .simp only[e1];exact SR.stuck
  .simp only[e1,e2];exact SR.pure iE.agg
 |_=>exact SR.stuck
theorem fB (h:AR S p z z') (n:Nat):AR S p ((Array.range n).map (fun i=>z[i%z.size]!)) ((Array.range n).map (fun i=>z'[i%z'.size]!)):=by
 refine AR.ofFn n _ _ fun i=>?_;rw[<-h.1];simp only[getElem!_def];cases hx:z[i%z.size]? with
 |none=>rw[h.none hx];exact VR.plain 1 _ (by simp[plain,default,instInhabitedValue.default])
 |some v=>obtain⟨v',iD,hr⟩:=h.get hx;rw[iD];exact hr
theorem SR.buildSlice (hz:au P) (t:TypeId) (len:Nat) (h:PL S p ps.toList ze.toList):SR P F S K N (QV S) (Instr.buildSlice t len ps) (Instr.buildSlice t len ze) p:=by
 unfold Instr.buildSlice;refine SR.aM fun d hd=>?_;cases d with
 |slice e=>
  simp only;refine(SR.sizeOf e).ab fun q size hq=>?_;have h:=h.mono hq;split
  .exact SR.unsupported
  .have key:∀(q':Pi) (z z':Array Value),Le q q'->AR S q' z z'->SR P F S K N (QV S)
    (match Instr.fill (fun i=>some (i*size,size)) ((Array.range (len*size)).map (z[·%z.size]!)) ps.toList with
      |some cells=>(Go.newRow e cells>>=fun a=>Pure.pure (Value.slice (some a) len len))
      |_=>Go.stuck "buildSlice: a part of the wrong size")
    (match Instr.fill (fun i=>some (i*size,size)) ((Array.range (len*size)).map (z'[·%z'.size]!)) ze.toList with
      |some cells=>(Go.newRow e cells>>=fun a=>Pure.pure (Value.slice (some a) len len))
      |_=>Go.stuck "buildSlice: a part of the wrong size") q':=by
    intro q' z z' mD km;rcases fJ (fun i=>some (i*size,size)) (h.mono mD) (fB km (len*size))with⟨e1,e2⟩|⟨a,b,e1,e2,iE⟩
    .simp only[e1];exact SR.stuck
    .simp only[e1,e2];exact(SR.newRow e iE).bind fun q a a' hq ha=>SR.pure (ha.1.sl (fun _=>ha.2.2) len len)
   split
   .exact key q #[] #[] (Le.refl _) AR.empty
   .refine(SR.zeroValue hz e).bind fun q2 z z' bd km=>?_;obtain⟨rfl,hv⟩:=km;exact key q2 _ _ bd hv.cells
 |_=>exact SR.stuck
theorem SR.loadAt (t:TypeId) (h:VR S p v v'):SR P F S K N (QV S) (Instr.loadAt t v) (Instr.loadAt t v') p:=
 (SR.sureAddr h).bind fun q a a' hq ha=>SR.loadVar t ha
theorem SR.storeAt (t:TypeId) (h:VR S p v v') (hx:VR S p x x'):SR P F S K N (QE Unit) (Instr.storeAt t v x) (Instr.storeAt t v' x') p:=
 (SR.sureAddr h).bind fun q a a' hq ha=>SR.storeVar t ha (hx.mono hq)
theorem SR.fieldAt (s:TypeId) (f:Nat) (hf:∀fs g i,P.underlying s=some (.struct fs)->fs[f]?=some g->P.info? g.type=some i->i.size≠0) (h:VR S p v v'):
 SR P F S K N (QV S) (Instr.fieldAt s v f) (Instr.fieldAt s v' f) p:=by
 unfold Instr.fieldAt;refine SR.aM fun d hd=>?_;cases d with
 |struct fields=>
  simp only;cases hg:fields[f]? with
  |none=>exact SR.stuck
  |some g=>
   simp only;refine(SR.sureAddr h).bind fun q a a' hq ha=>?_;unfold Go.fieldPlace Go.sizeOf;refine SR.bind (Q:=QD) ?_ fun q b b' hq hb=>SR.pure hb.ptr;show SR P F S K N QD ((Go.typeInfo g.type>>=fun i=>Pure.pure i.size)>>=_) ((Go.typeInfo g.type>>=fun i=>Pure.pure i.size)>>=_) q;refine SR.bind (Q:=fun _ (a b:Nat)=>a=b/\a≠0) (SR.fw fun i hi=>SR.pure ⟨rfl,hf fields g i hd hg hi⟩) fun q n n' hq hn=>?_;obtain⟨rfl,hn⟩:=hn;simp only[hn,if_false];exact SR.pure ((ha.mono hq).add _)
 |_=>exact SR.stuck
theorem SR.field (t:TypeId) (f:Nat) (h:VR S p v v'):SR P F S K N (QV S) (Instr.field t v f) (Instr.field t v' f) p:=by
 unfold Instr.field;refine SR.aM fun d hd=>?_;cases d with
 |struct fields=>
  simp only;cases hg:fields[f]? with
  |none=>exact SR.stuck
  |some g=>exact(SR.asAgg h).bind fun q a a' hq ha=>SR.part _ ha _
 |_=>exact SR.stuck
theorem SR.index (t:TypeId) (h:VR S p v v') (hi:VR S p i i'):SR P F S K N (QV S) (Instr.index t v i) (Instr.index t v' i') p:=by
 unfold Instr.index;refine(SR.asIntOf hi).ab fun q ki hq=>?_;obtain⟨k,n⟩:=ki;have h:=h.mono hq;refine SR.aM fun d hd=>?_;cases d with
 |array len elem=>
  cases h with
  |agg hx gx=>
   simp only;split
   .exact(SR.sizeOf elem).ab fun q m hq=>SR.part elem (AR.mono hq ⟨hx,gx⟩) _
   .exact SR.boundsPanic _ _ _ _
  |_=>exact SR.stuck
 |string=>
  cases h with
  |string s=>
   simp only;split
   .exact SR.pure (.int _ _)
   .exact SR.boundsPanic _ _ _ _
  |_=>exact SR.stuck
 |_=>cases h<;>exact SR.stuck
theorem SR.sliceBound (x x':Value) (h:VR S p x x') (y:Nat) (c:BoundsCode):SR P F S K N (QE Nat) (Instr.sliceBound x y c) (Instr.sliceBound x' y c) p:=by
 unfold Instr.sliceBound;refine(SR.asIntOf h).ab fun q ki hq=>?_;obtain⟨k,n⟩:=ki;simp only;split
 .exact SR.pure rfl
 .exact SR.boundsPanic _ _ _ _
def OV (S:Nat->Bool) (p:Pi):Option Value->Option Value->Prop
 |none,none=>True
 |some v,some v'=>VR S p v v'
 |_,_=>False
theorem OV.mono (h:Le p q) {a b:Option Value} (x:OV S p a b):OV S q a b:=by
 cases a<;>cases b<;>first|trivial|exact x.elim|exact VR.mono h x
theorem SR.sliceBounds (b:Bool) (len cap:Nat) (h1:OV S p lo nP) (h2:OV S p hi lT) (h3:OV S p mx ng):
 SR P F S K N (QE (Nat×Nat×Nat)) (Instr.sliceBounds b len cap lo hi mx) (Instr.sliceBounds b len cap nP lT ng) p:=by
 have hb:∀(q:Pi) (x x':Value) (y:Nat) (c:BoundsCode) (f f':Nat->Sem (Nat×Nat×Nat)),Le p q->VR S p x x'->(∀q' n,Le p q'->SR P F S K N (QE (Nat×Nat×Nat)) (f n) (f' n) q')->SR P F S K N (QE (Nat×Nat×Nat)) (Instr.sliceBound x y c>>=f) (Instr.sliceBound x' y c>>=f') q:=
  fun q x x' y c f f' hq hx hf=>(SR.sliceBound x x' (hx.mono hq) y c).ab fun q' n mD=>hf q' n (hq.trans mD)
 cases mx<;>cases ng<;>(try exact h3.elim)<;>cases hi<;>cases lT<;>(try exact h2.elim)<;>cases lo<;>cases nP<;>(try exact h1.elim)
 .exact SR.pure rfl
 .exact hb p _ _ _ _ _ _ (Le.refl _) h1 fun q n hq=>SR.pure rfl
 .exact hb p _ _ _ _ _ _ (Le.refl _) h2 fun q n hq=>SR.pure rfl
 .exact hb p _ _ _ _ _ _ (Le.refl _) h2 fun q n hq=>hb q _ _ _ _ _ _ hq h1 fun q n hq=>SR.pure rfl
 .exact hb p _ _ _ _ _ _ (Le.refl _) h3 fun q n hq=>SR.stuck
 .exact hb p _ _ _ _ _ _ (Le.refl _) h3 fun q n hq=>SR.stuck
 .exact hb p _ _ _ _ _ _ (Le.refl _) h3 fun q n hq=>hb q _ _ _ _ _ _ hq h2 fun q n hq=>SR.pure rfl
 .exact hb p _ _ _ _ _ _ (Le.refl _) h3 fun q n hq=>hb q _ _ _ _ _ _ hq h2 fun q n hq=>hb q _ _ _ _ _ _ hq h1 fun q n hq=>SR.pure rfl
theorem SR.rX (x x':Value) (h:VR S p x x') {y y':Nat} (hy:y<=y') (c:BoundsCode):SR P F S K N (QE Nat) (Instr.sliceBound x y c) (Instr.sliceBound x' y' c) p:=by
 unfold Instr.sliceBound;refine(SR.asIntOf h).ab fun q ki hq=>?_;obtain⟨k,n⟩:=ki;simp only;by_cases h1:0<=n/\n<=(y:Int)
 .have h2:0<=n/\n<=(y':Int):=⟨h1.1,by omega⟩
  rw[if_pos h1,if_pos h2];exact SR.pure rfl
 .rw[if_neg h1];unfold Go.boundsPanic;simp only;split
  .exact fun _=>trivial
  .exact fun _=>.inl trivial
theorem SR.pG (len:Nat) {cap dO:Nat} (hc:cap<=dO) (h1:OV S p lo nP) (h2:OV S p hi lT) (h3:OV S p mx ng):
 SR P F S K N (fun _ a b=>a.1=b.1/\a.2.1=b.2.1/\(a.2.2=b.2.2\/(a.2.2=cap/\b.2.2=dO/\mx=none))) (Instr.sliceBounds true len cap lo hi mx) (Instr.sliceBounds true len dO nP lT ng) p:=by
 have hb:∀(mx:Option Value) (q:Pi) (x x':Value) (y y':Nat) (c:BoundsCode) (f f':Nat->Sem (Nat×Nat×Nat)),y<=y'->Le p q->VR S p x x'->(∀q' n,Le p q'->SR P F S K N (fun _ a b=>a.1=b.1/\a.2.1=b.2.1/\(a.2.2=b.2.2\/(a.2.2=cap/\b.2.2=dO/\mx=none))) (f n) (f' n) q')->SR P F S K N (fun _ a b=>a.1=b.1/\a.2.1=b.2.1/\(a.2.2=b.2.2\/(a.2.2=cap/\b.2.2=dO/\mx=none))) (Instr.sliceBound x y c>>=f) (Instr.sliceBound x' y' c>>=f') q:=
  fun mx q x x' y y' c f f' hy hq hx hf=>(SR.rX x x' (hx.mono hq) hy c).ab fun q' n mD=>hf q' n (hq.trans mD)
 have l0:∀n:Nat,n<=n:=fun n=>Nat.le_refl n;cases mx<;>cases ng<;>(try exact h3.elim)<;>cases hi<;>cases lT<;>(try exact h2.elim)<;>cases lo<;>cases nP<;>(try exact h1.elim)
 .exact SR.pure ⟨rfl,rfl,.inr ⟨rfl,rfl,rfl⟩⟩
 .exact hb _ p _ _ _ _ _ _ _ (l0 _) (Le.refl _) h1 fun q n hq=>SR.pure ⟨rfl,rfl,.inr ⟨rfl,rfl,rfl⟩⟩
 .exact hb _ p _ _ _ _ _ _ _ hc (Le.refl _) h2 fun q n hq=>SR.pure ⟨rfl,rfl,.inr ⟨rfl,rfl,rfl⟩⟩
 .exact hb _ p _ _ _ _ _ _ _ hc (Le.refl _) h2 fun q n hq=>hb _ q _ _ _ _ _ _ _ (l0 _) hq h1 fun q n hq=>SR.pure ⟨rfl,rfl,.inr ⟨rfl,rfl,rfl⟩⟩
 .exact hb _ p _ _ _ _ _ _ _ hc (Le.refl _) h3 fun q n hq=>SR.stuck
 .exact hb _ p _ _ _ _ _ _ _ hc (Le.refl _) h3 fun q n hq=>SR.stuck
 .exact hb _ p _ _ _ _ _ _ _ hc (Le.refl _) h3 fun q n hq=>hb _ q _ _ _ _ _ _ _ (l0 _) hq h2 fun q n hq=>SR.pure ⟨rfl,rfl,.inl rfl⟩
 .exact hb _ p _ _ _ _ _ _ _ hc (Le.refl _) h3 fun q n hq=>hb _ q _ _ _ _ _ _ _ (l0 _) hq h2 fun q n hq=>hb _ q _ _ _ _ _ _ _ (l0 _) hq h1 fun q n hq=>SR.pure ⟨rfl,rfl,.inl rfl⟩
theorem fK {a a':Option Addr} {c':Nat} (h:VR S p (.slice a l c) (.slice a' l' c')):l=l'/\((a=none/\a'=none/\c=c')\/(∃b b',a=some b/\a'=some b'/\cx p b b'/\((c=c'/\(S 999999=true->∀k,¬p.x b.block k))\/(0<c/\b.spot=none/\∃k,p.x b.block k/\c'=c+k)))\/(l=0/\c=0/\∃b b',a=some b/\a'=some b'/\b.spot=some 0)):=by
 cases h with
 |bA=>exact⟨rfl,.inl ⟨rfl,rfl,rfl⟩⟩
 |slice o sp l c g hX=>exact⟨rfl,.inr (.inl ⟨_,_,rfl,rfl,⟨g,rfl,rfl⟩,.inl ⟨rfl,hX⟩⟩)⟩
 |dg o l g h0 hx=>exact⟨rfl,.inr (.inl ⟨_,_,rfl,rfl,⟨g,rfl,rfl⟩,.inr ⟨h0,rfl,_,hx,rfl⟩⟩)⟩
 |bF o o' c' g=>exact⟨rfl,.inr (.inr ⟨rfl,rfl,_,_,rfl,rfl,rfl⟩)⟩
theorem cx.TT {p:Pi} (x:cx p a a') (hs:a.spot=none) (l:Nat) (h0:0<c) (hx:p.x a.block k):VR S p (.slice (some a) l c) (.slice (some a') l (c+k)):=by
 obtain⟨b,o,sp⟩:=a;obtain⟨b',o',Oh⟩:=a';obtain⟨h1,h2,h3⟩:=x;simp only at h1 h2 h3 hs;subst h2;subst h3;subst hs;exact .dg o l h1 h0 hx
theorem dX (a:Addr) (n:Nat):(a.add n).block=a.block:=by unfold Addr.add;split<;>rfl
theorem lg (a:Addr) (n:Nat) (h:a.spot=none):(a.add n).spot=none:=by unfold Addr.add;split<;>simp_all
def Eu (q:Pi) (x v v':Value):Prop:=(∃b l c,x=.slice b l c)/\∃a a' l c',v=.slice (some a) l 0/\v'=.slice (some a') l c'/\q a.block a'.block/\a'.spot=none
theorem SR.slice (ye:S 999999=false) (t:TypeId) {x x':Value} {lo nP hi lT mx ng:Option Value} (hx:VR S p x x') (hE:∀b l c,x=.slice (some b) l c->b.spot=none) (h1:OV S p lo nP) (h2:OV S p hi lT) (h3:OV S p mx ng):
 SR P F S K N (fun q v v'=>VR S q v v'\/(mx=none/\Eu q x v v')) (Instr.slice t x lo hi mx) (Instr.slice t x' nP lT ng) p:=by
 unfold Instr.slice;refine SR.aM fun d hd=>?_
 have nQ:∀arr,SR P F S K N (fun q v v'=>VR S q v v'\/(mx=none/\Eu q x v v')) (do
  let a<-Go.asAddr x
  let .array n elem<-Go.underlying arr|Go.stuck "Slice: array type expected"
  let(l,h,m)<-Instr.sliceBounds false n n lo hi mx
  let size<-Go.sizeOf elem
  Pure.pure (Value.slice (some (if m=l then a else a.add (l*size))) (h-l) (m-l))) (do
  let a<-Go.asAddr x'
  let .array n elem<-Go.underlying arr|Go.stuck "Slice: array type expected"
  let(l,h,m)<-Instr.sliceBounds false n n nP lT ng
  let size<-Go.sizeOf elem
  Pure.pure (Value.slice (some (if m=l then a else a.add (l*size))) (h-l) (m-l))) p:=by
  intro arr;refine(SR.asAddr hx).bind fun q a a' hq ha=>?_;refine SR.aM fun d hd=>?_;cases d with
  |array n elem=>
   simp only;refine(SR.sliceBounds false n n (h1.mono hq) (h2.mono hq) (h3.mono hq)).ab fun q2 b bd=>?_;obtain⟨l,h,m⟩:=b;simp only;refine(SR.sizeOf elem).ab fun q3 s dK=>?_;have ha:=(ha.mono bd).mono dK;split
   .exact SR.pure (.inl (ha.sl (fun h=>by rw[ye]at h;cases h) _ _))
   .exact SR.pure (.inl ((ha.add _).sl (fun h=>by rw[ye]at h;cases h) _ _))
  |_=>exact SR.stuck
 cases d with
 |string=>
  cases hx with
  |string s=>
   simp only;cases mx<;>cases ng<;>first|exact h3.elim|skip
   .simp only[Option.isSome_none,Bool.false_eq_true,if_false];refine(SR.sliceBounds false _ _ h1 h2 h3).ab fun q2 b bd=>?_;exact SR.pure (.inl (.string _))
   .simp only[Option.isSome_some,if_true];exact SR.stuck
  |_=>exact SR.stuck
 |slice elem=>
  cases x<;>cases x'<;>first|(cases hx;done)|exact SR.stuck|skip
  rename_i a len cap a' Im dO;obtain⟨rfl,hs⟩:=fK hx;simp only;have iX:∀{q:Pi} {r:Nat},S 999999=true->∀k,¬q.x r k:=fun h=>by rw[ye]at h;cases h
  rcases hs with⟨rfl,rfl,rfl⟩|⟨b,b',rfl,rfl,hb,⟨rfl,_⟩|⟨h0,jX,k,P0,rfl⟩⟩|⟨rfl,rfl,b,b',rfl,rfl,jX⟩
  .refine(SR.sliceBounds true len cap h1 h2 h3).ab fun q2 b bd=>?_;obtain⟨l,h,m⟩:=b;simp only;refine(SR.sizeOf elem).ab fun q3 s dK=>?_;split<;>exact SR.pure (.inl (.bA _ _))
  .refine(SR.sliceBounds true len cap h1 h2 h3).ab fun q2 b bd=>?_;obtain⟨l,h,m⟩:=b;simp only;refine(SR.sizeOf elem).ab fun q3 s dK=>?_;have hb:=(hb.mono bd).mono dK;split
   .exact SR.pure (.inl (hb.sl iX _ _))
   .exact SR.pure (.inl ((hb.add _).sl iX _ _))
  .refine(SR.pG len (Nat.le_add_right cap k) h1 h2 h3).bind fun q2 x y bd rk=>?_;obtain⟨l,h,m⟩:=x;obtain⟨l',h',m'⟩:=y;obtain⟨e1,e2,e3⟩:=rk;simp only at e1 e2 e3;subst e1;subst e2;simp only;refine(SR.sizeOf elem).ab fun q3 s dK=>?_;have hb:=(hb.mono bd).mono dK;have P0:=dK.x _ _ (bd.x _ _ P0);rcases e3 with e3|⟨e3,e4,e5⟩
   .subst e3;split
    .exact SR.pure (.inl (hb.sl iX _ _))
    .exact SR.pure (.inl ((hb.add _).sl iX _ _))
   .subst e3;subst e4;rcases Nat.lt_or_ge l m with hl|hl
    .have n1:¬m=l:=by omega
     have n2:¬m+k=l:=by omega
     rw[if_neg n1,if_neg n2];have e:m+k-l=(m-l)+k:=by omega
     rw[e];exact SR.pure (.inl ((hb.add _).TT (lg _ _ jX) _ (by omega) (by rw[dX];exact P0)))
    .have:m-l=0:=by omega
     have zx:b'.spot=none:=hb.2.2.symm.trans jX;refine SR.pure (.inr ⟨e5,⟨_,_,_,rfl⟩,?_⟩);rw[this];refine⟨if m=l then b else b.add (l*s),if m+k=l then b' else b'.add (l*s),h-l,m+k-l,?_,?_,?_,?_⟩
     .split<;>rfl
     .split<;>rfl
     .have h1:(if m=l then b else b.add (l*s)).block=b.block:=by split<;>simp only[dX]
      have h2:(if m+k=l then b' else b'.add (l*s)).block=b'.block:=by split<;>simp only[dX]
      rw[h1,h2];exact hb.1
     .split
      .exact zx
      .exact lg _ _ zx
  .have:=hE _ _ _ rfl;rw[jX]at this;cases this
 |pointer arr=>exact nQ arr
 |_=>cases hx<;>exact SR.stuck
end
def aL (P:Program):Nat->TypeId->Bool
 |0,_=>false
 |n+1,t=>match P.underlying t with
  |some .bool|some (.int _)|some .string=>true
  |some (.slice _)=>true
  |some (.struct fs)=>!P.stoodInHeld t&&fs.all fun f=>aL P n f.type
  |some (.array _ e)=>aL P n e
  |_=>false
def ai (P:Program):Prop:=∀t i u,P.info? t=some i->i.desc≠ .named "sync.copyChecker" u
section
variable {P:Program} {F:Array Func} {S:Nat->Bool} {K:Kz} {N:Nat} {p:Pi}
theorem SR.fL (f f':α->β->Sem (ForInStep β)):∀(l:List α),(∀x,x∈l->∀b q,Le p q->SR P F S K N (QE (ForInStep β)) (f x b) (f' x b) q)->∀(b:β) (q:Pi),Le p q->SR P F S K N (QE β) (forIn l b f) (forIn l b f') q
 | [],_,b,q,hq=>SR.pure rfl
 |x::l,h,b,q,hq=>by
  simp only[List.forIn_cons];refine(h x (by simp) b q hq).ab fun q' r mD=>?_;cases r with
  |done b=>exact SR.pure rfl
  |yield b=>exact SR.fL f f' l (fun y hy=>h y (by simp[hy])) b q' (hq.trans mD)
def NR (p:Pi):Option (Addr×Bool)->Option (Addr×Bool)->Prop
 |none,none=>True
 |some x,some y=>cx p x.1 y.1/\x.2=y.2
 |_,_=>False
theorem SR.numberAt (h:p r r'):SR P F S K N (fun q a b=>NR q a b) (Go.numberAt r) (Go.numberAt r') p:=by
 unfold Go.numberAt;refine(SR.shape h).ab fun q x hq=>?_;cases x with
 |some y=>exact SR.pure trivial
 |none=>
  refine(SR.getObj (hq _ _ h)).bind fun q o o' hq ho=>?_;cases ho with
  |number l h=>exact SR.pure ⟨h,rfl⟩
  |_=>exact SR.pure trivial
theorem SR.viewAt (h:p r r'):SR P F S K N (fun _ a b=>a=none/\b=none) (Go.viewAt r) (Go.viewAt r') p:=by
 unfold Go.viewAt;refine(SR.shape h).ab fun q x hq=>?_;cases x with
 |some y=>exact SR.pure ⟨rfl,rfl⟩
 |none=>
  refine(SR.getObj (hq _ _ h)).bind fun q o o' hq ho=>?_;cases ho<;>exact SR.pure ⟨rfl,rfl⟩
theorem SR.behindNumber (h:cx p a a'):SR P F S K N (fun q x y=>cx q x.1 y.1/\x.2=y.2) (Go.behindNumber a) (Go.behindNumber a') p:=by
 unfold Go.behindNumber;refine(SR.numberAt h.1).bind fun q x y hq rk=>SR.pure ?_;cases x<;>cases y<;>first|exact rk.elim|exact⟨h.mono hq,rfl⟩|exact rk
theorem SR.byteOf (h:cx p a a'):SR P F S K N (QE Nat) (Go.byteOf a) (Go.byteOf a') p:=by
 unfold Go.byteOf;rw[<-h.2.2];cases hs:a.spot with
 |some s=>exact SR.pure rfl
 |none=>
  refine SR.d9 ?_;try simp only[bY,aA,bN,aC,aD,aT,aU,bG]
  unfold Go.noView;refine SR.bind (Q:=QE Unit) ?_ fun q _ _ hq _=>?_
  .exact(SR.viewAt h.1).bind fun q x y hq rk=>by rw[rk.1,rk.2];exact SR.pure rfl
  .refine(SR.shape (hq _ _ h.1)).ab fun q x hq=>?_;cases x with
   |none=>exact SR.stuck
   |some x=>
    obtain⟨e,n⟩:=x;simp only;rw[<-h.2.1];split
    .exact SR.pure rfl
    .split
     .exact SR.pure rfl
     .exact SR.stuck
theorem SR.equalIn (hc:ai P):∀(d n:Nat) (t:TypeId) {p:Pi} {x x' y y':Value},aL P n t=true->VR S p x x'->VR S p y y'->SR P F S K N (QE Bool) (Op.equalIn d t x y) (Op.equalIn d t x' y') p
 |0,_,_,_,_,_,_,_,_,_,_=>SR.unsupported
 |d+1,0,_,_,_,_,_,_,h,_,_=>by simp[aL]at h
 |d+1,n+1,t,p,x,x',y,y',ht,hx,hy=>by
  simp only[Op.equalIn];refine SR.aM fun u hu=>?_;simp only[aL,hu]at ht;cases u with
  |bool=>cases hx<;>cases hy<;>first|exact SR.pure rfl|exact SR.stuck
  |string=>cases hx<;>cases hy<;>first|exact SR.pure rfl|exact SR.stuck
  |int k=>
   cases hx<;>first|exact SR.stuck|(cases hy<;>first|exact SR.stuck|exact SR.unsupported|skip)
   .rename_i k1 a k2 b;simp only;split
    .exact SR.pure rfl
    .exact SR.stuck
   .rename_i k1 a r r' o sp h;rcases a with(_|a)|a<;>first|exact SR.pure rfl|exact SR.unsupported
   .rename_i r r' o sp h k1 a;rcases a with(_|a)|a<;>first|exact SR.pure rfl|exact SR.unsupported
   .rename_i r r' o sp h r2 nR o2 fM h2;intro hp;refine(SR.behindNumber (a:=⟨r,o,sp⟩) (a':=⟨r',o,sp⟩) ⟨h,rfl,rfl⟩).bind (fun q a a' hq ha=>?_) hp;refine(SR.behindNumber (a:=⟨r2,o2,fM⟩) (a':=⟨nR,o2,fM⟩) ⟨hq _ _ h2,rfl,rfl⟩).bind fun q2 b b' bd hb=>?_;have ha:=ha.1.mono bd;have hb:=hb.1;refine SR.d9 ?_;try simp only[bY,aA,bN,aC,aD,aT,aU,bG]
    intro vA;by_cases hg:(a.1.block==b.1.block&&decide (a.1.block<P.globals.size))=true
    .have pz:(a'.1.block==b'.1.block&&decide (a'.1.block<P.globals.size))=true:=by
      simp only[Bool.and_eq_true,beq_iff_eq,decide_eq_true_eq]at hg⊢;exact⟨(vA.1 _ _ _ _ ha.1 hb.1 hg.2).1 hg.1,(vA.2.1 _ _ ha.1).1 hg.2⟩
     simp only[hg,pz,if_true];exact(SR.byteOf ha).ab (fun q x hq=>(SR.byteOf (hb.mono hq)).ab fun q y hq=>SR.pure rfl) vA
    .simp only[hg,if_false,Bool.false_eq_true];by_cases pz:(a'.1.block==b'.1.block&&decide (a'.1.block<P.globals.size))=true
     .refine absurd ?_ hg;simp only[Bool.and_eq_true,beq_iff_eq,decide_eq_true_eq]at pz⊢;exact⟨(vA.1 _ _ _ _ ha.1 hb.1 ((vA.2.1 _ _ ha.1).2 pz.2)).2 pz.1,(vA.2.1 _ _ ha.1).2 pz.2⟩
     .simp only[pz,if_false,Bool.false_eq_true];refine SR.fw (fun i hi=>?_) vA;have bC:=fun u=>hc t i u hi;generalize i.desc=ds at bC;cases ds<;>first|exact SR.unsupported|skip
      rename_i nm u;by_cases AL:nm= "sync.copyChecker"
      .subst AL;exact absurd rfl (bC u)
      .split
       .rename_i h3;exact absurd (by simpa using h3) (bC _)
       .exact SR.unsupported
  |slice e=>cases hx<;>cases hy<;>first|exact SR.pure rfl|exact SR.stuck
  |struct fs=>
   simp only[Bool.and_eq_true,Bool.not_eq_true']at ht;cases hx<;>first|exact SR.stuck|(cases hy<;>first|exact SR.stuck|skip)
   rename_i xs aQ pl vM ys rf In Io;have ax:AR S p xs aQ:=⟨pl,vM⟩
   have ay:AR S p ys rf:=⟨In,Io⟩
   simp only;refine SR.d9 ?_;try simp only[bY,aA,bN,aC,aD,aT,aU,bG]
   simp only[ht.1,Bool.false_eq_true,if_false]
   refine SR.ab (α:=Option Bool×Unit) ?_ fun q r hq=>by
    split<;>exact SR.pure rfl
   rw[<-Array.forIn_toList,<-Array.forIn_toList]
   have aG:∀f∈fs.toList,aL P n f.type=true:=fun f hf=>by
    obtain⟨i,hi,he⟩:=List.getElem_of_mem hf;have:=Array.all_eq_true.1 ht.2 i (by simpa using hi);rw[<-he];simpa using this
   refine SR.fL (p:=p) _ _ fs.toList (fun f hf b q2 bd=>?_) _ p (Le.refl _);have ax:=ax.mono bd;have ay:=ay.mono bd;split
   .refine(SR.part f.type ax _).bind fun q3 u u' dK Ip=>?_;refine(SR.part f.type (ay.mono dK) _).bind fun q4 v v' pA Iq=>?_;refine(SR.equalIn hc d n f.type (aG f hf) (Ip.mono pA) Iq).ab fun q5 c DO=>?_;split<;>exact SR.pure rfl
   .exact SR.pure rfl
  |array len e=>
   cases hx<;>first|exact SR.stuck|(cases hy<;>first|exact SR.stuck|skip)
   rename_i xs aQ pl vM ys rf In Io;have ax:AR S p xs aQ:=⟨pl,vM⟩
   have ay:AR S p ys rf:=⟨In,Io⟩
   simp only;refine(SR.sizeOf e).ab fun q m hq=>?_
   refine SR.ab (α:=Option Bool×Unit) ?_ fun q r hq=>by
    split<;>exact SR.pure rfl
   simp only[Std.Legacy.Range.forIn_eq_forIn_range'];refine SR.fL (p:=q) _ _ _ (fun i hi b q2 bd=>?_) _ q (Le.refl _);have ax:=(ax.mono hq).mono bd;have ay:=(ay.mono hq).mono bd;refine(SR.part e ax _).bind fun q3 u u' dK Ip=>?_;refine(SR.part e (ay.mono dK) _).bind fun q4 v v' pA Iq=>?_;refine(SR.equalIn hc d n e ht (Ip.mono pA) Iq).ab fun q5 c DO=>?_;split<;>exact SR.pure rfl
  |_=>cases ht
end
section
variable {P:Program} {F:Array Func} {S:Nat->Bool} {K:Kz} {N:Nat} {p:Pi}
theorem SR.intArith (op:BinOp) (k:IntKind) (x y:Int):SR P F S K N (QV S) (Op.intArith op k x y) (Op.intArith op k x y) p:=by
 cases op<;>first|exact SR.pure (.int _ _)|exact SR.stuck
theorem SR.intDiv (op:BinOp) (k:IntKind) (x y:Int):SR P F S K N (QV S) (Op.intDiv op k x y) (Op.intDiv op k x y) p:=by
 unfold Op.intDiv;split
 .exact SR.err _
 .cases op<;>first|exact SR.pure (.int _ _)|exact SR.stuck
theorem SR.intBits (op:BinOp) (k:IntKind) (x y:Int):SR P F S K N (QV S) (Op.intBits op k x y) (Op.intBits op k x y) p:=by
 cases op<;>first|exact SR.pure (.int _ _)|exact SR.stuck
theorem SR.intCmp (op:BinOp) (x y:Int):SR P F S K N (QV S) (Op.intCmp op x y) (Op.intCmp op x y) p:=by
 cases op<;>first|exact SR.pure (.bool _)|exact SR.stuck
theorem SR.shift (op:BinOp) (k:IntKind) (x:Int) (k':IntKind) (y:Int):SR P F S K N (QV S) (Op.shift op k x k' y) (Op.shift op k x k' y) p:=by
 unfold Op.shift;split
 .exact SR.err _
 .cases op<;>first|exact SR.pure (.int _ _)|exact SR.stuck
theorem SR.stringOp (op:BinOp) (x y:ByteArray):SR P F S K N (QV S) (Op.stringOp op x y) (Op.stringOp op x y) p:=by
 cases op<;>first|exact SR.pure (.bool _)|exact SR.stuck|skip
 unfold Op.stringOp;simp only;split
 .exact SR.unsupported
 .exact SR.pure (.string _)
theorem SR.unary (op:UnOp) (h:VR S p x x'):SR P F S K N (QV S) (Op.unary op x) (Op.unary op x') p:=by
 cases op<;>cases h<;>first|exact SR.pure (.bool _)|exact SR.unsupported|exact SR.stuck|skip
 .rename_i k n;exact SR.intArith .sub k 0 n
 .rename_i k n;exact SR.intBits .xor k (if k.signed then-1 else k.max) n
theorem SR.unsafeAdd {ts PC:Array TypeId} {t':TypeId} (h:cx p a a') (hy:VR S p y y'):SR P F S K N (QV S) (Builtin.unsafeAdd_ ts t #[.pointer (some a),y]) (Builtin.unsafeAdd_ PC t' #[.pointer (some a'),y']) p:=by
 rw[bi,bi];refine(SR.asInt hy).ab fun q n hq=>?_;have h:=h.mono hq;refine SR.ite (fun _=>?_) fun _=>SR.ite (fun _=>SR.unsupported) fun _=>?_
 .exact(SR.viewAt h.1).bind fun q x y hq rk=>by
   rw[rk.1,rk.2];exact SR.pure (h.mono hq).ptr
 .refine(SR.shape h.1).ab fun q x hq=>?_;cases x with
  |none=>exact SR.unsupported
  |some x=>
   obtain⟨e,cells⟩:=x;refine SR.d9 ?_;try simp only[bY,aA,bN,aC,aD,aT,aU,bG]
   simp only[<-h.2.1];split
   .rename_i off _;exact SR.pure (cx.ptr (a:={a with off}) (a':={a' with off}) ⟨hq _ _ h.1,rfl,h.2.2⟩)
   .exact SR.unsupported
theorem SR.asNumber (h:cx p a a') (l:Bool):SR P F S K N (QV S) (Go.asNumber a l) (Go.asNumber a' l) p:=by
 unfold Go.asNumber;exact(SR.newObj (.number l h) fun _ _ _ _ _ _ a=>by cases a).bind fun q r r' hq hr=>SR.pure (.ptr 0 none hr.1)
theorem SR.movedNumber (t:TypeId) (hx:VR S p x x') (hy:VR S p y y'):SR P F S K N (QV S) (Go.movedNumber t x y) (Go.movedNumber t x' y') p:=by
 unfold Go.movedNumber;refine SR.aM fun d hd=>?_;dsimp only;refine SR.ite (fun _=>SR.unsupported) fun _=>?_;cases x with
 |pointer a=>
  cases a with
  |none=>
   cases hx;show SR P F S K N (QV S) (Builtin.unsafeAdd_ #[] t #[.pointer none,y]) (Builtin.unsafeAdd_ #[] t #[.pointer none,y']) p;show SR P F S K N (QV S) (Go.asInt y>>=_) (Go.asInt y'>>=_) p;refine(SR.asInt hy).ab fun q n hq=>?_;dsimp only;refine SR.ite (fun _=>SR.unsupported) fun _=>SR.ite (fun _=>SR.unsupported) fun _=>SR.unsupported
  |some a=>
   obtain⟨r,o,sp⟩:=a;cases hx with
   |ptr _ _ h=>
   rename_i r';refine(SR.behindNumber (a:=⟨r,o,sp⟩) (a':=⟨r',o,sp⟩) ⟨h,rfl,rfl⟩).bind fun q a a' hq ha=>?_;obtain⟨a,l⟩:=a;obtain⟨a',l'⟩:=a';obtain⟨ha,hl⟩:=ha;simp only at hl ha;subst hl;simp only;refine(SR.unsafeAdd ha (hy.mono hq)).bind fun q v v' hq hv=>?_;have P1:=hv;cases hv with
   |ptr o sp h=>exact SR.asNumber (a:=⟨_,o,sp⟩) (a':=⟨_,o,sp⟩) ⟨h,rfl,rfl⟩ l
   |_=>exact SR.pure P1
 |_=>
  cases hx<;>exact(SR.stuck:SR P F S K N (QV S) (Go.stuck "unsafe.Add: a pointer and an integer expected") _ p)
theorem SR.twoPlaces {b b':Addr} (ha:cx p a a') (hb:cx p b b'):SR P F S K N (QE (Nat×Nat)) (Op.twoPlaces a b) (Op.twoPlaces a' b') p:=by
 unfold Op.twoPlaces;refine SR.d9 ?_;try simp only[bY,aA,bN,aC,aD,aT,aU,bG]
 intro hp
 have e:(a.block !=b.block||decide (a.block>=P.globals.size))=(a'.block !=b'.block||decide (a'.block>=P.globals.size)):=by
  have h1:=hp.1 _ _ _ _ ha.1 hb.1;have h2:=hp.2.1 _ _ ha.1;rw[Bool.eq_iff_iff];simp only[Bool.or_eq_true,bne_iff_ne,decide_eq_true_eq,ne_eq];by_cases hg:a.block<P.globals.size
  .have h1:=h1 hg;omega
  .omega
 rw[e];revert hp;show SR P F S K N (QE (Nat×Nat)) _ _ p;try dsimp only
 refine SR.ite (fun _=>SR.unsupported) fun _=>?_;exact(SR.byteOf ha).ab fun q x hq=>(SR.byteOf (hb.mono hq)).ab fun q y hq=>SR.pure rfl
theorem SR.addrSub (k:IntKind) {b b':Addr} (ha:cx p a a') (hb:cx p b b'):SR P F S K N (QV S) (Op.addrSub k a b) (Op.addrSub k a' b') p:=
 (SR.twoPlaces ha hb).ab fun q x hq=>SR.pure (.int _ _)
theorem SR.addrCmp (op:BinOp) {b b':Addr} (ha:cx p a a') (hb:cx p b b'):SR P F S K N (QV S) (Op.addrCmp op a b) (Op.addrCmp op a' b') p:=by
 refine(SR.twoPlaces ha hb).ab fun q x hq=>?_;cases op<;>first|exact SR.pure (.bool _)|exact SR.unsupported
theorem SR.addrMod (k:IntKind) (ha:cx p a a') (n:Int):SR P F S K N (QV S) (Op.addrMod k a n) (Op.addrMod k a' n) p:=by
 unfold Op.addrMod;refine(SR.shape ha.1).ab fun q x hq=>?_;cases x with
 |none=>exact SR.unsupported
 |some x=>
  obtain⟨e,m⟩:=x;simp only;refine SR.fw fun i hi=>?_;refine SR.ite (fun _=>SR.unsupported) fun _=>?_;exact(SR.byteOf (ha.mono hq)).ab fun q x hq=>SR.pure (.int _ _)
theorem SR.equal (hc:ai P) (ht:aL P n t=true) (hx:VR S p x x') (hy:VR S p y y'):SR P F S K N (QE Bool) (Op.equal t x y) (Op.equal t x' y') p:=
 SR.equalIn hc _ n t ht hx hy
def ee (P:Program) (op:BinOp) (t:TypeId):Bool:=
 match op with
 |.eql|.neq=>aL P 10 t&&!P.eqGuardType P.depth t
 |.add|.sub=>match P.underlying t with|some .unsafePointer=>false|_=>true
 |_=>true
end
section
variable {P:Program} {F:Array Func} {S:Nat->Bool} {K:Kz} {N:Nat} {p:Pi}
theorem SR.vN (op:BinOp) (t:TypeId) (k k':IntKind) (a b:Int):SR P F S K N (QV S) (Go.binOp op t (.int k a) (.int k' b)) (Go.binOp op t (.int k a) (.int k' b)) p:=by
 have key:∀(s:Sem Value),SR P F S K N (QV S) s s p->SR P F S K N (QV S) (if k≠k' then Go.stuck "BinOp: operands of different kinds" else s) (if k≠k' then Go.stuck "BinOp: operands of different kinds" else s) p:=fun s h=>SR.ite (fun _=>SR.stuck) fun _=>h;cases op;case shl=>exact SR.shift .shl k a k' b
 case shr=>exact SR.shift .shr k a k' b
 case quo=>exact key _ (SR.intDiv .quo k a b)
 case rem=>exact key _ (SR.intDiv .rem k a b)
 case add=>exact key _ (SR.intArith .add k a b)
 case sub=>exact key _ (SR.intArith .sub k a b)
 case mul=>exact key _ (SR.intArith .mul k a b)
 case and=>exact key _ (SR.intBits .and k a b)
 case or=>exact key _ (SR.intBits .or k a b)
 case xor=>exact key _ (SR.intBits .xor k a b)
 case andNot=>exact key _ (SR.intBits .andNot k a b)
 all_goals exact key _ (SR.intCmp _ a b)
theorem SR.vO (op:BinOp) (t:TypeId) (a b:ByteArray):SR P F S K N (QV S) (Go.binOp op t (.string a) (.string b)) (Go.binOp op t (.string a) (.string b)) p:=by
 cases op;case add=>exact SR.stringOp .add a b
 case sub=>exact SR.stringOp .sub a b
 case mul=>exact SR.stringOp .mul a b
 case quo=>exact SR.stringOp .quo a b
 case rem=>exact SR.stringOp .rem a b
 case and=>exact SR.stringOp .and a b
 case or=>exact SR.stringOp .or a b
 case xor=>exact SR.stringOp .xor a b
 case andNot=>exact SR.stringOp .andNot a b
 case shl=>exact SR.stringOp .shl a b
 case shr=>exact SR.stringOp .shr a b
 case eql=>exact SR.stringOp .eql a b
 case neq=>exact SR.stringOp .neq a b
 case lss=>exact SR.stringOp .lss a b
 case leq=>exact SR.stringOp .leq a b
 case gtr=>exact SR.stringOp .gtr a b
 case geq=>exact SR.stringOp .geq a b
theorem SR.rm (hc:ai P) (t:TypeId) (hx:VR S p x x') (hy:VR S p y y') (h:bl x y=false):SR P F S K N (QV S) (Go.binOp .mul t x y) (Go.binOp .mul t x' y') p:=by
 cases hx<;>cases hy<;>first|exact SR.stuck|exact SR.unsupported|(cases h;done)|skip
theorem SR.rn (hc:ai P) (t:TypeId) (hx:VR S p x x') (hy:VR S p y y') (h:bl x y=false):SR P F S K N (QV S) (Go.binOp .quo t x y) (Go.binOp .quo t x' y') p:=by
 cases hx<;>cases hy<;>first|exact SR.stuck|exact SR.unsupported|(cases h;done)|skip
theorem SR.rp (hc:ai P) (t:TypeId) (hx:VR S p x x') (hy:VR S p y y') (h:bl x y=false):SR P F S K N (QV S) (Go.binOp .rem t x y) (Go.binOp .rem t x' y') p:=by
 cases hx<;>cases hy<;>first|exact SR.stuck|exact SR.unsupported|(cases h;done)|skip
 all_goals
  rename_i r r' o sp g k n;exact SR.bind (SR.behindNumber (a:=⟨r,o,sp⟩) (a':=⟨r',o,sp⟩) ⟨g,rfl,rfl⟩) fun q a a' hq ha=>(SR.addrMod k ha.1 n)
theorem SR.rq (hc:ai P) (t:TypeId) (hx:VR S p x x') (hy:VR S p y y') (h:bl x y=false):SR P F S K N (QV S) (Go.binOp .and t x y) (Go.binOp .and t x' y') p:=by
 cases hx<;>cases hy<;>first|exact SR.stuck|exact SR.unsupported|(cases h;done)|skip
 .rename_i k n r r' o sp g;exact SR.bind (SR.behindNumber (a:=⟨r,o,sp⟩) (a':=⟨r',o,sp⟩) ⟨g,rfl,rfl⟩) fun q a a' hq ha=>SR.addrMod k ha.1 (n+1)
 .rename_i r r' o sp g k n;exact SR.bind (SR.behindNumber (a:=⟨r,o,sp⟩) (a':=⟨r',o,sp⟩) ⟨g,rfl,rfl⟩) fun q a a' hq ha=>SR.addrMod k ha.1 (n+1)
theorem SR.vP (hc:ai P) (t:TypeId) (hx:VR S p x x') (hy:VR S p y y') (h:bl x y=false):SR P F S K N (QV S) (Go.binOp .or t x y) (Go.binOp .or t x' y') p:=by
 cases hx<;>cases hy<;>first|exact SR.stuck|exact SR.unsupported|(cases h;done)|skip
theorem SR.rr (hc:ai P) (t:TypeId) (hx:VR S p x x') (hy:VR S p y y') (h:bl x y=false):SR P F S K N (QV S) (Go.binOp .xor t x y) (Go.binOp .xor t x' y') p:=by
 cases hx<;>cases hy<;>first|exact SR.stuck|exact SR.unsupported|(cases h;done)|skip
theorem SR.kq (hc:ai P) (t:TypeId) (hx:VR S p x x') (hy:VR S p y y') (h:bl x y=false):SR P F S K N (QV S) (Go.binOp .andNot t x y) (Go.binOp .andNot t x' y') p:=by
 cases hx<;>cases hy<;>first|exact SR.stuck|exact SR.unsupported|(cases h;done)|skip
theorem SR.rt (hc:ai P) (t:TypeId) (hx:VR S p x x') (hy:VR S p y y') (h:bl x y=false):SR P F S K N (QV S) (Go.binOp .shl t x y) (Go.binOp .shl t x' y') p:=by
 cases hx<;>cases hy<;>first|exact SR.stuck|exact SR.unsupported|(cases h;done)|skip
theorem SR.ru (hc:ai P) (t:TypeId) (hx:VR S p x x') (hy:VR S p y y') (h:bl x y=false):SR P F S K N (QV S) (Go.binOp .shr t x y) (Go.binOp .shr t x' y') p:=by
 cases hx<;>cases hy<;>first|exact SR.stuck|exact SR.unsupported|(cases h;done)|skip
theorem SR.rx (hc:ai P) (t:TypeId) (hx:VR S p x x') (hy:VR S p y y') (h:bl x y=false):SR P F S K N (QV S) (Go.binOp .lss t x y) (Go.binOp .lss t x' y') p:=by
 cases hx<;>cases hy<;>first|exact SR.stuck|exact SR.unsupported|(cases h;done)|skip
 .rename_i r r' o sp g r2 nR o2 fM g2
  exact SR.bind (SR.behindNumber (a:=⟨r,o,sp⟩) (a':=⟨r',o,sp⟩) ⟨g,rfl,rfl⟩) fun q a a' hq ha=>
   SR.bind (SR.behindNumber (a:=⟨r2,o2,fM⟩) (a':=⟨nR,o2,fM⟩) ⟨hq _ _ g2,rfl,rfl⟩) fun q2 b b' bd hb=>SR.addrCmp .lss (ha.1.mono bd) hb.1
theorem SR.ry (hc:ai P) (t:TypeId) (hx:VR S p x x') (hy:VR S p y y') (h:bl x y=false):SR P F S K N (QV S) (Go.binOp .leq t x y) (Go.binOp .leq t x' y') p:=by
 cases hx<;>cases hy<;>first|exact SR.stuck|exact SR.unsupported|(cases h;done)|skip
 .rename_i r r' o sp g r2 nR o2 fM g2
  exact SR.bind (SR.behindNumber (a:=⟨r,o,sp⟩) (a':=⟨r',o,sp⟩) ⟨g,rfl,rfl⟩) fun q a a' hq ha=>
   SR.bind (SR.behindNumber (a:=⟨r2,o2,fM⟩) (a':=⟨nR,o2,fM⟩) ⟨hq _ _ g2,rfl,rfl⟩) fun q2 b b' bd hb=>SR.addrCmp .leq (ha.1.mono bd) hb.1
theorem SR.rz (hc:ai P) (t:TypeId) (hx:VR S p x x') (hy:VR S p y y') (h:bl x y=false):SR P F S K N (QV S) (Go.binOp .gtr t x y) (Go.binOp .gtr t x' y') p:=by
 cases hx<;>cases hy<;>first|exact SR.stuck|exact SR.unsupported|(cases h;done)|skip
 .rename_i r r' o sp g r2 nR o2 fM g2
  exact SR.bind (SR.behindNumber (a:=⟨r,o,sp⟩) (a':=⟨r',o,sp⟩) ⟨g,rfl,rfl⟩) fun q a a' hq ha=>
   SR.bind (SR.behindNumber (a:=⟨r2,o2,fM⟩) (a':=⟨nR,o2,fM⟩) ⟨hq _ _ g2,rfl,rfl⟩) fun q2 b b' bd hb=>SR.addrCmp .gtr (ha.1.mono bd) hb.1
theorem SR.rA (hc:ai P) (t:TypeId) (hx:VR S p x x') (hy:VR S p y y') (h:bl x y=false):SR P F S K N (QV S) (Go.binOp .geq t x y) (Go.binOp .geq t x' y') p:=by
 cases hx<;>cases hy<;>first|exact SR.stuck|exact SR.unsupported|(cases h;done)|skip
 .rename_i r r' o sp g r2 nR o2 fM g2
  exact SR.bind (SR.behindNumber (a:=⟨r,o,sp⟩) (a':=⟨r',o,sp⟩) ⟨g,rfl,rfl⟩) fun q a a' hq ha=>
   SR.bind (SR.behindNumber (a:=⟨r2,o2,fM⟩) (a':=⟨nR,o2,fM⟩) ⟨hq _ _ g2,rfl,rfl⟩) fun q2 b b' bd hb=>SR.addrCmp .geq (ha.1.mono bd) hb.1
theorem SR.rB (hc:ai P) (t:TypeId) (hu:P.underlying t≠some .unsafePointer) (hx:VR S p x x') (hy:VR S p y y') (h:bl x y=false):SR P F S K N (QV S) (Go.binOp .add t x y) (Go.binOp .add t x' y') p:=by
 have key:∀{a a' b b':Value},VR S p a a'->VR S p b b'->SR P F S K N (QV S) (Go.underlying t>>=fun u=>if(match u with|.unsafePointer=>true|_=>false)=true then Go.movedPointer t a b else Go.movedNumber t a b) (Go.underlying t>>=fun u=>if(match u with|.unsafePointer=>true|_=>false)=true then Go.movedPointer t a' b' else Go.movedNumber t a' b') p:=by
  intro a a' b b' ha hb;refine SR.aM fun d hd=>?_;have bC:d≠ .unsafePointer:=fun e=>hu (e▸hd);cases d<;>first|exact absurd rfl bC|exact SR.movedNumber t ha hb
 have mE:=hx;have Lx:=hy;cases hx<;>cases hy<;>first|exact SR.stuck|exact SR.unsupported|(cases h;done)|exact key mE Lx|exact SR.movedNumber t Lx mE
theorem SR.rC (hc:ai P) (t:TypeId) (hx:VR S p x x') (hy:VR S p y y') (h:bl x y=false):SR P F S K N (QV S) (Go.binOp .sub t x y) (Go.binOp .sub t x' y') p:=by
 have mE:=hx;cases hx<;>cases hy<;>first|exact SR.stuck|exact SR.unsupported|(cases h;done)|skip
 .rename_i k n;exact SR.movedNumber t mE (.int k (-n))
 .rename_i r r' o sp g k n;exact SR.movedNumber t mE (.int k (-n))
 .rename_i r r' o sp g r2 nR o2 fM g2
  exact SR.bind (SR.behindNumber (a:=⟨r,o,sp⟩) (a':=⟨r',o,sp⟩) ⟨g,rfl,rfl⟩) fun q a a' hq ha=>
   SR.bind (SR.behindNumber (a:=⟨r2,o2,fM⟩) (a':=⟨nR,o2,fM⟩) ⟨hq _ _ g2,rfl,rfl⟩) fun q2 b b' bd hb=>SR.addrSub .u64 (ha.1.mono bd) hb.1
theorem SR.jI (hc:ai P) (t:TypeId) (ht:aL P n t=true) (hx:VR S p x x') (hy:VR S p y y') (h:bl x y=false):SR P F S K N (QV S) (Go.binOp .eql t x y) (Go.binOp .eql t x' y') p:=by
 have key:SR P F S K N (QV S) (Op.equal t x y>>=fun b=>Pure.pure (.bool b)) (Op.equal t x' y'>>=fun b=>Pure.pure (.bool b)) p:=(SR.equal hc ht hx hy).ab fun q b hq=>SR.pure (.bool b);cases hx<;>cases hy<;>first|exact key|(cases h;done)
theorem SR.jJ (hc:ai P) (t:TypeId) (ht:aL P n t=true) (hx:VR S p x x') (hy:VR S p y y') (h:bl x y=false):SR P F S K N (QV S) (Go.binOp .neq t x y) (Go.binOp .neq t x' y') p:=by
 have key:SR P F S K N (QV S) (Op.equal t x y>>=fun b=>Pure.pure (.bool !b)) (Op.equal t x' y'>>=fun b=>Pure.pure (.bool !b)) p:=(SR.equal hc ht hx hy).ab fun q b hq=>SR.pure (.bool !b);cases hx<;>cases hy<;>first|exact key|(cases h;done)
theorem SR.binOp (hc:ai P) (op:BinOp) (t:TypeId) (ho:ee P op t=true) (hx:VR S p x x') (hy:VR S p y y'):SR P F S K N (QV S) (Go.binOp op t x y) (Go.binOp op t x' y') p:=by
 cases hp:bl x y with
 |true=>
  cases hx<;>first|(cases hp;done)|(cases hy<;>first|(cases hp;done)|exact SR.vN op t _ _ _ _|exact SR.vO op t _ _)
 |false=>
  cases op;case add=>exact SR.rB hc t (fun e=>by simp[ee,e]at ho) hx hy hp
  case sub=>exact SR.rC hc t hx hy hp
  case mul=>exact SR.rm hc t hx hy hp
  case quo=>exact SR.rn hc t hx hy hp
  case rem=>exact SR.rp hc t hx hy hp
  case and=>exact SR.rq hc t hx hy hp
  case or=>exact SR.vP hc t hx hy hp
  case xor=>exact SR.rr hc t hx hy hp
  case andNot=>exact SR.kq hc t hx hy hp
  case shl=>exact SR.rt hc t hx hy hp
  case shr=>exact SR.ru hc t hx hy hp
  case lss=>exact SR.rx hc t hx hy hp
  case leq=>exact SR.ry hc t hx hy hp
  case gtr=>exact SR.rz hc t hx hy hp
  case geq=>exact SR.rA hc t hx hy hp
  case eql=>exact SR.jI hc t (by simp only[ee,Bool.and_eq_true]at ho;exact ho.1) hx hy hp
  case neq=>exact SR.jJ hc t (by simp only[ee,Bool.and_eq_true]at ho;exact ho.1) hx hy hp
end
section
variable {P:Program} {F:Array Func} {S:Nat->Bool} {K:Kz} {N:Nat} {p:Pi}
theorem SR.kr (t:TypeId) (ht:aL P n t=true):∀d,SR P F S K N (QE Bool) (Op.eqGuardIn d t .nilIface .nilIface) (Op.eqGuardIn d t .nilIface .nilIface) p
 |0=>SR.unsupported
 |d+1=>by
  simp only[Op.eqGuardIn];refine SR.aM fun u hu=>?_;cases n with
  |zero=>simp[aL]at ht
  |succ n=>
   simp only[aL,hu]at ht;cases u<;>first|exact SR.pure rfl|(cases ht;done)
theorem SR.bn (t:TypeId) (ht:aL P 10 t=true) (hg:P.eqGuardType P.depth t=false) (x y:Operand) {a a':Value} (ha:VR S p a a') (hb:VR S p b b'):SR P F S K N (QE Unit) (bn t x y a b) (bn t x y a' b') p:=by
 cases ha<;>first|exact SR.pure rfl|(cases hb<;>first|exact SR.pure rfl|skip)
 .refine SR.ite (fun _=>SR.pure rfl) fun _=>?_;exact(SR.kr t ht Op.maxDepth).ab fun q g hq=>SR.ite (fun _=>SR.unsupported) fun _=>SR.pure rfl
 .refine SR.d9 (SR.d9 ?_);have pz:(aa P F).eqGuardType (aa P F).depth t=false:=by rw[bG,bB,hg]
  rw[hg,pz];exact SR.pure rfl
theorem SR.eqGuard (op:BinOp) (t:TypeId) (ho:ee P op t=true) (x y:Operand) {a a':Value} (ha:VR S p a a') (hb:VR S p b b'):SR P F S K N (QE Unit) (Go.eqGuard op t x y a b) (Go.eqGuard op t x y a' b') p:=by
 cases op
 case eql=>
  simp only[ee,Bool.and_eq_true,Bool.not_eq_true']at ho;rw[cy,cy];exact SR.bn t ho.1 ho.2 x y ha hb
 case neq=>
  simp only[ee,Bool.and_eq_true,Bool.not_eq_true']at ho;rw[cz,cz];exact SR.bn t ho.1 ho.2 x y ha hb
 all_goals exact SR.pure rfl
inductive EL (S:Nat->Bool) (p:Pi):List MapEntry->List MapEntry->Prop
 |nil:EL S p [] []
 |cons {e e':MapEntry} {l l':List MapEntry} (h:ER S p e e') (t:EL S p l l'):EL S p (e::l) (e'::l')
theorem EL.mono (h:Le p q) {l l':List MapEntry} (x:EL S p l l'):EL S q l l':=by
 induction x with
 |nil=>exact .nil
 |cons g _ ih=>exact .cons (g.mono h) ih
theorem EL.of:∀{l l':List MapEntry},l.length=l'.length->(∀(i:Nat) e e',l[i]?=some e->l'[i]?=some e'->ER S p e e')->EL S p l l'
 | [],[],_,_=>.nil
 | [],_::_,h,_=>by cases h
 |_::_,[],h,_=>by cases h
 |e::l,e'::l',h,g=>.cons (g 0 e e' rfl rfl) (EL.of (by simpa using h) fun i a b h1 h2=>g (i+1) a b h1 h2)
theorem gt (d:TypeDesc) {a a':Value} (ha:VR S p a a') (hb:VR S p b b'):Instr.sameNow d a b=Instr.sameNow d a' b':=by
 cases d<;>cases ha<;>first|rfl|(cases hb<;>rfl)
theorem jj (d:TypeDesc) {k:Value} (hk:VR S p k k'):∀{l l':List MapEntry},EL S p l l'->∀i,
 (Instr.findNow d k l i=none/\Instr.findNow d k' l' i=none)\/(Instr.findNow d k l i=some none/\Instr.findNow d k' l' i=some none)\/
   ∃j v v',Instr.findNow d k l i=some (some (j,v))/\Instr.findNow d k' l' i=some (some (j,v'))/\VR S p v v':=by
 intro l l' h;induction h with
 |nil=>intro i;exact .inr (.inl ⟨rfl,rfl⟩)
 | @cons e e' l l' he _ ih=>
   intro i;simp only[Instr.findNow];rw[gt d hk he.1];cases Instr.sameNow d k' e'.key with
   |none=>exact .inl ⟨rfl,rfl⟩
   |some b=>cases b with
    |true=>exact .inr (.inr ⟨i,_,_,rfl,rfl,he.2.1⟩)
    |false=>exact ih (i+1)
def FR (S:Nat->Bool) (p:Pi):Option (Nat×Value)->Option (Nat×Value)->Prop
 |none,none=>True
 |some x,some y=>x.1=y.1/\VR S p x.2 y.2
 |_,_=>False
theorem SR.findAsking (hc:ai P) (ht:aL P n t=true):∀{l l':List MapEntry} {p:Pi} {k k':Value} (i:Nat),VR S p k k'->EL S p l l'->SR P F S K N (fun q a b=>FR S q a b) (Instr.findAsking t k l i) (Instr.findAsking t k' l' i) p
 | [],_,p,k,k',i,hk,h=>by cases h;exact SR.pure trivial
 |e::l,_,p,k,k',i,hk,h=>by
  cases h with
  | @cons _ e' _ l' he hl=>
  simp only[Instr.findAsking];refine(SR.equal hc ht hk he.1).ab fun q b hq=>?_;refine SR.ite (fun _=>SR.pure ⟨rfl,he.2.1.mono hq⟩) fun _=>SR.findAsking hc ht (i+1) (hk.mono hq) (hl.mono hq)
theorem SR.findKey (hc:ai P) (ht:aL P n t=true) {l l':List MapEntry} {k:Value} (hk:VR S p k k') (h:EL S p l l'):SR P F S K N (fun q a b=>FR S q a b) (Instr.findKey t k l) (Instr.findKey t k' l') p:=by
 unfold Instr.findKey;refine SR.aM fun u hu=>?_;rcases jj u hk h 0 with⟨e1,e2⟩|⟨e1,e2⟩|⟨j,v,v',e1,e2,hv⟩
 .rw[e1,e2];exact SR.findAsking hc ht 0 hk h
 .rw[e1,e2];exact SR.pure trivial
 .rw[e1,e2];exact SR.pure ⟨rfl,hv⟩
theorem SR.checkKey (b:Bool):∀(d n:Nat) (t:TypeId) {p:Pi} {k k':Value},aL P n t=true->VR S p k k'->SR P F S K N (QE Unit) (Instr.checkKey b d t k) (Instr.checkKey b d t k') p
 |0,_,_,_,_,_,_,_=>SR.unsupported
 |d+1,0,_,_,_,_,h,_=>by simp[aL]at h
 |d+1,n+1,t,p,k,k',ht,hk=>by
  simp only[Instr.checkKey];refine SR.aM fun u hu=>?_;simp only[aL,hu]at ht;cases u with
  |array len e=>
   cases hk<;>first|exact SR.stuck|skip
   rename_i xs aQ pl vM;have ax:AR S p xs aQ:=⟨pl,vM⟩
   simp only;refine SR.ab (α:=PUnit) ?_ fun q r hq=>SR.pure rfl;simp only[Std.Legacy.Range.forIn_eq_forIn_range'];refine SR.fL (p:=p) _ _ _ (fun i hi b q2 bd=>?_) _ p (Le.refl _);refine(SR.sizeOf e).ab fun q3 m dK=>?_;refine(SR.part e ((ax.mono bd).mono dK) _).bind fun q4 v v' pA hv=>?_;exact(SR.checkKey _ d n e ht hv).ab fun q5 _ DO=>SR.pure rfl
  |struct fs=>
   simp only[Bool.and_eq_true]at ht
   have aG:∀f∈fs.toList,aL P n f.type=true:=fun f hf=>by
    obtain⟨i,hi,he⟩:=List.getElem_of_mem hf;have:=Array.all_eq_true.1 ht.2 i (by simpa using hi);rw[<-he];simpa using this
   cases hk<;>first|exact SR.stuck|skip
   rename_i xs aQ pl vM;have ax:AR S p xs aQ:=⟨pl,vM⟩
   simp only;refine SR.ab (α:=PUnit) ?_ fun q r hq=>SR.pure rfl;rw[<-Array.forIn_toList,<-Array.forIn_toList];refine SR.fL (p:=p) _ _ _ (fun f hf b q2 bd=>?_) _ p (Le.refl _);refine SR.ite (fun _=>?_) fun _=>SR.pure rfl;refine(SR.part f.type (ax.mono bd) _).bind fun q4 v v' pA hv=>?_;exact(SR.checkKey _ d n f.type (aG f hf) hv).ab fun q5 _ DO=>SR.pure rfl
  |bool=>cases hk<;>exact SR.pure rfl
  |int k=>cases hk<;>exact SR.pure rfl
  |string=>cases hk<;>exact SR.pure rfl
  |slice e=>cases hk<;>exact SR.pure rfl
  |_=>cases ht
end
section
variable {P:Program} {F:Array Func} {S:Nat->Bool} {K:Kz} {N:Nat} {p:Pi}
theorem OR.mapList {es bM:Array MapEntry} (h:es.size=bM.size) (g:∀(i:Nat) (e e':MapEntry),es[i]?=some e->bM[i]?=some e'->ER S p e e'):EL S p es.toList bM.toList:=
 EL.of (by simpa using h) fun i e e' h1 h2=>g i e e' (by simpa using h1) (by simpa using h2)
def ib (P:Program) (t:TypeId):Bool:=match P.underlying t with|some (.map k _)=>aL P 10 k|_=>true
theorem SR.lookup (hz:au P) (hc:ai P) (t:TypeId) (ht:ib P t=true) (ok:Bool) (hx:VR S p x x') (hi:VR S p i i'):SR P F S K N (QV S) (Instr.lookup t x i ok) (Instr.lookup t x' i' ok) p:=by
 unfold Instr.lookup;refine SR.aM fun u hu=>?_;cases u with
 |map k e=>
  simp only[ib,hu]at ht;simp only
  have rest:∀(q:Pi) (es bM:Array MapEntry),Le p q->es.size=bM.size->EL S q es.toList bM.toList->SR P F S K N (QV S)
   (Instr.checkKey es.isEmpty 10000 k i>>=fun _=>Instr.findKey k i es.toList>>=fun r=>match r with|some (_,v)=>(Pure.pure (v,true)>>=fun(x:Value×Bool)=>Pure.pure (if ok=true then Value.tuple #[x.1,.bool x.2]else x.1))|none=>Go.zeroValue e>>=fun z=>(Pure.pure (z,false)>>=fun(x:Value×Bool)=>Pure.pure (if ok=true then Value.tuple #[x.1,.bool x.2]else x.1)))
   (Instr.checkKey bM.isEmpty 10000 k i'>>=fun _=>Instr.findKey k i' bM.toList>>=fun r=>match r with|some (_,v)=>(Pure.pure (v,true)>>=fun(x:Value×Bool)=>Pure.pure (if ok=true then Value.tuple #[x.1,.bool x.2]else x.1))|none=>Go.zeroValue e>>=fun z=>(Pure.pure (z,false)>>=fun(x:Value×Bool)=>Pure.pure (if ok=true then Value.tuple #[x.1,.bool x.2]else x.1))) q:=by
   intro q es bM hq hs hl;have PD:es.isEmpty=bM.isEmpty:=by simp[Array.isEmpty,hs]
   have fin:∀(q:Pi) (a b:Value) (c:Bool),VR S q a b->SR P F S K N (QV S) (Pure.pure (if ok=true then Value.tuple #[a,.bool c]else a)) (Pure.pure (if ok=true then Value.tuple #[b,.bool c]else b)) q:=by
    intro q a b c h;cases ok with
    |true=>exact SR.pure (AR.tuple ((AR.one h).push (.bool _)))
    |false=>exact SR.pure h
   rw[PD];refine(SR.checkKey _ 10000 10 k ht (hi.mono hq)).ab fun q1 _ kM=>?_;refine(SR.findKey hc ht ((hi.mono hq).mono kM) (hl.mono kM)).bind fun q2 r r' bd hr=>?_;cases r<;>cases r'<;>first|exact hr.elim|skip
   .exact(SR.zeroValue hz e).bind fun q4 z z' pA km=>fin q4 _ _ _ (km.1▸km.2)
   .exact fin q2 _ _ _ hr.2
  cases hx<;>first|exact SR.stuck|skip
  .exact rest p #[] #[] (Le.refl _) rfl .nil
  .rename_i r r' h;refine(SR.getObj h).bind fun q o o' hq ho=>?_;cases ho with
   |map c h g=>exact rest q _ _ hq h (OR.mapList h g)
   |_=>exact SR.stuck
 |_=>exact SR.stuck
theorem cQ (hp:kN P p):∀(n:Nat) {a a' b b':Value},VR S p a a'->VR S p b b'->Instr.sameBits n a b=true->Instr.sameBits n a' b'=true
 |n,a,a',b,b',ha,hb=>by
  have nQ:∀{r r' s s':Nat} (o o2:Nat) (sp fM:Option Nat),p r r'->p s s'->((some (⟨r,o,sp⟩:Addr))==(some (⟨s,o2,fM⟩:Addr)))=true->((some (⟨r',o,sp⟩:Addr))==(some (⟨s',o2,fM⟩:Addr)))=true:=by
   intro r r' s s' o o2 sp fM h1 h2 he;have he:=eq_of_beq he;simp only[Option.some.injEq,Addr.mk.injEq]at he;obtain⟨rfl,rfl,rfl⟩:=he;rw[hp.2.2 _ _ _ h1 h2];exact beq_self_eq_true _
  cases n with
  |zero=>
   cases ha<;>first|exact id|(cases hb<;>first|exact id|exact nQ _ _ _ _ ‹_› ‹_›)
  |succ n=>
   cases ha with
   |iface h=>cases hb<;>first|exact id|(simp only[Instr.sameBits,Bool.and_eq_true];exact fun⟨x,y⟩=>⟨x,cQ hp n h ‹_› y⟩)
   |agg h g=>
    cases hb with
    |agg h2 g2=>
     rename_i xs aQ ys rf;simp only[Instr.sameBits];rw[h,h2];simp only[Bool.and_eq_true];refine fun⟨x1,x2⟩=>⟨x1,?_⟩
     have hl:∀(l l' m m':List Value),l.length=l'.length->m.length=m'.length->(∀(i:Nat) v v',l[i]?=some v->l'[i]?=some v'->VR S p v v')->(∀(i:Nat) v v',m[i]?=some v->m'[i]?=some v'->VR S p v v')->
      ((l.zip m).all fun(x,y)=>Instr.sameBits n x y)=true->((l'.zip m').all fun(x,y)=>Instr.sameBits n x y)=true:=by
      intro l;induction l with
      |nil=>intro l' m m' h1 h2 _ _ _;cases l' with
       |nil=>rfl
       |cons=>cases h1
      |cons x l ih=>
       intro l' m m' h1 h2 g1 g2 he;cases l' with
       |nil=>cases h1
       |cons x' l'=>
        cases m with
        |nil=>cases m' with
         |nil=>rfl
         |cons=>cases h2
        |cons y m=>cases m' with
         |nil=>cases h2
         |cons y' m'=>
          simp only[List.zip_cons_cons,List.all_cons,Bool.and_eq_true]at he⊢;exact⟨cQ hp n (g1 0 x x' rfl rfl) (g2 0 y y' rfl rfl) he.1,ih l' m m' (by simpa using h1) (by simpa using h2) (fun i v v' a b=>g1 (i+1) v v' a b) (fun i v v' a b=>g2 (i+1) v v' a b) he.2⟩
     exact hl _ _ _ _ (by simpa using h) (by simpa using h2) (fun i v v' a b=>g i v v' (by simpa using a) (by simpa using b)) (fun i v v' a b=>g2 i v v' (by simpa using a) (by simpa using b)) x2
    |_=>exact fun h=>h
   |_=>cases hb<;>first|exact id|exact nQ _ _ _ _ ‹_› ‹_›
theorem SR.keyThatStays {a a':Value} (ha:VR S p a a') (hb:VR S p b b'):SR P F S K N (QV S) (Instr.keyThatStays a b) (Instr.keyThatStays a' b') p:=by
 intro hp;unfold Instr.keyThatStays;cases hs:Instr.sameBits 10000 a b with
 |true=>rw[cQ hp 10000 ha hb hs];exact hb
 |false=>exact trivial
theorem SR.mapUpdate (hc:ai P) (t:TypeId) (ht:ib P t=true) {m m' k:Value} (hm:VR S p m m') (hk:VR S p k k') (hv:VR S p v v'):SR P F S K N (QE Unit) (Instr.mapUpdate t m k v) (Instr.mapUpdate t m' k' v') p:=by
 unfold Instr.mapUpdate;refine SR.aM fun u hu=>?_;cases u with
 |map kt e=>
  simp only[ib,hu]at ht;simp only;cases hm<;>first|exact SR.stuck|exact SR.nO _|skip
  rename_i r r' h;simp only;refine(SR.getObj h).bind fun q o o' hq ho=>?_;cases ho with
  | @map es bM c hs g=>
    simp only;refine(SR.checkKey _ 10000 10 kt ht (hk.mono hq)).ab fun q1 _ kM=>?_;have hl:EL S q1 es.toList bM.toList:=(OR.mapList hs g).mono kM;refine(SR.findKey hc ht ((hk.mono hq).mono kM) hl).bind fun q2 x x' bd hx=>?_;have h:=bd _ _ (kM _ _ (hq _ _ h));have hk:=((hk.mono hq).mono kM).mono bd;have hv:=((hv.mono hq).mono kM).mono bd;have g2:∀(i:Nat) (e e':MapEntry),es[i]?=some e->bM[i]?=some e'->ER S q2 e e':=fun i e e' a b=>((g i e e' a b).mono kM).mono bd;cases x<;>cases x'<;>first|exact hx.elim|skip
    .refine SR.setObj h (.map (c+1) (by simp[hs]) fun i a b ha hb=>?_) fun _ _ _ _ _ _ a=>by cases a
     rw[Array.getElem?_push]at ha hb;rw[hs]at ha;split at ha
     .rename_i hi;simp only[hi,if_true,Option.some.injEq]at ha hb;subst ha;subst hb;exact⟨hk,hv,rfl⟩
     .rename_i hi;simp only[hi,if_false]at hb;exact g2 i a b ha hb
    .rename_i y y';obtain⟨j,u⟩:=y;obtain⟨j',u'⟩:=y';obtain⟨hj,PE⟩:=hx;simp only at hj PE;subst hj;simp only;refine SR.bind (Q:=QV S) (SR.keyThatStays ?_ hk) fun q3 b b' dK hb=>?_
     .cases he:es[j]? with
      |none=>
       have:bM[j]?=none:=by rw[Array.getElem?_eq_none_iff]at he⊢;omega
       rw[this];exact hk
      |some e1=>
       have ao:j<bM.size:=by rw[<-hs];exact(Array.getElem?_eq_some_iff.1 he).1
       rw[Array.getElem?_eq_getElem ao];exact(g2 j e1 _ he (Array.getElem?_eq_getElem ao)).1
     .refine SR.setObj (dK _ _ h) (.map c (by simp[hs]) fun i a b ha hb=>?_) fun _ _ _ _ _ _ a=>by cases a
      rw[Array.getElem?_modify]at ha hb;split at ha
      .rename_i hi;simp only[hi,if_true]at hb;cases hea:es[i]? with
       |none=>rw[hea]at ha;cases ha
       |some ea=>
        have ao:i<bM.size:=by rw[<-hs];exact(Array.getElem?_eq_some_iff.1 hea).1
        rw[hea]at ha;rw[Array.getElem?_eq_getElem ao]at hb;simp only[Option.map_some,Option.some.injEq]at ha hb;subst ha;subst hb;exact⟨by assumption,hv.mono dK,(g2 i ea _ hea (Array.getElem?_eq_getElem ao)).2.2⟩
      .rename_i hi;simp only[hi,if_false]at hb;exact(g2 i a b ha hb).mono dK
  |_=>exact SR.stuck
 |_=>exact SR.stuck
theorem SR.makeMap (t:TypeId):SR P F S K N (QV S) (Instr.makeMap t none) (Instr.makeMap t none) p:=by
 refine SR.bind (Q:=fun q r r'=>q r r'/\N<=r/\∀k,¬q.x r k) (SR.newObj (.map 0 rfl fun i e e' h=>by simp at h) fun _ _ _ _ _ _ a=>by cases a) fun q r r' hq hr=>SR.pure (.map hr.1)
theorem SR.makeSlice (hz:au P) (t:TypeId) {l l' c c':Value} (hl:VR S p l l') (ku:VR S p c c'):SR P F S K N (QV S) (Instr.makeSlice t l c) (Instr.makeSlice t l' c') p:=by
 unfold Instr.makeSlice;refine SR.aM fun u hu=>?_;cases u with
 |slice e=>
  simp only;refine(SR.asInt hl).ab fun q n hq=>?_;refine(SR.asInt (ku.mono hq)).ab fun q2 m bd=>?_;refine SR.fw fun i hi=>?_
  have rest:∀(q:Pi),SR P F S K N (QV S)
   (eS e n m i.bytes)
   (eS e n m i.bytes) q:=by
   intro q;unfold eS;refine(SR.askRoom _).ab fun q1 _ kM=>(SR.sizeOf e).ab fun q2 s bd=>?_;refine SR.ite (fun _=>?_) fun _=>?_
   .exact(SR.newRow e (fB AR.empty _)).bind fun q4 a a' pA ha=>SR.pure (ha.1.sl (fun _=>ha.2.2) _ _)
   .refine(SR.zeroValue hz e).bind fun q3 z z' dK km=>?_;obtain⟨rfl,hv⟩:=km;exact(SR.newRow e (fB hv.cells _)).bind fun q4 a a' pA ha=>SR.pure (ha.1.sl (fun _=>ha.2.2) _ _)
  have Ir:∀(msg:String) (q:Pi),SR P F S K N (QV S) (Go.runtimePanic (.error msg)>>=fun(_:PUnit)=>eS e n m i.bytes) (Go.runtimePanic (.error msg)>>=fun(_:PUnit)=>eS e n m i.bytes) q:=
   fun msg q=>SR.bind (Q:=QE PUnit) (SR.err msg) fun q _ _ _ _=>rest q
  refine SR.ite (fun _=>?_) fun _=>rest q2;refine SR.ite (fun _=>Ir _ q2) fun _=>SR.ite (fun _=>Ir _ q2) fun _=>?_;exact(SR.choose _).ab fun q3 c dK=>Ir _ q3
 |_=>exact SR.stuck
theorem SR.extract (h:VR S p v v') (i:Nat):SR P F S K N (QV S) (Instr.extract v i) (Instr.extract v' i) p:=by
 unfold Instr.extract;cases h<;>first|exact SR.stuck|skip
 rename_i xs aQ hx gx;simp only;cases hi:xs[i]? with
 |none=>exact SR.stuck
 |some u=>obtain⟨u',Il,hr⟩:=AR.get (S:=S) (p:=p) ⟨hx,gx⟩ hi;rw[Il];exact SR.pure hr
theorem SR.indexAt (t:TypeId) (h:VR S p v v') (hi:VR S p i i'):SR P F S K N (QV S) (Instr.indexAt t v i) (Instr.indexAt t v' i') p:=by
 unfold Instr.indexAt;refine(SR.asIntOf hi).ab fun q ki hq=>?_;obtain⟨k,n⟩:=ki;have h:=h.mono hq;refine SR.aM fun u hu=>?_;simp only
 have rest:∀(q:Pi) (b b':Option Addr) (len:Nat) (e:TypeId),((b=none/\b'=none)\/∃a a',b=some a/\b'=some a'/\cx q a a')->∀vQ:Bool,SR P F S K N (QV S)
  (match b with
    |some a=>if 0<=n/\n<(len:Int)then(Go.sizeOf e>>=fun s=>Pure.pure (Value.pointer (some (a.add (n.toNat*s)))))else if vQ=true then Go.unsupported (.noEntry "op/indexAddr.an index out of range at an array of length 0 or 1 (ledger 616)")else Go.boundsPanic k n (len:Int) .index
    |none=>Go.boundsPanic k n 0 .index)
  (match b' with
    |some a=>if 0<=n/\n<(len:Int)then(Go.sizeOf e>>=fun s=>Pure.pure (Value.pointer (some (a.add (n.toNat*s)))))else if vQ=true then Go.unsupported (.noEntry "op/indexAddr.an index out of range at an array of length 0 or 1 (ledger 616)")else Go.boundsPanic k n (len:Int) .index
    |none=>Go.boundsPanic k n 0 .index) q:=by
  intro q b b' len e hb vQ;rcases hb with⟨rfl,rfl⟩|⟨a,a',rfl,rfl,ha⟩
  .exact SR.boundsPanic _ _ _ _
  .refine SR.ite (fun _=>?_) fun _=>SR.ite (fun _=>SR.unsupported) fun _=>SR.boundsPanic _ _ _ _;exact(SR.sizeOf e).ab fun q s hq=>SR.pure (ha.mono hq|>.add _).ptr
 cases u with
 |array len e=>
  refine(SR.sureAddr h).bind fun q2 a a' bd ha=>?_;refine SR.aM fun u hu=>?_;exact rest q2 _ _ len e (.inr ⟨a,a',rfl,rfl,ha⟩) _
 |slice e=>
  cases v with
  |slice b len cap=>
   cases v' with
   |slice b' Im dO=>
    obtain⟨rfl,hs⟩:=fK h;refine SR.aM fun u hu=>?_;rcases hs with⟨h1,h2,_⟩|⟨a,b,h1,h2,h3,_⟩|⟨rfl,_,a,b,rfl,rfl,_⟩
    .exact rest q _ _ len e (.inl ⟨h1,h2⟩) _
    .exact rest q _ _ len e (.inr ⟨a,b,h1,h2,h3⟩) _
    .have hn:¬(0<=n/\n<((0:Nat):Int)):=by omega
     simp only[hn,if_false];exact SR.ite (fun _=>SR.unsupported) fun _=>SR.boundsPanic _ _ _ _
   |_=>cases h
  |_=>cases h<;>exact SR.stuck
 |_=>exact SR.stuck
end
section
variable {P:Program} {F:Array Func} {S:Nat->Bool} {K:Kz} {N:Nat} {p:Pi}
theorem SR.lenOf (h:VR S p x x'):SR P F S K N (fun _ a b=>a=b/\∀b l c,x=.slice b l c->a=l) (Builtin.lenOf x) (Builtin.lenOf x') p:=by
 cases h<;>first|exact SR.pure ⟨rfl,fun b l c e=>by cases e<;>rfl⟩|exact SR.stuck
theorem SR.firstCells (s n:Nat) (h:VR S p x x') (hn:∀b c,x=.slice b 0 c->n=0):SR P F S K N (QA S) (Builtin.firstCells s n x) (Builtin.firstCells s n x') p:=by
 cases h<;>first|exact SR.stuck|skip
 .rename_i s1;exact SR.pure (AR.map _ _ _ fun x _=>.int _ _)
 .exact SR.pure AR.empty
 .rename_i r r' o sp l c g hX;exact SR.loadCells (a:=⟨r,o,sp⟩) (a':=⟨r',o,sp⟩) ⟨g,rfl,rfl⟩ _
 .rename_i r r' k o l c g h0 hx;exact SR.loadCells (a:=⟨r,o,none⟩) (a':=⟨r',o,none⟩) ⟨g,rfl,rfl⟩ _
 .obtain rfl:=hn _ _ rfl;simp only[Builtin.firstCells,Nat.zero_mul];exact SR.pure AR.empty
theorem eM (h:AR S p z z') (n:Nat):AR S p (Builtin.zeroCells z n) (Builtin.zeroCells z' n):=by
 unfold Builtin.zeroCells;rw[<-h.1];have:=fB h (n*z.size);rw[<-h.1]at this;exact this
def j0 (P:Program) (ts:Array TypeId):Bool:=match ts[1]? with|some t=>(match P.underlying t with|some (.int _)=>false|_=>true)|none=>true
theorem cP.typeInfo {f:TypeInfo->Sem β} (h:∀i,P.info? t=some i->cP P (f i)):cP P (Go.typeInfo t>>=f):=by
 show cP P (Sem.bind (match P.info? t with|some i=>Pure.pure i|none=>Go.stuck "no such type") f);cases hi:P.info? t with
 |none=>exact trivial
 |some i=>exact h i hi
theorem oy (e:TypeId) (b:Option Addr) (sl sc n size:Nat) (x:Value):cP P (aB.fC e b sl sc n size x):=by
 refine cP.typeInfo fun i hi=>?_;split
 .refine cP.bind ?_;refine cP.GR (fun c=>?_) _;split<;>exact trivial
 .exact trivial
theorem SR.bu (e:TypeId) {b b':Option Addr} (sl:Nat) {sc pm:Nat} (size:Nat) {x x':Value} (hb:VR S p (.slice b sl sc) (.slice b' sl pm)) (hE:∀a,b=some a->a.spot=none) (hx:VR S p x x'):SR P F S K N (QV S) (bu e b sl sc size x) (bu e b' sl pm size x') p:=by
 refine(SR.lenOf hx).bind fun q1 n n' kM hn=>?_;obtain⟨rfl,hn⟩:=hn;have hb:=hb.mono kM;have hx:=hx.mono kM;obtain⟨_,hs⟩:=fK hb;by_cases hle:sl+n<=sc
 .have P2:sl+n<=pm:=by
   rcases hs with⟨_,_,e⟩|⟨_,_,_,_,_,⟨e,_⟩|⟨_,_,k,_,e⟩⟩|⟨e1,e2,a,_,e3,_,e4⟩
   .omega
   .omega
   .omega
   .have:=hE a e3;rw[e4]at this;cases this
  rw[if_pos hle,if_pos P2];refine(SR.firstCells size n hx fun b c e=>hn b 0 c e).bind fun q2 y y' bd hy=>?_;have hb:=hb.mono bd;rcases hs with⟨rfl,rfl,rfl⟩|⟨a,a',rfl,rfl,ha,⟨e,hX⟩|⟨h0,jX,k,hk,e⟩⟩|⟨e1,e2,a,_,e3,_,e4⟩
  .exact SR.pure (.bA _ _)
  .subst e;have GM:=ha;have ha:=ha.mono bd;exact(SR.ca (ha.add _) hy).ab fun q3 _ dK=>SR.pure ((ha.mono dK).sl (fun hs k hk=>hX hs k (bd.xr _ _ _ GM.1 (dK.xr _ _ _ ha.1 hk))) _ _)
  .subst e;have ha:=ha.mono bd;exact(SR.ca (ha.add _) hy).ab fun q3 _ dK=>SR.pure ((ha.mono dK).TT jX _ h0 (dK.x _ _ (bd.x _ _ hk)))
  .have:=hE a e3;rw[e4]at this;cases this
 .rw[if_neg hle];refine fun _=>.inl ?_
  have:cP P (Go.typeInfo e>>=fun i=>if((sl+n:Nat):Int)>IntKind.i64.max/\(false=true\/i.bytes=0)then(Go.runtimePanic (.error "growslice: len out of range")>>=fun(_:PUnit)=>aB.fC e b sl sc n size x)else aB.fC e b sl sc n size x):=by
   refine cP.typeInfo fun i hi=>?_;split
   .exact cP.GR (fun _=>oy ..) _
   .exact oy ..
  exact this
theorem SR.append (ts:Array TypeId) (ht:j0 P ts=true) (t:TypeId) (h:AR S p xs aQ) (hE:∀a l c,xs[0]?=some (.slice (some a) l c)->a.spot=none):SR P F S K N (QV S) (Builtin.append_ ts t xs) (Builtin.append_ ts t aQ) p:=by
 unfold Builtin.append_;cases h0:ts[0]? with
 |none=>cases xs[0]? <;>cases xs[1]? <;>exact SR.stuck
 |some sT=>
 cases h1:xs[0]? with
 |none=>cases xs[1]? <;>exact SR.stuck
 |some s=>
 cases h2:xs[1]? with
 |none=>exact SR.stuck
 |some x=>
 obtain⟨s',lV,hs⟩:=h.get h1;obtain⟨x',mG,hx⟩:=h.get h2;rw[lV,mG];simp only;refine SR.aM fun u hu=>?_;cases u with
 |slice e=>
  cases s with
  |slice b sl sc=>
   cases s' with
   |slice b' eE pm=>
    obtain⟨rfl,_⟩:=fK hs;simp only;refine(SR.sizeOf e).ab fun q size hq=>?_;have key:=SR.bu (P:=P) (F:=F) (S:=S) (K:=K) (N:=N) e sl size (hs.mono hq) (fun a e=>hE a _ _ (by rw[h1,e])) (hx.mono hq);cases b<;>cases b'<;>(try(cases hs;done))
    all_goals cases h3:ts[1]? with
    |none=>
     simp only[pure_bind,Bool.false_eq_true,if_false,Bool.not_false,if_true,false_or];unfold aB.bu aB.fC aB.bR at key;simp only[Bool.false_eq_true,false_or]at key;exact key
    |some xT=>
     refine SR.aM fun u hu=>?_;simp only[j0,h3,hu]at ht;unfold aB.bu aB.fC aB.bR at key;simp only[Bool.false_eq_true,false_or]at key;cases u<;>first|(cases ht;done)|skip
     all_goals simp only[pure_bind,Bool.false_eq_true,if_false,Bool.not_false,if_true,false_or]
     all_goals exact key
   |_=>cases hs
  |_=>cases hs<;>exact SR.stuck
 |_=>exact SR.stuck
end
section
variable {P:Program} {F:Array Func} {S:Nat->Bool} {K:Kz} {N:Nat} {p:Pi}
theorem SR.copy (ts:Array TypeId) (t:TypeId) (h:AR S p xs aQ) (hE:∀a l c,xs[0]?=some (.slice (some a) l c)->a.spot=none):SR P F S K N (QV S) (Builtin.copy_ ts t xs) (Builtin.copy_ ts t aQ) p:=by
 unfold Builtin.copy_;cases h0:ts[0]? with
 |none=>cases xs[0]? <;>cases xs[1]? <;>exact SR.stuck
 |some dT=>
 cases h1:xs[0]? with
 |none=>cases xs[1]? <;>exact SR.stuck
 |some s=>
 cases h2:xs[1]? with
 |none=>exact SR.stuck
 |some x=>
 obtain⟨s',lV,hs⟩:=h.get h1;obtain⟨x',mG,hx⟩:=h.get h2;rw[lV,mG];simp only;refine SR.aM fun u hu=>?_;cases u with
 |slice e=>
  cases s with
  |slice b sl sc=>
   cases s' with
   |slice b' eE pm=>
    obtain⟨rfl,hb⟩:=fK hs;simp only;refine(SR.lenOf hx).bind fun q n n' hq hn=>(SR.sizeOf e).ab fun q2 size bd=>?_;obtain⟨rfl,hn⟩:=hn;refine(SR.firstCells size _ ((hx.mono hq).mono bd) (fun b c e=>by rw[hn b 0 c e];exact Nat.zero_min _)).bind fun q3 y y' dK hy=>?_;rcases hb with⟨rfl,rfl,_⟩|⟨a,a',rfl,rfl,iE,_⟩|⟨_,_,a,a',rfl,rfl,h4⟩
    .exact SR.pure (.int _ _)
    .exact(SR.ca (((iE.mono hq).mono bd).mono dK) hy).ab fun q4 _ pA=>SR.pure (.int _ _)
    .have:=hE _ _ _ h1;rw[h4]at this;cases this
   |_=>cases hs
  |_=>cases hs<;>exact SR.stuck
 |_=>exact SR.stuck
def nS (P:Program) (ts:Array TypeId):Bool:=match ts[0]? with|some t=>(match P.underlying t with|some (.chan ..)=>false|_=>true)|none=>true
theorem SR.len (ts:Array TypeId) (ht:nS P ts=true) (t:TypeId) (h:AR S p xs aQ):SR P F S K N (QV S) (Builtin.len_ ts t xs) (Builtin.len_ ts t aQ) p:=by
 unfold Builtin.len_;cases h0:ts[0]? with
 |none=>cases xs[0]? <;>exact SR.stuck
 |some dT=>
 cases h1:xs[0]? with
 |none=>exact SR.stuck
 |some s=>
 obtain⟨s',lV,hs⟩:=h.get h1;rw[lV];simp only;refine SR.aM fun u hu=>?_;simp only[nS,h0,hu]at ht;cases u with
 |chan=>cases ht
 |array n e=>cases hs<;>exact SR.pure (.int _ _)
 |pointer arr=>
  cases hs<;>
  .refine SR.aM fun u hu=>?_;cases u<;>first|exact SR.pure (.int _ _)|exact SR.stuck
 |map k e=>
  cases hs<;>first|exact SR.stuck|exact SR.pure (.int _ _)|skip
  rename_i r r' g;refine(SR.getObj g).bind fun q o o' hq ho=>?_;cases ho with
  |map c h g=>simp only;rw[h];exact SR.pure (.int _ _)
  |_=>exact SR.stuck
 |string=>cases hs<;>first|exact SR.pure (.int _ _)|exact SR.stuck
 |slice e=>cases hs<;>first|exact SR.pure (.int _ _)|exact SR.stuck
 |_=>cases hs<;>exact SR.stuck
theorem SR.clear (hz:au P) (ts:Array TypeId) (t:TypeId) (h:AR S p xs aQ):SR P F S K N (QV S) (Builtin.clear_ ts t xs) (Builtin.clear_ ts t aQ) p:=by
 unfold Builtin.clear_;cases h0:ts[0]? with
 |none=>cases xs[0]? <;>exact SR.stuck
 |some dT=>
 cases h1:xs[0]? with
 |none=>exact SR.stuck
 |some s=>
 obtain⟨s',lV,hs⟩:=h.get h1;rw[lV];simp only;refine SR.aM fun u hu=>?_;have hv:∀q,VR S q (.tuple #[]) (.tuple #[]):=fun q=>VR.plain 2 _ (by simp[plain])
 have Is:∀r r',p r r'->SR P F S K N (QV S)
  (Go.getObj r>>=fun o=>match o with|.map _ c=>Go.setObj r (.map #[] c)>>=fun _=>Pure.pure (.tuple #[])|_=>Go.stuck "clear: map expected" >>=fun(_:PUnit)=>Pure.pure (.tuple #[]))
  (Go.getObj r'>>=fun o=>match o with|.map _ c=>Go.setObj r' (.map #[] c)>>=fun _=>Pure.pure (.tuple #[])|_=>Go.stuck "clear: map expected" >>=fun(_:PUnit)=>Pure.pure (.tuple #[])) p:=by
  intro r r' g;refine(SR.getObj g).bind fun q o o' hq ho=>?_;cases ho with
  |map c h g2=>exact(SR.setObj (hq _ _ g) (.map c rfl fun i e e' h=>by simp at h) fun _ _ _ _ _ _ a=>by cases a).ab fun q2 _ bd=>SR.pure (hv q2)
  |_=>exact SR.stuck
 have ni:∀(e:TypeId) (a a':Addr) (n:Nat),cx p a a'->SR P F S K N (QV S)
  (Go.zeroValue e>>=fun z=>Go.storeCells a (Builtin.zeroCells z.cells n).toList>>=fun _=>Pure.pure (.tuple #[]))
  (Go.zeroValue e>>=fun z=>Go.storeCells a' (Builtin.zeroCells z.cells n).toList>>=fun _=>Pure.pure (.tuple #[])) p:=by
  intro e a a' n ha;refine(SR.zeroValue hz e).bind fun q z z' hq km=>?_;obtain⟨rfl,D7⟩:=km;exact(SR.ca (ha.mono hq) (eM D7.cells n)).ab fun q2 _ bd=>SR.pure (hv q2)
 cases hs with
 |ja=>cases u<;>exact SR.pure (hv p)
 |bA l c=>cases u<;>exact SR.pure (hv p)
 |map g=>cases u<;>exact Is _ _ g
 |slice o sp l c g hX=>
  cases l with
  |zero=>cases u<;>exact SR.pure (hv p)
  |succ l=>cases u<;>first|exact SR.stuck|exact ni _ ⟨_,o,sp⟩ ⟨_,o,sp⟩ _ ⟨g,rfl,rfl⟩
 | @dg r r' k o l c g h0 hx=>
   cases l with
   |zero=>cases u<;>exact SR.pure (hv p)
   |succ l=>cases u<;>first|exact SR.stuck|exact ni _ ⟨_,o,none⟩ ⟨_,o,none⟩ _ ⟨g,rfl,rfl⟩
 |bF o o' c' g=>cases u<;>exact SR.pure (hv p)
 |_=>cases u<;>exact SR.stuck
theorem SR.max2 (hx:VR S p x x') (hy:VR S p y y'):SR P F S K N (QV S) (Builtin.max2 x y) (Builtin.max2 x' y') p:=by
 cases hx<;>cases hy<;>first|exact SR.stuck|exact SR.unsupported|exact SR.pure (.int _ _)|skip
 rename_i s1 s2;refine SR.bind (Q:=QV S) (SR.stringOp .geq s1 s2) fun q v v' hq hv=>?_;exact(SR.asBool hv).ab fun q2 b bd=>SR.pure (.string _)
theorem SR.min2 (hx:VR S p x x') (hy:VR S p y y'):SR P F S K N (QV S) (Builtin.min2 x y) (Builtin.min2 x' y') p:=by
 cases hx<;>cases hy<;>first|exact SR.stuck|exact SR.unsupported|exact SR.pure (.int _ _)|skip
 rename_i s1 s2;refine SR.bind (Q:=QV S) (SR.stringOp .leq s1 s2) fun q v v' hq hv=>?_;exact(SR.asBool hv).ab fun q2 b bd=>SR.pure (.string _)
theorem SR.nU (f:Value->Value->Sem Value) (hf:∀{p:Pi} {x x' y y':Value},VR S p x x'->VR S p y y'->SR P F S K N (QV S) (f x y) (f x' y') p):∀(l l':List Value) {p:Pi} {x x':Value},l.length=l'.length->(∀(i:Nat) v v',l[i]?=some v->l'[i]?=some v'->VR S p v v')->VR S p x x'->
 SR P F S K N (QV S) (l.foldlM f x) (l'.foldlM f x') p
 | [],[],_,_,_,_,_,hx=>SR.pure hx
 | [],_::_,_,_,_,h,_,_=>by cases h
 |_::_,[],_,_,_,h,_,_=>by cases h
 |v::l,v'::l',p,x,x',h,g,hx=>by
  simp only[List.foldlM_cons];exact(hf hx (g 0 v v' rfl rfl)).bind fun q y y' hq hy=>SR.nU f hf l l' (by simpa using h) (fun i a b h1 h2=>(g (i+1) a b h1 h2).mono hq) hy
theorem SR.max (ts:Array TypeId) (t:TypeId) (h:AR S p xs aQ):SR P F S K N (QV S) (Builtin.max_ ts t xs) (Builtin.max_ ts t aQ) p:=by
 unfold Builtin.max_;have hl:xs.toList.length=aQ.toList.length:=by simpa using h.1
 have hg:∀(i:Nat) v v',xs.toList[i]?=some v->aQ.toList[i]?=some v'->VR S p v v':=fun i v v' a b=>h.2 i v v' (by simpa using a) (by simpa using b);revert hl hg;generalize xs.toList=l;generalize aQ.toList=l';intro hl hg;cases l<;>cases l'<;>first|(cases hl;done)|exact SR.stuck|skip
 exact SR.nU _ SR.max2 _ _ (by simpa using hl) (fun i a b h1 h2=>hg (i+1) a b h1 h2) (hg 0 _ _ rfl rfl)
theorem SR.min (ts:Array TypeId) (t:TypeId) (h:AR S p xs aQ):SR P F S K N (QV S) (Builtin.min_ ts t xs) (Builtin.min_ ts t aQ) p:=by
 unfold Builtin.min_;have hl:xs.toList.length=aQ.toList.length:=by simpa using h.1
 have hg:∀(i:Nat) v v',xs.toList[i]?=some v->aQ.toList[i]?=some v'->VR S p v v':=fun i v v' a b=>h.2 i v v' (by simpa using a) (by simpa using b);revert hl hg;generalize xs.toList=l;generalize aQ.toList=l';intro hl hg;cases l<;>cases l'<;>first|(cases hl;done)|exact SR.stuck|skip
 exact SR.nU _ SR.min2 _ _ (by simpa using hl) (fun i a b h1 h2=>hg (i+1) a b h1 h2) (hg 0 _ _ rfl rfl)
def gT (P:Program) (s d:TypeId):Bool:=match P.underlying s,P.underlying d with
 |some (.int _),some (.int _)=>true
 |some .string,some .string=>true
 |_,_=>false
theorem SR.convert (s d:TypeId) (ho:gT P s d=true) (hx:VR S p x x'):SR P F S K N (QV S) (Go.convert s d x) (Go.convert s d x') p:=by
 unfold Go.convert;refine SR.aM fun u hu=>SR.aM fun v hv=>?_;simp only[gT,hu,hv]at ho;cases u<;>first|(cases ho;done)|skip
 .cases v<;>first|(cases ho;done)|skip
  cases hx<;>first|exact SR.stuck|exact SR.pure (.int _ _)|exact SR.unsupported
 .cases v<;>first|(cases ho;done)|skip
  cases hx<;>first|exact SR.stuck|exact SR.unsupported|exact SR.pure (.string _)
inductive NX (S:Nat->Bool) (K:Kz) (p:Pi):Next->Next->Prop
 |value {v v':Value} (h:VR S p v v'):NX S K p (.value v) (.value v')
 |skip:NX S K p .skip .skip
 |enter {f:Nat} {xs aQ:Array Value} (hf:S f=true) (h:AR S p xs aQ):NX S K p (.enter f xs) (.enter f aQ)
 |round {l l' f:Nat} {xs aQ:Array Value} {a b:Code} (hl:p l l') (hf:S f=true) (h:AR S p xs aQ) (ha:K a) (hb:K b) (hz:K (.label (100000+f))):NX S K p (.round l f xs a b) (.round l' f aQ a b)
abbrev QX (S:Nat->Bool) (K:Kz):Pi->Next->Next->Prop:=fun q a b=>NX S K q a b
def gU (P:Program) (F:Array Func) (S:Nat->Bool):Prop:=∀f,S f=true->(P.funcs[f]?=none/\F[f]?=none)\/
 ∃fn gq,P.funcs[f]? =some fn/\F[f]? =some gq/\fn.body.isSome=true/\gq.body.isSome=true/\fn.name≠ "runtime.NumGoroutine" /\gq.name≠ "runtime.NumGoroutine"
theorem SR.callFunc (hb:gU P F S) {f:Nat} (hf:S f=true) (h:AR S p xs aQ):SR P F S K N (QX S K) (Go.callFunc f xs) (Go.callFunc f aQ) p:=by
 unfold Go.callFunc;refine SR.d9 ?_
 have key:∀fn:Func,fn.body.isSome=true->fn.name≠ "runtime.NumGoroutine" ->fn.body.isNone=false/\(fn.name== "runtime.NumGoroutine")=false:=fun fn h2 h3=>
  ⟨by cases hx:fn.body<;>simp[hx]at h2⊢,by simpa using h3⟩
 rcases hb f hf with⟨h1,h2⟩|⟨fn,gq,h1,h2,h3,h4,h5,h6⟩
 .rw[h1];exact SR.stuck
 .have mG:(aa P F).funcs[f]?=some gq:=h2;rw[h1,mG];simp only[key fn h3 h5,key gq h4 h6,Bool.false_eq_true,if_false];exact SR.pure (.enter hf h)
theorem rF (ps:Array Nat) {as bs:Array Value} (h:AR S p xs ys) (k:AR S p as bs):AR S p ((ps.zip xs).foldl (fun ts (t,a)=>ts.setIfInBounds t a) as) ((ps.zip ys).foldl (fun ts (t,a)=>ts.setIfInBounds t a) bs):=by
 rw[<-Array.foldl_toList,<-Array.foldl_toList,Array.toList_zip,Array.toList_zip];have hx:∀(i:Nat) v v',xs.toList[i]?=some v->ys.toList[i]?=some v'->VR S p v v':=fun i v v' a b=>h.2 i v v' (by simpa using a) (by simpa using b);have hl:xs.toList.length=ys.toList.length:=by simpa using h.1
 revert hx hl;generalize xs.toList=l;generalize ys.toList=l';generalize ps.toList=m;intro hx hl;clear h;induction m generalizing l l' as bs with
 |nil=>exact k
 |cons t m ih=>
  cases l<;>cases l'<;>first|(cases hl;done)|skip
  .exact k
  .rename_i v l v' l';simp only[List.zip_cons_cons,List.foldl_cons];exact ih (k.set t (hx 0 v v' rfl rfl)) l l' (fun i a b h1 h2=>hx (i+1) a b h1 h2) (by simpa using hl)
theorem SR.yield (hl:p l l') (h:AR S p xs aQ):SR P F S K N (QX S K) (Instr.yield l xs) (Instr.yield l' aQ) p:=by
 unfold Instr.yield Instr.getLoop;refine SR.bind (Q:=fun q (a b:Loop)=>OR S K q (.loop a) (.loop b)) ?_ fun q r r' hq hr=>?_
 .refine(SR.getObj hl).bind fun q o o' hq ho=>?_;have Lz:=ho;cases ho with
  |loop h1 h2 h3 h4 h5 h6 h7 h8 k1 k2 k3 k4 k5=>exact SR.pure Lz
  |_=>exact SR.stuck
 .cases hr with
  |loop h1 h2 h3 h4 h5 h6 h7 h8 k1 k2 k3 k4 k5=>
   have h:=h.mono hq;rw[<-h.1,<-h5,<-h3,<-h6,<-h7];dsimp only;refine SR.ite (fun _=>SR.stuck) fun _=>?_;exact SR.pure (.round (hq _ _ hl) k1 (rF r.params h h4) k2 k3 k5)
def cY (P:Program) (S:Nat->Bool):Operand->Bool
 |.tmp _=>true
 |.const v=>plain 50 v
 |.global g=>decide (g<P.globals.size)&&S (P.funcs.size+g)
 |.func f=>S f
def ic (P:Program) (S:Nat->Bool) (c:Call):Bool:=
 match c.callee with
 |.builtin .append=>j0 P c.argTypes
 |.builtin .len=>nS P c.argTypes
 |.builtin .copy|.builtin .clear|.builtin .max|.builtin .min=>true
 |.value f=>cY P S f
 |_=>false
def jl (P:Program) (S:Nat->Bool) (o:Op):Bool:=
 o.operands.all (cY P S)&&match o with
 |.move _|.assign _|.pick _ _ _|.alloc _|.box _ _|.build _ _|.buildSlice _ _ _|.load _ _|.store _ _ _|.unOp _ _ _|.makeSlice _ _ _|.field _ _ _|.indexAddr _ _ _|.index _ _ _|.extract _ _=>true
 |.nilCheck _=>true
 |.makeMap _ none=>true
 |.binOp op t _ _ _=>ee P op t
 |.convert s d _=>gT P s d
 |.makeFunc (.func f) _ _=>S f
 |.fieldAddr t _ f=>match P.underlying t with
  |some (.struct fs)=>(match fs[f]? with|some g=>(match P.info? g.type with|some i=>i.size !=0|none=>true)|none=>true)
  |_=>true
 |.lookup t _ _ _=>ib P t
 |.mapUpdate t _ _ _=>ib P t
 |.call c=>ic P S c
 |_=>false
def ma:Value->Bool
 |.slice (some a) _ _=>a.spot.isNone
 |_=>true
theorem qm (h:ma v=true) (e:v=.slice (some a) l c):a.spot=none:=by
 subst e;simpa [ma]using h
def i6 (r:Operand->Value):Op->Bool
 |.call ⟨.builtin _,as,_⟩=>match as[0]? with|some x=>ma (r x)|none=>true
 |.slice _ x _ _ _=>ma (r x)
 |_=>true
structure ie (P:Program) (S:Nat->Bool) (p:Pi) (r r':Operand->Value):Prop where
 tmp:∀t,VR S p (r (.tmp t)) (r' (.tmp t))
 const:∀v,r (.const v)=v/\r' (.const v)=v
 global:∀g,g<P.globals.size->S (P.funcs.size+g)=true->VR S p (r (.global g)) (r' (.global g))
 func:∀f,r (.func f)=.func (.func f) #[] #[]/\r' (.func f)=.func (.func f) #[] #[]
theorem ie.at {r r':Operand->Value} (h:ie P S p r r') {x:Operand} (hx:cY P S x=true):VR S p (r x) (r' x):=by
 cases x with
 |tmp t=>exact h.tmp t
 |const v=>rw[(h.const v).1,(h.const v).2];exact VR.plain 50 v hx
 |global g=>
  simp only[cY,Bool.and_eq_true,decide_eq_true_eq]at hx;exact h.global g hx.1 hx.2
 |func f=>
  rw[(h.func f).1,(h.func f).2];exact .func hx rfl rfl (fun i v v' e=>by simp at e) (fun i v v' e=>by simp at e)
theorem ie.many {r r':Operand->Value} (h:ie P S p r r') {xs:Array Operand} (hx:∀x∈xs,cY P S x=true):AR S p (xs.map r) (xs.map r'):=AR.map xs r r' fun x m=>h.at (hx x m)
theorem ie.opt {r r':Operand->Value} (h:ie P S p r r') {x:Option Operand} (hx:∀y,x=some y->cY P S y=true):OV S p (x.map r) (x.map r'):=by
 cases x with
 |none=>trivial
 |some y=>exact h.at (hx y rfl)
theorem SR.aJ {s s':Sem Value} (h:SR P F S K N (QV S) s s' p):SR P F S K N (QX S K) (s>>=fun v=>Pure.pure (.value v)) (s'>>=fun v=>Pure.pure (.value v)) p:=h.bind fun q v v' hq hv=>SR.pure (.value hv)
theorem SR.nV {s s':Sem Unit} (h:SR P F S K N (QE Unit) s s' p):SR P F S K N (QX S K) (s>>=fun _=>Pure.pure .skip) (s'>>=fun _=>Pure.pure .skip) p:=h.ab fun q v hq=>SR.pure .skip
theorem SR.eT (hb:gU P F S) {f f':Value} (hf:VR S p f f') (h:AR S p xs aQ):
 SR P F S K N (QX S K) (Deferred.ofValue f xs>>=fun d=>invoke d.target d.args) (Deferred.ofValue f' aQ>>=fun d=>invoke d.target d.args) p:=by
 cases hf<;>first|exact SR.stuck|skip
 .rename_i f fs LA cs fA hS h1 h2 g1 g2;have a1:AR S p fs LA:=⟨h1,g1⟩
  have a2:AR S p cs fA:=⟨h2,g2⟩
  exact SR.callFunc hb hS ((a1.append h).append a2)
 .rename_i l l' hl;show SR P F S K N (QX S K) (Instr.yield l (#[]++xs)) (Instr.yield l' (#[]++aQ)) p;rw[Array.empty_append,Array.empty_append];exact SR.yield hl h
 .exact SR.nilDeref
end
section
variable {P:Program} {F:Array Func} {S:Nat->Bool} {K:Kz} {N:Nat} {p:Pi}
theorem SR.execOp (hz:au P) (hc:ai P) (hb:gU P F S) {r r':Operand->Value} (h:ie P S p r r') (o:Oper) (ho:jl P S o.op=true) (hE:i6 r o.op=true):SR P F S K N (QX S K) (Go.execOp r o) (Go.execOp r' o) p:=by
 unfold Go.execOp;obtain⟨dst,op,ty,pos,af,gd⟩:=o;simp only at ho⊢;unfold jl at ho;simp only[Bool.and_eq_true]at ho;obtain⟨lW,bq⟩:=ho
 have aG:∀x∈op.operands,cY P S x=true:=by
  intro x hx;obtain⟨i,hi,he⟩:=Array.mem_iff_getElem.1 hx;have:=Array.all_eq_true.1 lW i hi;rw[he]at this;exact this
 cases op<;>try(simp only[Bool.false_eq_true]at bq)
 case move x=>exact SR.pure (.value (h.at (aG x (by simp[Op.operands]))))
 case assign x=>exact SR.pure (.value (h.at (aG x (by simp[Op.operands]))))
 case pick c a b=>
  refine(SR.asBool (h.at (aG c (by simp[Op.operands])))).ab fun q t hq=>?_;cases t with
  |true=>exact SR.pure (.value ((h.at (aG a (by simp[Op.operands]))).mono hq))
  |false=>exact SR.pure (.value ((h.at (aG b (by simp[Op.operands]))).mono hq))
 case alloc e=>exact SR.aJ (SR.alloc hz e)
 case box e x=>exact SR.aJ (SR.box e (h.at (aG x (by simp[Op.operands]))))
 case build t ps=>
  refine SR.aJ (SR.build hz t ?_);rw[Array.toList_map,Array.toList_map];refine PL.map _ r r' fun x hx=>h.at (aG x.2 ?_)
  simp only[Op.operands,List.mem_toArray,List.mem_map];exact⟨x,hx,rfl⟩
 case buildSlice t n ps=>
  refine SR.aJ (SR.buildSlice hz t n ?_);rw[Array.toList_map,Array.toList_map];refine PL.map _ r r' fun x hx=>h.at (aG x.2 ?_)
  simp only[Op.operands,List.mem_toArray,List.mem_map];exact⟨x,hx,rfl⟩
 case load t a=>exact SR.aJ (SR.loadAt t (h.at (aG a (by simp[Op.operands]))))
 case store t a x=>exact SR.nV (SR.storeAt t (h.at (aG a (by simp[Op.operands]))) (h.at (aG x (by simp[Op.operands]))))
 case nilCheck x=>
  have hx:=h.at (aG x (by simp[Op.operands]))
  dsimp only;revert hx;generalize r x=v;generalize r' x=v';intro hx;have mE:=hx;cases hx<;>first|exact SR.nilDeref|exact SR.pure (Q:=QX S K) (NX.value mE)
 case binOp op t x y t2=>
  have hx:=h.at (aG x (by simp[Op.operands]))
  have hy:=h.at (aG y (by simp[Op.operands]))
  refine SR.aJ ((SR.eqGuard op t bq x y hx hy).ab fun q _ hq=>SR.binOp hc op t bq (hx.mono hq) (hy.mono hq))
 case unOp op t x=>exact SR.aJ (SR.unary op (h.at (aG x (by simp[Op.operands]))))
 case convert s d x=>exact SR.aJ (SR.convert s d bq (h.at (aG x (by simp[Op.operands]))))
 case makeFunc fn fs cs=>
  cases fn<;>simp only[Bool.false_eq_true]at bq;rename_i f;have h1:AR S p (fs.map r) (fs.map r'):=h.many fun x hx=>aG x (by simp[Op.operands,hx]);have h2:AR S p (cs.map r) (cs.map r'):=h.many fun x hx=>aG x (by simp[Op.operands,hx]);exact SR.pure (.value (.func bq h1.1 h2.1 h1.2 h2.2))
 case makeMap t rs=>
  cases rs<;>simp only[Bool.false_eq_true]at bq;exact SR.aJ (SR.makeMap t)
 case makeSlice t l c=>exact SR.aJ (SR.makeSlice hz t (h.at (aG l (by simp[Op.operands]))) (h.at (aG c (by simp[Op.operands]))))
 case fieldAddr t x f=>
  refine SR.aJ (SR.fieldAt t f ?_ (h.at (aG x (by simp[Op.operands]))));intro fs g i hu hg hi;simp only[hu,hg,hi]at bq;simpa using bq
 case field t x f=>exact SR.aJ (SR.field t f (h.at (aG x (by simp[Op.operands]))))
 case indexAddr t x i=>exact SR.aJ (SR.indexAt t (h.at (aG x (by simp[Op.operands]))) (h.at (aG i (by simp[Op.operands]))))
 case index t x i=>exact SR.aJ (SR.index t (h.at (aG x (by simp[Op.operands]))) (h.at (aG i (by simp[Op.operands]))))
 case lookup t x i ok=>exact SR.aJ (SR.lookup hz hc t bq ok (h.at (aG x (by simp[Op.operands]))) (h.at (aG i (by simp[Op.operands]))))
 case mapUpdate t m k x=>exact SR.nV (SR.mapUpdate hc t bq (h.at (aG m (by simp[Op.operands]))) (h.at (aG k (by simp[Op.operands]))) (h.at (aG x (by simp[Op.operands]))))
 case extract x i=>exact SR.aJ (SR.extract (h.at (aG x (by simp[Op.operands]))) i)
 case call c=>
  obtain⟨cl,as,ts⟩:=c;have ha:AR S p (as.map r) (as.map r'):=h.many fun x hx=>aG x (by simp[Op.operands,Call.operands,hx]);unfold ic at bq;cases cl<;>simp only[Bool.false_eq_true]at bq;case value f=>exact SR.eT hb (h.at bq) ha
  case builtin b=>
   have TU:∀a l c,(as.map r)[0]?=some (.slice (some a) l c)->a.spot=none:=by
    intro a l c e;rw[Array.getElem?_map]at e;cases h0:as[0]? with
    |none=>rw[h0]at e;cases e
    |some x=>
     rw[h0]at e;simp only[Option.map_some,Option.some.injEq]at e;simp only[i6,h0]at hE;exact qm hE e
   cases b<;>simp only[Bool.false_eq_true]at bq;case append=>exact SR.aJ (SR.append ts bq ty ha TU)
   case len=>exact SR.aJ (SR.len ts bq ty ha)
   case copy=>exact SR.aJ (SR.copy ts ty ha TU)
   case clear=>exact SR.aJ (SR.clear hz ts ty ha)
   case max=>exact SR.aJ (SR.max ts ty ha)
   case min=>exact SR.aJ (SR.min ts ty ha)
theorem SR.Ew (ye:S 999999=false) {r r':Operand->Value} (h:ie P S p r r') (o:Oper) {x:Operand} {lo hi mx:Option Operand} (ho:o.op=.slice t x lo hi mx) (aG:∀y∈o.op.operands,cY P S y=true) (hE:ma (r x)=true):
 SR P F S K N (fun q n n'=>QX S K q n n'\/(mx=none/\∃v v',n=.value v/\n'=.value v'/\Eu q (r x) v v')) (Go.execOp r o) (Go.execOp r' o) p:=by
 unfold Go.execOp;obtain⟨dst,op,ty,pos,af,gd⟩:=o;simp only at ho aG⊢;subst ho;simp only
 have key:SR P F S K N (fun q v v'=>VR S q v v'\/(mx.map r=none/\Eu q (r x) v v')) (Instr.sliceAt t (r x) (lo.map r) (hi.map r) (mx.map r)) (Instr.sliceAt t (r' x) (lo.map r') (hi.map r') (mx.map r')) p:=by
  have hx:=h.at (aG x (by simp[Op.operands]))
  have h1:OV S p (lo.map r) (lo.map r'):=h.opt fun y hy=>aG y (by simp[Op.operands,hy]);have h2:OV S p (hi.map r) (hi.map r'):=h.opt fun y hy=>aG y (by simp[Op.operands,hy]);have h3:OV S p (mx.map r) (mx.map r'):=h.opt fun y hy=>aG y (by simp[Op.operands,hy]);unfold Instr.sliceAt;refine SR.aM fun u hu=>?_;cases u with
  |array n e=>
   refine(SR.sureAddr hx).bind fun q a a' hq ha=>?_;refine(SR.sliceBounds false n n (h1.mono hq) (h2.mono hq) (h3.mono hq)).ab fun q2 b bd=>?_;obtain⟨l,hh,m⟩:=b;simp only;refine(SR.sizeOf e).ab fun q3 s dK=>?_;have ha:=(ha.mono bd).mono dK;split
   .exact SR.pure (.inl (ha.sl (fun h=>by rw[ye]at h;cases h) _ _))
   .exact SR.pure (.inl ((ha.add _).sl (fun h=>by rw[ye]at h;cases h) _ _))
  |_=>exact SR.slice ye t hx (fun b l c e=>qm hE e) h1 h2 h3
 exact key.bind fun q v v' hq hv=>SR.pure (hv.elim (fun a=>.inl (.value a)) fun a=>.inr ⟨by cases mx<;>simp_all,v,v',rfl,rfl,a.2⟩)
end
inductive Tr where
 |leaf
 |node (v:Option Obj) (l r:Tr)
def Tr.get:Tr->Nat->Option Obj
 |.leaf,_=>none
 |.node v l r,n=>bif Nat.beq n 0 then v else bif Nat.beq (n%2) 1 then l.get (n/2)else r.get (n/2-1)
def Tr.set:Nat->Tr->Nat->Option Obj->Tr
 |0,t,_,_=>t
 |f+1,.leaf,n,o=>bif Nat.beq n 0 then .node o .leaf .leaf else bif Nat.beq (n%2) 1 then .node none (Tr.set f .leaf (n/2) o) .leaf else .node none .leaf (Tr.set f .leaf (n/2-1) o)
 |f+1,.node v l r,n,o=>bif Nat.beq n 0 then .node o l r else bif Nat.beq (n%2) 1 then .node v (Tr.set f l (n/2) o) r else .node v l (Tr.set f r (n/2-1) o)
theorem P5 (h:n=0):Nat.beq n 0=true:=by subst h;rfl
theorem fm (h:n≠m):Nat.beq n m=false:=by
 cases hx:Nat.beq n m with
 |false=>rfl
 |true=>exact absurd (Nat.eq_of_beq_eq_true hx) h
theorem zz (h:n=m):Nat.beq n m=true:=by subst h;exact Nat.beq_refl n
theorem Tr.jL:∀(f:Nat) (t:Tr) (n:Nat) (o:Option Obj) (m:Nat),n<f->(t.set f n o).get m=if m=n then o else t.get m
 |0,_,_,_,_,h=>absurd h (Nat.not_lt_zero _)
 |f+1,t,n,o,m,h=>by
  have ih:=Tr.jL f;by_cases n0:n=0
  .subst n0;cases t<;>simp only[Tr.set,P5,cond_true]
   .by_cases hm:m=0
    .subst hm;simp[Tr.get]
    .simp only[Tr.get,fm hm,cond_false,hm,if_false];cases Nat.beq (m%2) 1<;>rfl
   .by_cases hm:m=0
    .subst hm;simp[Tr.get]
    .simp only[Tr.get,fm hm,cond_false,hm,if_false]
  .by_cases n1:n%2=1
   .have e1:=ih (.leaf) (n/2) o (m/2) (by omega);cases t with
    |leaf=>
     simp only[Tr.set,fm n0,cond_false,zz n1,cond_true];by_cases hm:m=0
     .subst hm;have:¬0=n:=by omega
      simp[Tr.get,this]
     .by_cases m1:m%2=1
      .simp only[Tr.get,fm hm,cond_false,zz m1,cond_true,ih _ (n/2) o (m/2) (by omega)];by_cases e:m=n
       .simp[e]
       .have:¬m/2=n/2:=by omega
        simp[e,this]
      .have:¬m=n:=by intro e;subst e;exact m1 n1
       simp only[Tr.get,fm hm,cond_false,fm m1,this,if_false]
    |node v l r=>
     simp only[Tr.set,fm n0,cond_false,zz n1,cond_true];by_cases hm:m=0
     .subst hm;have:¬0=n:=by omega
      simp[Tr.get,this]
     .by_cases m1:m%2=1
      .simp only[Tr.get,fm hm,cond_false,zz m1,cond_true,ih _ (n/2) o (m/2) (by omega)];by_cases e:m=n
       .simp[e]
       .have:¬m/2=n/2:=by omega
        simp[e,this]
      .have:¬m=n:=by intro e;subst e;exact m1 n1
       simp only[Tr.get,fm hm,cond_false,fm m1,this,if_false]
   .cases t with
    |leaf=>
     simp only[Tr.set,fm n0,cond_false,fm n1];by_cases hm:m=0
     .subst hm;have:¬0=n:=by omega
      simp[Tr.get,this]
     .by_cases m1:m%2=1
      .have:¬m=n:=by intro e;subst e;exact n1 m1
       simp only[Tr.get,fm hm,cond_false,zz m1,cond_true,this,if_false]
      .simp only[Tr.get,fm hm,cond_false,fm m1,ih _ (n/2-1) o (m/2-1) (by omega)];by_cases e:m=n
       .simp[e]
       .have:¬m/2-1=n/2-1:=by omega
        simp[e,this]
    |node v l r=>
     simp only[Tr.set,fm n0,cond_false,fm n1];by_cases hm:m=0
     .subst hm;have:¬0=n:=by omega
      simp[Tr.get,this]
     .by_cases m1:m%2=1
      .have:¬m=n:=by intro e;subst e;exact n1 m1
       simp only[Tr.get,fm hm,cond_false,zz m1,cond_true,this,if_false]
      .simp only[Tr.get,fm hm,cond_false,fm m1,ih _ (n/2-1) o (m/2-1) (by omega)];by_cases e:m=n
       .simp[e]
       .have:¬m/2-1=n/2-1:=by omega
        simp[e,this]
structure Hp where
 n:Nat
 t:Tr
def Hp.get (H:Hp) (r:Nat):Option Obj:=H.t.get r
def Hp.put (H:Hp) (r:Nat) (o:Option Obj):Hp:=⟨H.n,H.t.set (r+1) r o⟩
def Hp.push (H:Hp) (o:Obj):Hp:=⟨H.n+1,H.t.set (H.n+1) H.n (some o)⟩
theorem Hp.get_put (H:Hp) (r:Nat) (o:Option Obj) (m:Nat):(H.put r o).get m=if m=r then o else H.get m:=Tr.jL _ _ _ _ _ (Nat.lt_succ_self r)
theorem Hp.iq (H:Hp) (o:Obj) (m:Nat):(H.push o).get m=if m=H.n then some o else H.get m:=Tr.jL _ _ _ _ _ (Nat.lt_succ_self _)
def cu:Value->Bool
 |.agg _|.tuple _=>false
 |_=>true
theorem VR.cu {S:Nat->Bool} {p:Pi} (h:VR S p v v'):Ev.cu v=Ev.cu v':=by cases h<;>rfl
abbrev Rs (α:Type):=Option (α×Hp×Nat×Nat)
def t7 (b:Nat):Rs α->Rs α
 |some (a,H,R,W)=>some (a,H,R|||2^b,W)
 |none=>none
def t8 (b:Nat):Rs α->Rs α
 |some (a,H,R,W)=>some (a,H,R,W|||2^b)
 |none=>none
theorem eH {b:Nat} {x:Rs α} {a:α} {H:Hp} (h:t7 b x=some (a,H,R,W)):∃R0,x=some (a,H,R0,W)/\R=R0|||2^b:=by
 cases x with
 |none=>cases h
 |some y=>obtain⟨a1,H1,R1,W1⟩:=y;simp only[t7,Option.some.injEq,Prod.mk.injEq]at h;obtain⟨rfl,rfl,rfl,rfl⟩:=h;exact⟨_,rfl,rfl⟩
theorem fF {b:Nat} {x:Rs α} {a:α} {H:Hp} (h:t8 b x=some (a,H,R,W)):∃W0,x=some (a,H,R,W0)/\W=W0|||2^b:=by
 cases x with
 |none=>cases h
 |some y=>obtain⟨a1,H1,R1,W1⟩:=y;simp only[t8,Option.some.injEq,Prod.mk.injEq]at h;obtain⟨rfl,rfl,rfl,rfl⟩:=h;exact⟨_,rfl,rfl⟩
def an (P:Program):Sem α->Hp->Rs α
 |.pure a,H=>some (a,H,0,0)
 |.load _ a k,H=>match H.get a.block with
  |some (.cells c _ _)=>match a.spot with
   |none=>match c[a.off]? with
    |some v=>t7 a.block (an P (k v) H)
    |none=>none
   |some _=>none
  |_=>none
 |.store _ a v k,H=>bif cu v then match H.get a.block with
    |some (.cells c e fz)=>match a.spot with
     |none=>bif Nat.blt a.off c.size&&!(Nat.ble fz.1 a.off&&Nat.blt a.off fz.2)then t8 a.block (an P k (H.put a.block (some (.cells (c.setIfInBounds a.off v) e fz))))else none
     |some _=>none
    |_=>none
  else none
 |.new o k,H=>t8 H.n (an P (k H.n) (H.push o))
 |.getObj r k,H=>match H.get r with
  |some (.cells ..)=>none
  |some o=>t7 r (an P (k o) H)
  |none=>none
 |.setObj r o k,H=>match H.get r with
  |some (.cells ..)=>none
  |some _=>t8 r (an P k (H.put r (some o)))
  |none=>none
 |.program k,H=>an P (k P) H
 |.mark m k,H=>match m with
  |.noRoom=>an P k H
  |_=>none
 |.shape ..,_|.freeze ..,_|.frozen ..,_|.choose ..,_|.sys ..,_|.halt _,_=>none
theorem wC {P:Program}:∀(s:Sem α),cP P s->∀H,an P s H=none:=by
 intro s;induction s with
 |pure a=>intro h;exact h.elim
 |load m a k ih=>
  intro h H;simp only[an];split<;>try rfl
  split<;>try rfl
  split<;>try rfl
  rw[ih _ (h _)];rfl
 |store m a v k ih=>
  intro h H;simp only[an];cases cu v<;>simp only[cond_true,cond_false];split<;>try rfl
  split<;>try rfl
  rw[ih h];cases(Nat.blt _ _&&_)<;>rfl
 |new o k ih=>intro h H;simp only[an];rw[ih _ (h _)];rfl
 |shape r k ih=>intro h H;rfl
 |freeze a n k ih=>intro h H;rfl
 |frozen a k ih=>intro h H;rfl
 |getObj r k ih=>
  intro h H;simp only[an];split<;>try rfl
  rw[ih _ (h _)];rfl
 |setObj r o k ih=>
  intro h H;simp only[an];split<;>try rfl
  rw[ih h];rfl
 |choose q k ih=>intro h H;rfl
 |sys c k ih=>intro h H;rfl
 |program k ih=>intro h H;exact ih P h H
 |mark m k ih=>
  intro h H;simp only[an];split
  .exact ih h H
  .rfl
 |halt x=>intro h H;rfl
def Ey (P:Program) (e:TypeId):Nat:=((P.info? e).map (·.size)).getD 1
def Room (P:Program) (o o':Obj) (k:Nat):Prop:=∃c e fz c' dQ,o=.cells c e fz/\o'=.cells c' e dQ/\c'.size=c.size+k*Ey P e/\(c.size=0\/k+1<2^63)/\fz≠(0,0)
structure Rl (P:Program) (S:Nat->Bool) (K:Kz) (p:Pi) (H:Nat->Option Obj) (F:Nat->Prop) (w:World):Prop where
 blk:∀r,F r->∀o,H r=some o->∃r' o',p r r'/\w.heap[r']?=some o'/\OR S K p o o'/\(∀k,p.x r k->Room P o o' k)/\((∃k,p.x r k)\/fR o o')
 inj:∀r s r',F r->F s->(H r).isSome->(H s).isSome->p r r'->p s r'->r=s
 lt:∀r r',p r r'->r'<w.heap.size
 xm:∀r k,p.x r k->∃r',p r r'
 ok:kN P p
 dY:P.globals.size<=w.heap.size
structure Mv (W:Nat->Prop) (p:Pi) (n:Nat) (w:World) (q:Pi) (n1:Nat) (w1:World):Prop where
 le:Le p q
 nn:n<=n1
 new:∀r r',q r r'->p r r'\/(n<=r/\r<n1/\(w.heap.size<=r'\/∃s,W s/\p s r'))
 rY:∀r k,q.x r k->p.x r k\/(n<=r/\r<n1)
 size:w.heap.size<=w1.heap.size
 keep:∀r',r'<w.heap.size->(∀r,W r->¬p r r')->w1.heap[r']?=w.heap[r']?
theorem Mv.refl (W:Nat->Prop) (p:Pi) (n:Nat) (w:World):Mv W p n w p n w:=⟨Le.refl p,Nat.le_refl n,fun _ _ h=>.inl h,fun _ _ h=>.inl h,Nat.le_refl _,fun _ _ _=>rfl⟩
theorem Mv.trans {W2 W:Nat->Prop} {p s:Pi} {n2:Nat} {w:World} (h:Mv W1 p n w q n1 w1) (k:Mv W2 q n1 w1 s n2 w2) (h1:∀r,W1 r->W r) (h2:∀r,W2 r->W r):Mv W p n w s n2 w2:=by
 have hn:=h.nn;have kn:=k.nn;refine⟨h.le.trans k.le,Nat.le_trans h.nn k.nn,fun r r' x=>?_,fun r j x=>?_,Nat.le_trans h.size k.size,fun r' mC hW=>?_⟩
 .rcases k.new r r' x with x|⟨a1,a2,a3⟩
  .rcases h.new r r' x with x|⟨b1,b2,b3⟩
   .exact .inl x
   .exact .inr ⟨b1,by omega,b3.imp id fun⟨u,c1,c2⟩=>⟨u,h1 u c1,c2⟩⟩
  .refine .inr ⟨by omega,a2,?_⟩;rcases a3 with a3|⟨u,c1,c2⟩
   .exact .inl (Nat.le_trans h.size a3)
   .rcases h.new u r' c2 with y|⟨_,_,y|⟨v,d1,d2⟩⟩
    .exact .inr ⟨u,h2 u c1,y⟩
    .exact .inl y
    .exact .inr ⟨v,h1 v d1,d2⟩
 .rcases k.rY r j x with x|⟨a1,a2⟩
  .rcases h.rY r j x with x|⟨b1,b2⟩
   .exact .inl x
   .exact .inr ⟨b1,by omega⟩
  .exact .inr ⟨by omega,a2⟩
 .rw[k.keep r' (Nat.lt_of_lt_of_le mC h.size) fun r hr x=>?_,h.keep r' mC fun r hr=>hW r (h1 r hr)];rcases h.new r r' x with y|⟨_,_,y|⟨v,d1,d2⟩⟩
  .exact hW r (h2 r hr) y
  .omega
  .exact hW v (h1 v d1) d2
theorem Mv.mono {W:Nat->Prop} {p:Pi} {w:World} (h:Mv W1 p n w q n1 w1) (h1:∀r,W1 r->W r):Mv W p n w q n1 w1:=
 (Mv.refl (fun _=>False) p n w).trans h (fun _ x=>x.elim) h1
structure Ft (H:Hp) (R W:Nat) (H1:Hp):Prop where
 nn:H.n<=H1.n
 same:∀r,W.testBit r=false->H1.get r=H.get r
 wr:∀r,W.testBit r=true->(H.n<=r/\r<H1.n)\/(H.get r).isSome
 rd:∀r,R.testBit r=true->(H.n<=r/\r<H1.n)\/(H.get r).isSome
 nw:∀r,H.n<=r->r<H1.n->W.testBit r=true
theorem Ft.alive {H H1:Hp} (h:Ft H R W H1) (r:Nat) (x:(H1.get r).isSome):(H.n<=r/\r<H1.n)\/(H.get r).isSome:=by
 cases hw:W.testBit r with
 |false=>rw[h.same r hw]at x;exact .inr x
 |true=>exact h.wr r hw
theorem Ft.refl (H:Hp):Ft H 0 0 H:=⟨Nat.le_refl _,fun _ _=>rfl,fun r h=>by simp at h,fun r h=>by simp at h,fun r a b=>by omega⟩
theorem Ft.trans {H H1 H2:Hp} {R1 W1 R2 W2:Nat} (h:Ft H R1 W1 H1) (k:Ft H1 R2 W2 H2):Ft H (R1|||R2) (W1|||W2) H2:=by
 have hn:=h.nn;have kn:=k.nn;refine⟨Nat.le_trans h.nn k.nn,fun r x=>?_,fun r x=>?_,fun r x=>?_,fun r a b=>?_⟩
 .rw[Nat.testBit_or,Bool.or_eq_false_iff]at x;rw[k.same r x.2,h.same r x.1]
 .rw[Nat.testBit_or,Bool.or_eq_true]at x;rcases x with x|x
  .exact(h.wr r x).imp (fun⟨a,b⟩=>⟨a,by omega⟩) id
  .rcases k.wr r x with⟨a,b⟩|y
   .exact .inl ⟨by omega,b⟩
   .exact(h.alive r y).imp (fun⟨a,b⟩=>⟨a,by omega⟩) id
 .rw[Nat.testBit_or,Bool.or_eq_true]at x;rcases x with x|x
  .exact(h.rd r x).imp (fun⟨a,b⟩=>⟨a,by omega⟩) id
  .rcases k.rd r x with⟨a,b⟩|y
   .exact .inl ⟨by omega,b⟩
   .exact(h.alive r y).imp (fun⟨a,b⟩=>⟨a,by omega⟩) id
 .rw[Nat.testBit_or,Bool.or_eq_true];rcases Nat.lt_or_ge r H1.n with c|c
  .exact .inl (h.nw r a c)
  .exact .inr (k.nw r c b)
theorem tb (b r:Nat):(2^b).testBit r=true↔r=b:=by rw[Nat.testBit_two_pow];simp[eq_comm]
theorem TV (b r:Nat):(2^b).testBit r=false↔r≠b:=by rw[<-Bool.not_eq_true,tb]
theorem Ft.read {H:Hp} {b:Nat} (h:(H.get b).isSome):Ft H (2^b) 0 H:=
 ⟨Nat.le_refl _,fun _ _=>rfl,fun r x=>by simp at x,fun r x=>.inr (by rw[tb]at x;subst x;exact h),fun r a b=>by omega⟩
theorem Ft.write {H:Hp} {b:Nat} (h:(H.get b).isSome) (o:Option Obj):Ft H 0 (2^b) (H.put b o):=
 ⟨Nat.le_refl _,fun r x=>by rw[TV]at x;rw[Hp.get_put,if_neg x],fun r x=>.inr (by rw[tb]at x;subst x;exact h),fun r x=>by simp at x,fun r a b=>by simp[Hp.put]at b;omega⟩
theorem Ft.new (H:Hp) (o:Obj):Ft H 0 (2^H.n) (H.push o):=
 ⟨by simp[Hp.push],fun r x=>by rw[TV]at x;rw[Hp.iq,if_neg x],fun r x=>.inl (by rw[tb]at x;subst x;simp[Hp.push]),fun r x=>by simp at x,fun r a b=>by rw[tb];simp[Hp.push]at b;omega⟩
theorem be (P:Program):∀(s:Sem α) {H:Hp} {a:α} {H1:Hp} {R W:Nat},an P s H=some (a,H1,R,W)->Ft H R W H1:=by
 intro s;induction s with
 |pure a=>intro H b H1 R W h;simp only[an,Option.some.injEq,Prod.mk.injEq]at h;obtain⟨rfl,rfl,rfl,rfl⟩:=h;exact Ft.refl _
 |load m a k ih=>
  intro H b H1 R W h;simp only[an]at h;split at h<;>try(cases h;done)
  rename_i c e fz hg;split at h<;>try(cases h;done)
  split at h<;>try(cases h;done)
  obtain⟨R0,h2,rfl⟩:=eH h;have:=(Ft.read (H:=H) (b:=a.block) (by rw[hg];rfl)).trans (ih _ h2);rw[Nat.zero_or,Nat.or_comm]at this;exact this
 |store m a v k ih=>
  intro H b H1 R W h;simp only[an]at h;cases hc:cu v<;>rw[hc]at h<;>simp only[cond_true,cond_false]at h
  .cases h
  split at h<;>try(cases h;done)
  rename_i c e fz hg;split at h<;>try(cases h;done)
  cases hb:(Nat.blt a.off c.size&&!(Nat.ble fz.1 a.off&&Nat.blt a.off fz.2))<;>rw[hb]at h<;>simp only[cond_true,cond_false]at h
  .cases h
  obtain⟨W0,h2,rfl⟩:=fF h;have:=(Ft.write (H:=H) (b:=a.block) (by rw[hg];rfl) _).trans (ih h2);rw[Nat.zero_or,Nat.or_comm]at this;exact this
 |new o k ih=>
  intro H b H1 R W h;simp only[an]at h;obtain⟨W0,h2,rfl⟩:=fF h;have:=(Ft.new H o).trans (ih _ h2);rw[Nat.zero_or,Nat.or_comm]at this;exact this
 |getObj r k ih=>
  intro H b H1 R W h;simp only[an]at h;split at h<;>try(cases h;done)
  rename_i o hg;obtain⟨R0,h2,rfl⟩:=eH h;have:=(Ft.read (H:=H) (b:=r) (by rw[hg];rfl)).trans (ih _ h2);rw[Nat.zero_or,Nat.or_comm]at this;exact this
 |setObj r o k ih=>
  intro H b H1 R W h;simp only[an]at h;split at h<;>try(cases h;done)
  rename_i o hg;obtain⟨W0,h2,rfl⟩:=fF h;have:=(Ft.write (H:=H) (b:=r) (by rw[hg];rfl) _).trans (ih h2);rw[Nat.zero_or,Nat.or_comm]at this;exact this
 |program k ih=>intro H b H1 R W h;exact ih P h
 |mark m k ih=>
  intro H b H1 R W h;simp only[an]at h;split at h
  .exact ih h
  .cases h
 |shape r k ih=>intro H b H1 R W h;cases h
 |freeze a n k ih=>intro H b H1 R W h;cases h
 |frozen a k ih=>intro H b H1 R W h;cases h
 |choose q k ih=>intro H b H1 R W h;cases h
 |sys c k ih=>intro H b H1 R W h;cases h
 |halt x=>intro H b H1 R W h;cases h
section
variable {P:Program} {F:Array Func} {S:Nat->Bool} {K:Kz} {p:Pi} {H:Nat->Option Obj} {Fp:Nat->Prop} {w:World}
theorem Rl.mono (h:Rl P S K p H Fp w) {G:Nat->Prop} (hG:∀r,G r->Fp r):Rl P S K p H G w:=
 ⟨fun r x o e=>h.blk r (hG r x) o e,fun r s r' x y=>h.inj r s r' (hG r x) (hG s y),h.lt,h.xm,h.ok,h.dY⟩
theorem Rl.at (h:Rl P S K p H Fp w) (hF:Fp r) (hp:p r r') (ho:H r=some o):∃o',w.heap[r']?=some o'/\OR S K p o o'/\(∀k,p.x r k->Room P o o' k)/\((∃k,p.x r k)\/fR o o'):=by
 obtain⟨r1,o',h1,h2,h3,h4⟩:=h.blk r hF o ho;rw[h.ok.2.2 r r' r1 hp h1];exact⟨o',h2,h3,h4⟩
theorem OR.mb {c:Array Value} (h:OR S K p (.cells c e fz) o'):∃c' dQ,o'=.cells c' e dQ/\c.size<=c'.size/\(∀(i:Nat) (v v':Value),c[i]?=some v->c'[i]?=some v'->VR S p v v')/\∀i,i<c.size->dQ.1<=i/\i<dQ.2->fz.1<=i/\i<fz.2:=by
 cases h with
 |cells e fz hw g=>exact⟨_,_,rfl,Nat.le_of_eq g.1,g.2,fun _ _ h=>h⟩
 |cU e fz dQ hl hz hs g=>exact⟨_,_,rfl,hl,g,fun i hi x=>hz.elim (fun h=>⟨by omega,by omega⟩) fun h=>absurd x (h.1 i (by omega))⟩
theorem Rl.cell (h:Rl P S K p H Fp w) (hF:Fp a.block) (ha:cx p a a') {c:Array Value} (hg:H a.block=some (.cells c e fz)) (hs:a.spot=none) (hv:c[a.off]?=some v):
 ∃v',w.cell? a'=some v'/\VR S p v v':=by
 obtain⟨o',h2,h3,_⟩:=h.at hF ha.1 hg;obtain⟨c',dQ,rfl,hl,g,_⟩:=h3.mb;have ao:=(Array.getElem?_eq_some_iff.1 hv).1;have e':c'[a.off]?=some (c'[a.off]'(by omega)):=Array.getElem?_eq_getElem (by omega);refine⟨_,?_,g _ _ _ hv e'⟩;unfold World.cell?;rw[h2];simp only;rw[<-ha.2.2,hs,<-ha.2.1];exact e'
theorem iJ (hp:Array Obj) (i j:Nat) (f:Obj->Obj):(hp.modify i f)[j]?=if i=j then(hp[j]?).map f else hp[j]?:=by
 rw[Array.getElem?_modify]
theorem Rl.upd (h:Rl P S K p H Fp w) (hF:Fp r) (hp:p r r') (hg:H r=some o0) (nf:OR S K p o o1) (ua:∀k,p.x r k->Room P o o1 k) (j8:(∃k,p.x r k)\/fR o o1)
 (hH:∀m,H2 m=if m=r then some o else H m) (hs:w2.heap.size=w.heap.size) (rU:w2.heap[r']?=some o1) (bC:∀j,j≠r'->w2.heap[j]?=w.heap[j]?) (n:Nat):
 Rl P S K p H2 Fp w2/\Mv (fun m=>m=r) p n w p n w2:=by
 have al:∀m,(H2 m).isSome->(H m).isSome:=fun m x=>by
  rw[hH]at x;split at x
  .rename_i e;rw[e,hg];rfl
  .exact x
 refine⟨⟨fun m hm x hx=>?_,fun a b r' x y a1 b1=>h.inj a b r' x y (al a a1) (al b b1),fun a b x=>by rw[hs];exact h.lt a b x,h.xm,h.ok,by rw[hs];exact h.dY⟩,⟨Le.refl p,Nat.le_refl n,fun _ _ x=>.inl x,fun _ _ x=>.inl x,Nat.le_of_eq hs.symm,fun j hj hk=>bC j fun e=>hk r rfl (e▸hp)⟩⟩;rw[hH]at hx;split at hx
 .rename_i e;subst e;simp only[Option.some.injEq]at hx;subst hx;exact⟨r',o1,hp,rU,nf,ua,j8⟩
 .rename_i hn;obtain⟨m',o2,b1,b2,b3,b4⟩:=h.blk m hm x hx;refine⟨m',o2,b1,?_,b3,b4⟩;rw[bC m' ?_]
  .exact b2
  .intro e;exact hn (h.inj m r m' hm hF (by rw[hx];rfl) (by rw[hg];rfl) b1 (e▸hp))
theorem Rl.setCell (h:Rl P S K p H Fp w) (hF:Fp a.block) (ha:cx p a a') {c:Array Value} (hg:H a.block=some (.cells c e fz)) (hs:a.spot=none) (ao:a.off<c.size) (KV:¬(fz.1<=a.off/\a.off<fz.2))
 (hv:VR S p v v') (hH:∀m,H2 m=if m=a.block then some (.cells (c.setIfInBounds a.off v) e fz)else H m) (n:Nat):
 (∃x,w.cell? a'=some x)/\w.frozen? a'=false/\Rl P S K p H2 Fp (w.setCell a' v')/\Mv (fun r=>r=a.block) p n w p n (w.setCell a' v'):=by
 obtain⟨o',h2,h3,h4⟩:=h.at hF ha.1 hg;have V5:=h3;obtain⟨c',dQ,rfl,hl,g,hz⟩:=h3.mb;have pu:a'.spot=none:=ha.2.2.symm.trans hs;have e0:a'.off=a.off:=ha.2.1.symm;refine⟨?_,?_,h.upd hF ha.1 hg (o:=.cells (c.setIfInBounds a.off v) e fz) (o1:=.cells (c'.setIfInBounds a.off v') e dQ) ?_ (fun k hk=>?_) (h4.2.imp id fun IM _ _ _ _ _ _ x y=>by cases x;cases y;simpa using IM _ _ _ _ _ _ rfl rfl) hH (by simp[World.setCell]) ?_ (fun j hj=>?_) n⟩
 .refine⟨c'[a.off]'(by omega),?_⟩;unfold World.cell?;rw[h2];simp[pu,e0]
 .unfold World.frozen?;rw[h2];simp only[e0];rw[<-Bool.not_eq_true];simp only[Bool.and_eq_true,decide_eq_true_eq];exact fun x=>KV (hz _ ao x)
 .cases V5 with
  |cells e fz hw gg=>exact .cells e fz hw (gg.set _ hv)
  |cU e fz dQ hl hz hs gg=>
   refine .cU e fz dQ (by simpa using hl) (by simpa using hz) (fun i x' hi tg=>?_) fun i x x' hx tg=>?_
   .have lT:c.size<=i:=by simpa using hi
    rw[Array.getElem?_setIfInBounds,if_neg (by omega)]at tg;exact hs i x' lT tg
   rw[Array.getElem?_setIfInBounds]at hx tg;by_cases lQ:a.off=i
   .subst lQ;simp only[if_true]at hx tg;rw[if_pos ao]at hx;rw[if_pos (by omega)]at tg;cases hx;cases tg;exact hv
   .rw[if_neg lQ]at hx tg;exact gg i x x' hx tg
 .obtain⟨_,_,_,_,_,e1,e2,e3⟩:=h4.1 k hk;cases e1;cases e2;exact⟨_,_,_,_,_,rfl,rfl,by simpa using e3.1,by simpa using e3.2.1,e3.2.2⟩
 .show(w.heap.modify _ _)[a'.block]?=_;rw[iJ,if_pos rfl,h2];simp[pu,e0]
 .show(w.heap.modify _ _)[j]?=_;rw[iJ,if_neg (Ne.symm hj)]
theorem OR.uc (h:OR S K p o o') (hn:∀c e fz,o≠ .cells c e fz):∀c e fz,o'≠ .cells c e fz:=by
 cases h<;>first|(intro c e fz x;cases x;done)|exact absurd rfl (hn _ _ _)
theorem Rl.setObj (h:Rl P S K p H Fp w) (hF:Fp r) (hp:p r r') (hg:H r=some o0) (hn:∀c e fz,o0≠ .cells c e fz) (nf:OR S K p o o1) (j8:fR o o1)
 (hH:∀m,H2 m=if m=r then some o else H m) (n:Nat):
 Rl P S K p H2 Fp {w with heap:=w.heap.setIfInBounds r' o1}/\Mv (fun m=>m=r) p n w p n {w with heap:=w.heap.setIfInBounds r' o1}:=by
 obtain⟨o',h2,h3,h4⟩:=h.at hF hp hg;have ao:=h.lt r r' hp;refine h.upd hF hp hg nf (fun k hk=>?_) (.inr j8) hH (by simp) (by simp[ao]) (fun j hj=>by show(w.heap.setIfInBounds r' o1)[j]?=_;rw[Array.getElem?_setIfInBounds,if_neg (Ne.symm hj)]) n;obtain⟨c,e,fz,_,_,e1,_⟩:=h4.1 k hk;exact absurd e1 (hn c e fz)
def one (p:Pi) (n n':Nat):Pi:=⟨fun r r'=>p r r'\/(r=n/\r'=n'),p.x⟩
theorem one_le (p:Pi) (n n':Nat):Le p (one p n n'):=⟨fun _ _ h=>.inl h,fun _ _ h=>h,fun _ _ _ _ h=>h⟩
theorem Rl.push (h:Rl P S K p H Fp w) (hn:∀r',¬p n r') (hg:P.globals.size<=n) (nf:OR S K p o o1) (j8:fR o o1) (hH:∀m,H2 m=if m=n then some o else H m):
 Rl P S K (one p n w.heap.size) H2 (fun r=>Fp r\/r=n) {w with heap:=w.heap.push o1}/\Mv (fun _=>False) p n w (one p n w.heap.size) (n+1) {w with heap:=w.heap.push o1}:=by
 have hle:=one_le p n w.heap.size;have hx:∀k,¬p.x n k:=fun k hk=>let⟨r',h1⟩:=h.xm n k hk;hn r' h1
 have Bu:∀j,j<w.heap.size->(w.heap.push o1)[j]?=w.heap[j]?:=fun j hj=>by rw[Array.getElem?_push,if_neg (by omega)]
 refine⟨⟨fun r hr x GS=>?_,fun r s r' hr hs a b x y=>?_,fun r r' x=>?_,fun r k x=>let⟨r',y⟩:=h.xm r k x;⟨r',.inl y⟩,⟨fun r r' s s' x y hr=>?_,fun r r' x=>?_,fun r r' s' x y=>?_⟩,by have:=h.dY;show _<=(w.heap.push o1).size;simp;omega⟩,⟨hle,by omega,fun r r' x=>?_,fun r k x=>.inl x,by show _<=(w.heap.push o1).size;simp,fun r' mC _=>Bu r' mC⟩⟩
 .rw[hH]at GS;split at GS
  .rename_i e;subst e;simp only[Option.some.injEq]at GS;subst GS;exact⟨w.heap.size,o1,.inr ⟨rfl,rfl⟩,by show(w.heap.push o1)[_]?=_;simp,nf.mono hle,fun k hk=>absurd hk (hx k),.inr j8⟩
  .rename_i bC;obtain⟨r',o',b1,b2,b3,b4⟩:=h.blk r (hr.resolve_right bC) x GS;exact⟨r',o',.inl b1,by show(w.heap.push o1)[_]?=_;rw[Bu r' (h.lt r r' b1)];exact b2,b3.mono hle,b4⟩
 .rcases x with x|⟨rfl,rfl⟩<;>rcases y with y|⟨rfl,e⟩
  .have h1:r≠n:=fun e=>hn r' (e▸x);have h2:s≠n:=fun e=>hn r' (e▸y);rw[hH,if_neg h1]at a;rw[hH,if_neg h2]at b;exact h.inj r s r' (hr.resolve_right h1) (hs.resolve_right h2) a b x y
  .have:=h.lt _ _ x;omega
  .have:=h.lt _ _ y;omega
  .rfl
 .show r'<(w.heap.push o1).size;rcases x with x|⟨_,rfl⟩
  .have:=h.lt r r' x;simp;omega
  .simp
 .rcases x with x|⟨rfl,rfl⟩
  .rcases y with y|⟨rfl,rfl⟩
   .exact h.ok.1 r r' s s' x y hr
   .have h1:=h.lt r r' x;exact⟨fun e=>absurd hr (by omega),fun e=>by omega⟩
  .exact absurd hr (by omega)
 .rcases x with x|⟨rfl,rfl⟩
  .exact h.ok.2.1 r r' x
  .have:=h.dY;omega
 .rcases x with x|⟨rfl,rfl⟩
  .rcases y with y|⟨e,_⟩
   .exact h.ok.2.2 r r' s' x y
   .exact absurd x (e▸hn r')
  .rcases y with y|⟨_,rfl⟩
   .exact absurd y (hn s')
   .rfl
 .rcases x with x|⟨rfl,rfl⟩
  .exact .inl x
  .exact .inr ⟨Nat.le_refl _,by omega,.inl (Nat.le_refl _)⟩
end
section
variable {P:Program} {F:Array Func} {S:Nat->Bool} {K:Kz}
theorem iK {Q:Pi->α->β->Prop}:∀(s:Sem α) {s':Sem β} {p:Pi},jb P F S K 0 Q s s' p->∀{H:Hp} {a:α} {H1:Hp} {R1 W1:Nat} {Fp:Nat->Prop} {w:World},
 an P s H=some (a,H1,R1,W1)->Rl P S K p H.get Fp w->P.globals.size<=H.n->(∀r,H.n<=r->r<H1.n->∀r',¬p r r')->(∀r,(R1.testBit r=true\/W1.testBit r=true)->(H.n<=r/\r<H1.n)\/Fp r)->
 ∃b w1 q,s'.run (aa P F) w=.ok b w1/\Q q a b/\Mv (fun r=>W1.testBit r=true) p H.n w q H1.n w1/\Rl P S K q H1.get (fun r=>Fp r\/(H.n<=r/\r<H1.n)) w1:=by
 intro s;induction s with
 |pure a=>
  intro s' p h H a1 H1 R1 W1 Fp w e hr hg hn hF;simp only[an,Option.some.injEq,Prod.mk.injEq]at e;obtain⟨rfl,rfl,rfl,rfl⟩:=e;cases s'<;>first|exact⟨_,w,p,rfl,h,Mv.refl _ _ _ _,hr.mono fun r x=>x.resolve_right (by omega)⟩|exact h.elim
 |load m a k ih=>
  intro s' p h H a1 H1 R1 W1 Fp w e hr hg hn hF;cases s'<;>first|exact h.elim|skip
  rename_i m' a' k';obtain⟨rfl,rfl,ha,hk⟩:=h;have vD:=be P _ e;simp only[an]at e;split at e<;>try(cases e;done)
  rename_i c ty fz tK;split at e<;>try(cases e;done)
  rename_i jX;split at e<;>try(cases e;done)
  rename_i v hv;obtain⟨R0,e2,rfl⟩:=eH e;have Bv:Fp a.block:=(hF a.block (.inl (by rw[Nat.testBit_or,(tb _ _).2 rfl,Bool.or_true]))).resolve_left fun x=>hn _ x.1 x.2 _ ha.1;obtain⟨v',h1,h2⟩:=hr.cell Bv ha tK jX hv;obtain⟨b,w1,q,c1,c2,c3,c4⟩:=ih v (hk v v' h2) e2 hr hg hn fun r x=>hF r (x.imp (fun y=>by rw[Nat.testBit_or,y,Bool.true_or]) id);exact⟨b,w1,q,by simp only[Sem.run,h1];exact c1,c2,c3,c4⟩
 |store m a v k ih=>
  intro s' p h H a1 H1 R1 W1 Fp w e hr hg hn hF;cases s'<;>first|exact h.elim|skip
  rename_i m' a' v' k';obtain⟨rfl,rfl,ha,hv,hk⟩:=h;have vD:=be P _ e;simp only[an]at e;cases xO:cu v<;>rw[xO]at e<;>simp only[cond_true,cond_false]at e
  .cases e
  split at e<;>try(cases e;done)
  rename_i c ty fz tK;split at e<;>try(cases e;done)
  rename_i jX;cases hb:(Nat.blt a.off c.size&&!(Nat.ble fz.1 a.off&&Nat.blt a.off fz.2))<;>rw[hb]at e<;>simp only[cond_true,cond_false]at e
  .cases e
  obtain⟨W0,e2,rfl⟩:=fF e;simp only[Bool.and_eq_true,Bool.not_eq_true',Bool.and_eq_false_iff,Nat.blt_eq]at hb
  have KV:¬(fz.1<=a.off/\a.off<fz.2):=by
   rintro⟨x,y⟩;rcases hb.2 with z|z
   .rw[<-Bool.not_eq_true,Nat.ble_eq]at z;exact z x
   .rw[<-Bool.not_eq_true,Nat.blt_eq]at z;exact z y
  have Bv:Fp a.block:=(hF a.block (.inr (by rw[Nat.testBit_or,(tb _ _).2 rfl,Bool.or_true]))).resolve_left fun x=>hn _ x.1 x.2 _ ha.1;obtain⟨⟨x,h1⟩,h2,h3,h4⟩:=hr.setCell Bv ha tK jX hb.1 KV hv (fun m=>Hp.get_put H a.block _ m) H.n;obtain⟨b,w1,q,c1,c2,c3,c4⟩:=ih hk e2 h3 hg hn fun r x=>hF r (x.imp id fun y=>by rw[Nat.testBit_or,y,Bool.true_or]);refine⟨b,w1,q,?_,c2,h4.trans c3 (fun r x=>by subst x;rw[Nat.testBit_or,(tb _ _).2 rfl,Bool.or_true]) (fun r x=>by rw[Nat.testBit_or,x,Bool.true_or]),c4⟩;have Ik:cu v'=true:=by rw[<-hv.cu];exact xO
  cases v'<;>first|(cases Ik;done)|(simp only[Sem.run,h1,h2];exact c1)
 |new o k ih=>
  intro s' p h H a1 H1 R1 W1 Fp w e hr hg hn hF;cases s'<;>first|exact h.elim|skip
  rename_i o' k';obtain⟨ho,IM,hk⟩:=h;have vD:=be P _ e;simp only[an]at e;obtain⟨W0,e2,rfl⟩:=fF e;have P6:=be P _ e2;have P7:H.n+1<=H1.n:=P6.nn;obtain⟨h3,h4⟩:=hr.push (n:=H.n) (hn H.n (Nat.le_refl _) (by omega)) hg ho IM (fun m=>Hp.iq H o m)
  obtain⟨b,w1,q,c1,c2,c3,c4⟩:=ih H.n (hk H.n w.heap.size _ (one_le _ _ _) h3.ok (.inr ⟨rfl,rfl⟩) (Nat.zero_le _) (fun k hx=>by
   obtain⟨r',mC⟩:=hr.xm _ k hx;exact hn H.n (Nat.le_refl _) (by omega) r' mC)) e2 h3 (by show _<=H.n+1;omega) (fun r x y r' z=>by
   have x:H.n+1<=r:=x;rcases z with z|⟨z,_⟩
   .exact hn r (by omega) y r' z
   .omega) (fun r x=>by
   rcases hF r (x.imp id fun y=>by rw[Nat.testBit_or,y,Bool.true_or])with⟨y,z⟩|y
   .by_cases e:r=H.n
    .exact .inr (.inr e)
    .exact .inl ⟨by show H.n+1<=r;omega,z⟩
   .exact .inr (.inl y))
  refine⟨b,w1,q,c1,c2,(h4.mono (W:=fun r=>r=H.n) fun _ x=>x.elim).trans c3 (fun r x=>by subst x;rw[Nat.testBit_or,(tb _ _).2 rfl,Bool.or_true]) (fun r x=>by rw[Nat.testBit_or,x,Bool.true_or]),c4.mono fun r x=>?_⟩;rcases x with x|⟨x,y⟩
  .exact .inl (.inl x)
  .by_cases e:r=H.n
   .exact .inl (.inr e)
   .exact .inr ⟨by show H.n+1<=r;omega,y⟩
 |getObj r k ih=>
  intro s' p h H a1 H1 R1 W1 Fp w e hr hg hn hF;cases s'<;>first|exact h.elim|skip
  rename_i r' k';obtain⟨hp,hk⟩:=h;simp only[an]at e;split at e<;>try(cases e;done)
  rename_i o L5 tK;obtain⟨R0,e2,rfl⟩:=eH e;have Bv:Fp r:=(hF r (.inl (by rw[Nat.testBit_or,(tb _ _).2 rfl,Bool.or_true]))).resolve_left fun x=>hn _ x.1 x.2 _ hp;obtain⟨o',h2,h3,_⟩:=hr.at Bv hp tK;have IZ:=h3.uc fun c e fz x=>L5 c e fz x;obtain⟨b,w1,q,c1,c2,c3,c4⟩:=ih o (hk o o' h3) e2 hr hg hn fun r x=>hF r (x.imp (fun y=>by rw[Nat.testBit_or,y,Bool.true_or]) id);refine⟨b,w1,q,?_,c2,c3,c4⟩;simp only[Sem.run,h2];cases o'<;>first|exact absurd rfl (IZ _ _ _)|exact c1
 |setObj r o k ih=>
  intro s' p h H a1 H1 R1 W1 Fp w e hr hg hn hF;cases s'<;>first|exact h.elim|skip
  rename_i r' o' k';obtain⟨hp,ho,IM,hk⟩:=h;simp only[an]at e;split at e<;>try(cases e;done)
  rename_i o0 L5 tK;obtain⟨W0,e2,rfl⟩:=fF e;have Bv:Fp r:=(hF r (.inr (by rw[Nat.testBit_or,(tb _ _).2 rfl,Bool.or_true]))).resolve_left fun x=>hn _ x.1 x.2 _ hp;obtain⟨o1,h2,h3,_⟩:=hr.at Bv hp tK;have IZ:=h3.uc fun c e fz x=>L5 c e fz x;obtain⟨h5,h6⟩:=hr.setObj Bv hp tK (fun c e fz x=>L5 c e fz x) ho IM (fun m=>Hp.get_put H r _ m) H.n;obtain⟨b,w1,q,c1,c2,c3,c4⟩:=ih hk e2 h5 hg hn fun r x=>hF r (x.imp id fun y=>by rw[Nat.testBit_or,y,Bool.true_or]);refine⟨b,w1,q,?_,c2,h6.trans c3 (fun r x=>by subst x;rw[Nat.testBit_or,(tb _ _).2 rfl,Bool.or_true]) (fun r x=>by rw[Nat.testBit_or,x,Bool.true_or]),c4⟩;simp only[Sem.run,h2];cases o1<;>first|exact absurd rfl (IZ _ _ _)|exact c1
 |program k ih=>
  intro s' p h H a1 H1 R1 W1 Fp w e hr hg hn hF;rcases h with h|⟨k',rfl,h⟩
  .have e:an P (k P) H=some (a1,H1,R1,W1):=e;rw[wC _ h]at e;cases e
  .exact ih P h e hr hg hn hF
 |mark m k ih=>
  intro s' p h H a1 H1 R1 W1 Fp w e hr hg hn hF;simp only[an]at e;split at e
  .obtain⟨k',rfl,hk⟩:=h rfl;exact ih hk e hr hg hn hF
  .cases e
 |shape r k ih=>intro s' p h H a1 H1 R1 W1 Fp w e;cases e
 |freeze a n k ih=>intro s' p h H a1 H1 R1 W1 Fp w e;cases e
 |frozen a k ih=>intro s' p h H a1 H1 R1 W1 Fp w e;cases e
 |choose q k ih=>intro s' p h H a1 H1 R1 W1 Fp w e;cases e
 |sys c k ih=>intro s' p h H a1 H1 R1 W1 Fp w e;cases e
 |halt x=>intro s' p h H a1 H1 R1 W1 Fp w e;cases e
end
section
variable {P:Program} {F:Array Func} {S:Nat->Bool} {K:Kz} {p:Pi} {H:Nat->Option Obj} {Fp:Nat->Prop} {w:World}
theorem Rl.kill (h:Rl P S K p H Fp w) (hH:∀m,H2 m=if m=s then none else H m):Rl P S K p H2 Fp w:=by
 have al:∀m,(H2 m).isSome->(H m).isSome/\m≠s:=fun m x=>by
  rw[hH]at x;split at x
  .cases x
  .rename_i e;exact⟨x,e⟩
 refine⟨fun r hr o ho=>?_,fun r s r' x y a b=>h.inj r s r' x y (al r a).1 (al s b).1,h.lt,h.xm,h.ok,h.dY⟩;rw[hH]at ho;split at ho
 .cases ho
 .exact h.blk r hr o ho
def zA (p:Pi) (n n' k:Nat):Pi:=⟨fun r r'=>p r r'\/(r=n/\r'=n'),fun r j=>p.x r j\/(r=n/\j=k)⟩
theorem yf (p:Pi) (n n' k:Nat) (hn:∀r',¬p n r'):Le p (zA p n n' k):=⟨fun _ _ h=>.inl h,fun _ _ h=>.inl h,fun r r' j a x=>x.resolve_right fun⟨e,_⟩=>hn r' (e▸a)⟩
theorem Rl.GT (h:Rl P S K p H Fp w) (hn:∀r',¬p n r') (hg:P.globals.size<=n) (nf:OR S K p o o1) (hk:Room P o o1 k) (hH:∀m,H2 m=if m=n then some o else H m):
 Rl P S K (zA p n w.heap.size k) H2 (fun r=>Fp r\/r=n) {w with heap:=w.heap.push o1}/\Mv (fun _=>False) p n w (zA p n w.heap.size k) (n+1) {w with heap:=w.heap.push o1}:=by
 have hle:=yf p n w.heap.size k hn;have hx:∀j,¬p.x n j:=fun j hj=>let⟨r',h1⟩:=h.xm n j hj;hn r' h1
 have Bu:∀j,j<w.heap.size->(w.heap.push o1)[j]?=w.heap[j]?:=fun j hj=>by rw[Array.getElem?_push,if_neg (by omega)]
 refine⟨⟨fun r hr o' ho=>?_,fun r s r' hr hs a b x y=>?_,fun r r' x=>?_,fun r j x=>?_,⟨fun r r' s s' x y hr=>?_,fun r r' x=>?_,fun r r' s' x y=>?_⟩,by have:=h.dY;show _<=(w.heap.push o1).size;simp;omega⟩,⟨hle,by omega,fun r r' x=>?_,fun r j x=>?_,by show _<=(w.heap.push o1).size;simp,fun r' mC _=>Bu r' mC⟩⟩
 .rw[hH]at ho;split at ho
  .rename_i e;subst e;simp only[Option.some.injEq]at ho;subst ho
   exact⟨w.heap.size,o1,.inr ⟨rfl,rfl⟩,by show(w.heap.push o1)[_]?=_;simp,nf.mono hle,fun j hj=>by
    rcases hj with hj|⟨_,rfl⟩
    .exact absurd hj (hx j)
    .exact hk,.inl ⟨k,.inr ⟨rfl,rfl⟩⟩⟩
  .rename_i bC;obtain⟨r',o2,b1,b2,b3,b4,b5⟩:=h.blk r (hr.resolve_right bC) o' ho;exact⟨r',o2,.inl b1,by show(w.heap.push o1)[_]?=_;rw[Bu r' (h.lt r r' b1)];exact b2,b3.mono hle,fun j hj=>b4 j (hj.resolve_right fun x=>bC x.1),b5.imp (fun⟨j,hj⟩=>⟨j,.inl hj⟩) id⟩
 .rcases x with x|⟨rfl,rfl⟩<;>rcases y with y|⟨rfl,e⟩
  .have h1:r≠n:=fun e=>hn r' (e▸x);have h2:s≠n:=fun e=>hn r' (e▸y);rw[hH,if_neg h1]at a;rw[hH,if_neg h2]at b;exact h.inj r s r' (hr.resolve_right h1) (hs.resolve_right h2) a b x y
  .have:=h.lt _ _ x;omega
  .have:=h.lt _ _ y;omega
  .rfl
 .show r'<(w.heap.push o1).size;rcases x with x|⟨_,rfl⟩
  .have:=h.lt r r' x;simp;omega
  .simp
 .rcases x with x|⟨rfl,_⟩
  .obtain⟨r',y⟩:=h.xm r j x;exact⟨r',.inl y⟩
  .exact⟨_,.inr ⟨rfl,rfl⟩⟩
 .rcases x with x|⟨rfl,rfl⟩
  .rcases y with y|⟨rfl,rfl⟩
   .exact h.ok.1 r r' s s' x y hr
   .have h1:=h.lt r r' x;exact⟨fun e=>absurd hr (by omega),fun e=>by omega⟩
  .exact absurd hr (by omega)
 .rcases x with x|⟨rfl,rfl⟩
  .exact h.ok.2.1 r r' x
  .have:=h.dY;omega
 .rcases x with x|⟨rfl,rfl⟩
  .rcases y with y|⟨e,_⟩
   .exact h.ok.2.2 r r' s' x y
   .exact absurd x (e▸hn r')
  .rcases y with y|⟨_,rfl⟩
   .exact absurd y (hn s')
   .rfl
 .rcases x with x|⟨rfl,rfl⟩
  .exact .inl x
  .exact .inr ⟨Nat.le_refl _,by omega,.inl (Nat.le_refl _)⟩
 .rcases x with x|⟨rfl,_⟩
  .exact .inl x
  .exact .inr ⟨Nat.le_refl _,by omega⟩
theorem Rl.reuse (h:Rl P S K p H Fp w) (hn:∀r',¬p n r') (hg:P.globals.size<=n) (TG:P.globals.size<=s) (Ez:Fp s) (wd:p s r') (hs:(H s).isSome) (nf:OR S K p o o1) (hk:Room P o o1 k)
 (hH:∀m,H2 m=if m=n then some o else if m=s then none else H m) (cb:w2.heap.size=w.heap.size) (rU:w2.heap[r']?=some o1) (bC:∀j,j≠r'->w2.heap[j]?=w.heap[j]?):
 Rl P S K (zA p n r' k) H2 (fun r=>Fp r\/r=n) w2/\Mv (fun m=>m=s) p n w (zA p n r' k) (n+1) w2:=by
 have hle:=yf p n r' k hn;have ye:n≠s:=fun e=>hn r' (e▸wd)
 have old:∀r x,p r x->(H2 r).isSome->r≠n/\r≠s/\(H r).isSome:=fun r x hp al=>by
  have h1:r≠n:=fun e=>hn x (e▸hp);rw[hH,if_neg h1]at al;split at al
  .cases al
  .rename_i h2;exact⟨h1,h2,al⟩
 refine⟨⟨fun r hr o' ho=>?_,fun r t x hr ht a b y z=>?_,fun r x y=>?_,fun r j x=>?_,⟨fun a b c d x y hr=>?_,fun a b x=>?_,fun a b c x y=>?_⟩,by rw[cb];exact h.dY⟩,⟨hle,by omega,fun a b x=>?_,fun a j x=>?_,Nat.le_of_eq cb.symm,fun j hj hw=>bC j fun e=>hw s rfl (e▸wd)⟩⟩
 .rw[hH]at ho;split at ho
  .rename_i e;subst e;simp only[Option.some.injEq]at ho;subst ho;refine⟨r',o1,.inr ⟨rfl,rfl⟩,rU,nf.mono hle,fun j hj=>?_,.inl ⟨k,.inr ⟨rfl,rfl⟩⟩⟩;rcases hj with hj|⟨_,rfl⟩
   .obtain⟨x,y⟩:=h.xm r j hj;exact absurd y (hn x)
   .exact hk
  .rename_i e;split at ho
   .cases ho
   .rename_i e2;obtain⟨r1,o2,b1,b2,b3,b4,b5⟩:=h.blk r (hr.resolve_right e) o' ho;refine⟨r1,o2,.inl b1,?_,b3.mono hle,fun j hj=>?_,b5.imp (fun⟨j,hj⟩=>⟨j,.inl hj⟩) id⟩
    .rw[bC r1 ?_]
     .exact b2
     .intro e3;exact e2 (h.inj r s r1 (hr.resolve_right e) Ez (by rw[ho];rfl) hs b1 (e3▸wd))
    .rcases hj with hj|⟨rfl,_⟩
     .exact b4 j hj
     .exact absurd rfl e
 .rcases y with y|⟨rfl,rfl⟩<;>rcases z with z|⟨rfl,e⟩
  .obtain⟨a1,a2,a3⟩:=old r x y a;obtain⟨b1,b2,b3⟩:=old t x z b;exact h.inj r t x (hr.resolve_right a1) (ht.resolve_right b1) a3 b3 y z
  .obtain⟨a1,a2,a3⟩:=old r x y a;exact absurd (h.inj r s x (hr.resolve_right a1) Ez a3 hs y (e▸wd)) a2
  .obtain⟨a1,a2,a3⟩:=old t x z b;exact absurd (h.inj t s x (ht.resolve_right a1) Ez a3 hs z wd) a2
  .rfl
 .rw[cb];rcases y with y|⟨_,rfl⟩
  .exact h.lt r x y
  .exact h.lt s x wd
 .rcases x with x|⟨rfl,_⟩
  .obtain⟨y,z⟩:=h.xm r j x;exact⟨y,.inl z⟩
  .exact⟨_,.inr ⟨rfl,rfl⟩⟩
 .rcases x with x|⟨rfl,rfl⟩
  .rcases y with y|⟨rfl,rfl⟩
   .exact h.ok.1 a b c d x y hr
   .refine⟨fun e=>absurd hr (by omega),fun e=>?_⟩;have:=(h.ok.1 a b s d x wd hr).2 e;omega
  .exact absurd hr (by omega)
 .rcases x with x|⟨rfl,rfl⟩
  .exact h.ok.2.1 a b x
  .have:=h.ok.2.1 s b wd;omega
 .rcases x with x|⟨rfl,rfl⟩
  .rcases y with y|⟨e,_⟩
   .exact h.ok.2.2 a b c x y
   .exact absurd x (e▸hn b)
  .rcases y with y|⟨_,rfl⟩
   .exact absurd y (hn c)
   .rfl
 .rcases x with x|⟨rfl,rfl⟩
  .exact .inl x
  .exact .inr ⟨Nat.le_refl _,by omega,.inr ⟨s,rfl,wd⟩⟩
 .rcases x with x|⟨rfl,_⟩
  .exact .inl x
  .exact .inr ⟨Nat.le_refl _,by omega⟩
theorem oz (Q:Program):∀(vs:List Value) (a:Addr) (i:Nat) (w:World) (c:Array Value) (e:TypeId) (fz:Nat×Nat),w.heap[a.block]?=some (.cells c e fz)->a.spot=none->a.off+i+vs.length<=c.size->
 (∀j,j<c.size->¬(fz.1<=j/\j<fz.2))->(∀v∈vs,cu v=true)->
 ∃w2 c2,(Go.storeCells a vs i).run Q w=.ok () w2/\w2.heap.size=w.heap.size/\(∀j,j≠a.block->w2.heap[j]?=w.heap[j]?)/\w2.heap[a.block]?=some (.cells c2 e fz)/\c2.size=c.size/\
  (∀j,j<a.off+i->c2[j]?=c[j]?)/\(∀j,j<vs.length->c2[a.off+i+j]?=vs[j]?)/\∀j,a.off+i+vs.length<=j->c2[j]?=c[j]?:=by
 intro vs;induction vs with
 |nil=>intro a i w c e fz h1 h2 h3 h4 h5;exact⟨w,c,rfl,rfl,fun _ _=>rfl,h1,rfl,fun _ _=>rfl,fun j hj=>absurd hj (Nat.not_lt_zero j),fun _ _=>rfl⟩
 |cons v vs ih=>
  intro a i w c e fz h1 h2 h3 h4 h5;simp only[List.length_cons]at h3;have zs:(a.add i).off=a.off+i:=by unfold Addr.add;split<;>simp_all
  have jX:=lg a i h2;have OF:=dX a i
  have hc:w.cell? (a.add i)=some (c[a.off+i]'(by omega)):=by
   unfold World.cell?;rw[OF,h1];simp only[jX,Option.isSome_none,Bool.false_eq_true,if_false,zs];exact Array.getElem?_eq_getElem (by omega)
  have hf:w.frozen? (a.add i)=false:=by
   unfold World.frozen?;rw[OF,h1];simp only[zs];rw[<-Bool.not_eq_true];simp only[Bool.and_eq_true,decide_eq_true_eq];exact h4 _ (by omega)
  have ns:(w.setCell (a.add i) v).heap[a.block]?=some (.cells (c.setIfInBounds (a.off+i) v) e fz):=by
   show(w.heap.modify _ _)[a.block]?=_;rw[iJ,if_pos OF,h1];simp[jX,zs]
  obtain⟨w2,c2,g1,g2,g3,g4,g5,g6,g7,g8⟩:=ih a (i+1) (w.setCell (a.add i) v) _ e fz ns h2 (by simp;omega) (by simpa using h4) fun x hx=>h5 x (by simp[hx]);refine⟨w2,c2,?_,by rw[g2];simp[World.setCell],fun j hj=>?_,g4,by rw[g5];simp,fun j hj=>?_,fun j hj=>?_,fun j hj=>?_⟩
  .simp only[Go.storeCells];show(Sem.store .plain (a.add i) v _).run Q w=_;have hv:=h5 v (by simp);cases v<;>first|(cases hv;done)|(simp only[Sem.run,hc,hf];exact g1)
  .rw[g3 j hj];show(w.heap.modify _ _)[j]?=_;rw[iJ,if_neg (by rw[OF];exact Ne.symm hj)]
  .rw[g6 j (by omega),Array.getElem?_setIfInBounds,if_neg (by omega)]
  .cases j with
   |zero=>rw[Nat.add_zero,g6 (a.off+i) (by omega),Array.getElem?_setIfInBounds,if_pos rfl,if_pos (by omega)];rfl
   |succ j=>
    have:=g7 j (by simpa using hj);rw[show a.off+i+(j+1)=a.off+(i+1)+j by omega,this];rfl
  .rw[List.length_cons]at hj;rw[g8 j (by omega),Array.getElem?_setIfInBounds,if_neg (by omega)]
end
end Go.Ev
