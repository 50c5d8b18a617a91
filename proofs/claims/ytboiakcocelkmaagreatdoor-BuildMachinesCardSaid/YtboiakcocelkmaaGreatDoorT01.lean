/- A part. Conditions: none. -/
import Derived.Test.YtboiakcocelkmaaGreatDoorT00
import Derived.Laws.Sem
set_option linter.all false
namespace Go.au
variable {OZ ps:Array (Nat×Value)} {a a':Addr} {b b' i i' k k' v v' x x' y y':Value} {c l n:Nat} {cB xs ys z z':Array Value} {f f':Frame} {hi lo mx uv yZ zl:Option Value} {l':List Item} {r r':Operand->Value} {t:TypeId} {α β:Type}
section
variable {P:Program} {F:Array Func} {S:Nat->Bool} {K:Kz} {N:Nat} {p:Pi}
theorem SR.CI (f:α->Sem β) (h:∀x q,SR P F S K N (QE β) (f x) (f x) q) (xs:Array α):SR P F S K N (QE (Array β)) (xs.mapM f) (xs.mapM f) p:=by
 rw[Array.mapM_eq_foldlM,<-Array.foldlM_toList];generalize xs.toList=l;generalize(#[]:Array β)=acc;induction l generalizing acc p with
 |nil=>exact SR.pure rfl
 |cons x l ih=>
  simp only[List.foldlM_cons];refine SR.av (α:=Array β) ?_ fun q a hq=>ih a;exact(h x p).av fun q b hq=>SR.pure rfl
inductive PL (S:Nat->Bool) (p:Pi):List (Nat×Value)->List (Nat×Value)->Prop
 |nil:PL S p [] []
 |cons {i:Nat} {v v':Value} {l l':List (Nat×Value)} (h:VR S p v v') (t:PL S p l l'):PL S p ((i,v)::l) ((i,v')::l')
theorem PL.mono {q:Pi} (h:Le p q) {l l':List (Nat×Value)} (x:PL S p l l'):PL S q l l':=by
 induction x with
 |nil=>exact .nil
 |cons g _ ih=>exact .cons (g.mono h) ih
theorem PL.map (l:List (Nat×Operand)) (f g:Operand->Value) (h:∀x∈l,VR S p (f x.2) (g x.2)):PL S p (l.map fun(i,x)=>(i,f x)) (l.map fun(i,x)=>(i,g x)):=by
 induction l with
 |nil=>exact .nil
 |cons x l ih=>exact .cons (h x (by simp)) (ih fun y hy=>h y (by simp[hy]))
theorem Mr (h:AR S p xs ys) {cs jn:List (Value×Nat)} (off:Nat) (hc:∀(j:Nat) a b,cs[j]?=some a->jn[j]?=some b->VR S p a.1 b.1/\a.2=b.2) (hl:cs.length=jn.length):
 AR S p (cs.foldl (fun acc (c,j)=>acc.setIfInBounds (off+j) c) xs) (jn.foldl (fun acc (c,j)=>acc.setIfInBounds (off+j) c) ys):=by
 induction cs generalizing jn xs ys with
 |nil=>cases jn with
  |nil=>exact h
  |cons=>cases hl
 |cons c cs ih=>cases jn with
  |nil=>cases hl
  |cons c' jn=>
   have h0:=hc 0 c c' rfl rfl;simp only[List.foldl_cons];rw[h0.2];exact ih (h.set _ h0.1) (fun j a b h1 h2=>hc (j+1) a b h1 h2) (by simpa using hl)
theorem qy (place:Nat->Option (Nat×Nat)):∀{l l':List (Nat×Value)} {xs ys:Array Value},PL S p l l'->AR S p xs ys->
 (Instr.fill place xs l=none/\Instr.fill place ys l'=none)\/∃a b,Instr.fill place xs l=some a/\Instr.fill place ys l'=some b/\AR S p a b:=by
 intro l l' xs ys hl;induction hl generalizing xs ys with
 |nil=>intro h;exact .inr ⟨_,_,rfl,rfl,h⟩
 | @cons i v v' l l' hv _ ih=>
   intro h;simp only[Instr.fill];cases place i with
   |none=>exact .inl ⟨rfl,rfl⟩
   |some x=>
    obtain⟨off,size⟩:=x;simp only;have hc:=hv.cells;rw[<-hc.1,<-h.1];split
    .exact .inl ⟨rfl,rfl⟩
    .refine ih ?_;rw[<-Array.foldl_toList,<-Array.foldl_toList];refine Mr h off (fun j a b h1 h2=>?_) (by simp[hc.1]);simp only[Array.getElem?_toList,Array.getElem?_zipIdx]at h1 h2;cases hx:v.cells[j]? with
     |none=>rw[hx]at h1;cases h1
     |some u=>
      obtain⟨u',UU,hr⟩:=hc.get hx;rw[hx]at h1;rw[UU]at h2;simp only[Option.map_some,Option.some.injEq]at h1 h2;subst h1;subst h2;exact⟨hr,rfl⟩
theorem SR.box (e:TypeId) (h:VR S p v v'):SR P F S K N (QV S) (Instr.box e v) (Instr.box e v') p:=
 (SR.newVar e h).bind fun q a a' hq ha=>SR.pure ha.1.ptr
theorem SR.alloc (hz:aV P) (e:TypeId):SR P F S K N (QV S) (Instr.alloc e true (.tuple #[])) (Instr.alloc e true (.tuple #[])) p:=by
 unfold Instr.alloc;refine(SR.zeroValue hz e).bind fun q z z' hq yY=>?_;obtain⟨rfl,hv⟩:=yY;exact(SR.newVar e hv).bind fun q a a' hq ha=>SR.pure ha.1.ptr
theorem SR.build (hz:aV P) (t:TypeId) (h:PL S p ps.toList OZ.toList):SR P F S K N (QV S) (Instr.build t ps) (Instr.build t OZ) p:=by
 unfold Instr.build;refine(SR.zeroValue hz t).bind fun q z z' hq yY=>?_;obtain⟨rfl,hv⟩:=yY;have h:=h.mono hq;refine SR.cq fun d hd=>?_;cases d with
 |struct fields=>
  refine SR.av (α:=Array (Nat×Nat)) (SR.CI _ (fun f q=>(SR.sizeOf f.type).av fun q n hq=>SR.pure rfl) fields) fun q places hq=>?_;rcases qy (fun i=>places[i]?) (h.mono hq) (hv.mono hq).cells with⟨e1,e2⟩|⟨a,b,e1,e2,mH⟩
  .simp only[e1];exact SR.stuck
  .simp only[e1,e2];exact SR.pure mH.agg
 |array n e=>
  refine(SR.sizeOf e).av fun q size hq=>?_;rcases qy (fun i=>some (i*size,size)) (h.mono hq) (hv.mono hq).cells with⟨e1,e2⟩|⟨a,b,e1,e2,mH⟩
  .simp only[e1];exact SR.stuck
  .simp only[e1,e2];exact SR.pure mH.agg
 |_=>exact SR.stuck
theorem pZ (h:AR S p z z') (n:Nat):AR S p ((Array.range n).map (fun i=>z[i%z.size]!)) ((Array.range n).map (fun i=>z'[i%z'.size]!)):=by
 refine AR.ofFn n _ _ fun i=>?_;rw[<-h.1];simp only[getElem!_def];cases hx:z[i%z.size]? with
 |none=>rw[h.none hx];exact VR.plain 1 _ (by simp[plain,default,instInhabitedValue.default])
 |some v=>obtain⟨v',mC,hr⟩:=h.get hx;rw[mC];exact hr
theorem SR.buildSlice (hz:aV P) (t:TypeId) (len:Nat) (h:PL S p ps.toList OZ.toList):SR P F S K N (QV S) (Instr.buildSlice t len ps) (Instr.buildSlice t len OZ) p:=by
 unfold Instr.buildSlice;refine SR.cq fun d hd=>?_;cases d with
 |slice e=>
  simp only;refine(SR.sizeOf e).av fun q size hq=>?_;have h:=h.mono hq;split
  .exact SR.unsupported
  .have key:∀(q':Pi) (z z':Array Value),Le q q'->AR S q' z z'->SR P F S K N (QV S)
    (match Instr.fill (fun i=>some (i*size,size)) ((Array.range (len*size)).map (z[·%z.size]!)) ps.toList with
      |some cells=>(Go.newRow e cells>>=fun a=>Pure.pure (Value.slice (some a) len len))
      |_=>Go.stuck "buildSlice: a part of the wrong size")
    (match Instr.fill (fun i=>some (i*size,size)) ((Array.range (len*size)).map (z'[·%z'.size]!)) OZ.toList with
      |some cells=>(Go.newRow e cells>>=fun a=>Pure.pure (Value.slice (some a) len len))
      |_=>Go.stuck "buildSlice: a part of the wrong size") q':=by
    intro q' z z' tn yY;rcases qy (fun i=>some (i*size,size)) (h.mono tn) (pZ yY (len*size))with⟨e1,e2⟩|⟨a,b,e1,e2,mH⟩
    .simp only[e1];exact SR.stuck
    .simp only[e1,e2];exact(SR.newRow e mH).bind fun q a a' hq ha=>SR.pure (ha.1.sl (fun _=>ha.2.2) len len)
   split
   .exact key q #[] #[] (Le.refl _) AR.empty
   .refine(SR.zeroValue hz e).bind fun q2 z z' bR yY=>?_;obtain⟨rfl,hv⟩:=yY;exact key q2 _ _ bR hv.cells
 |_=>exact SR.stuck
theorem SR.loadAt (t:TypeId) (h:VR S p v v'):SR P F S K N (QV S) (Instr.loadAt t v) (Instr.loadAt t v') p:=
 (SR.sureAddr h).bind fun q a a' hq ha=>SR.loadVar t ha
theorem SR.storeAt (t:TypeId) (h:VR S p v v') (hx:VR S p x x'):SR P F S K N (QE Unit) (Instr.storeAt t v x) (Instr.storeAt t v' x') p:=
 (SR.sureAddr h).bind fun q a a' hq ha=>SR.storeVar t ha (hx.mono hq)
theorem SR.fieldAt (s:TypeId) (f:Nat) (hf:∀fs g i,P.underlying s=some (.struct fs)->fs[f]?=some g->P.info? g.type=some i->i.size≠0) (h:VR S p v v'):
 SR P F S K N (QV S) (Instr.fieldAt s v f) (Instr.fieldAt s v' f) p:=by
 unfold Instr.fieldAt;refine SR.cq fun d hd=>?_;cases d with
 |struct fields=>
  simp only;cases hg:fields[f]? with
  |none=>exact SR.stuck
  |some g=>
   simp only;refine(SR.sureAddr h).bind fun q a a' hq ha=>?_;unfold Go.fieldPlace Go.sizeOf;refine SR.bind (Q:=QD) ?_ fun q b b' hq hb=>SR.pure hb.ptr;show SR P F S K N QD ((Go.typeInfo g.type>>=fun i=>Pure.pure i.size)>>=_) ((Go.typeInfo g.type>>=fun i=>Pure.pure i.size)>>=_) q;refine SR.bind (Q:=fun _ (a b:Nat)=>a=b/\a≠0) (SR.mG fun i hi=>SR.pure ⟨rfl,hf fields g i hd hg hi⟩) fun q n n' hq hn=>?_;obtain⟨rfl,hn⟩:=hn;simp only[hn,if_false];exact SR.pure ((ha.mono hq).add _)
 |_=>exact SR.stuck
theorem SR.field (t:TypeId) (f:Nat) (h:VR S p v v'):SR P F S K N (QV S) (Instr.field t v f) (Instr.field t v' f) p:=by
 unfold Instr.field;refine SR.cq fun d hd=>?_;cases d with
 |struct fields=>
  simp only;cases hg:fields[f]? with
  |none=>exact SR.stuck
  |some g=>exact(SR.asAgg h).bind fun q a a' hq ha=>SR.part _ ha _
 |_=>exact SR.stuck
theorem SR.index (t:TypeId) (h:VR S p v v') (hi:VR S p i i'):SR P F S K N (QV S) (Instr.index t v i) (Instr.index t v' i') p:=by
 unfold Instr.index;refine(SR.asIntOf hi).av fun q ki hq=>?_;obtain⟨k,n⟩:=ki;have h:=h.mono hq;refine SR.cq fun d hd=>?_;cases d with
 |array len elem=>
  cases h with
  |agg hx gx=>
   simp only;split
   .exact(SR.sizeOf elem).av fun q m hq=>SR.part elem (AR.mono hq ⟨hx,gx⟩) _
   .exact SR.boundsPanic _ _ _ _
  |_=>exact SR.stuck
 |string=>
  cases h with
  |string s=>
   simp only;split
   .exact SR.pure (.int _ _)
   .exact SR.boundsPanic _ _ _ _
  |_=>exact SR.stuck
 |_=>cases h<;>exact SR.stuck
theorem SR.sliceBound (x x':Value) (h:VR S p x x') (y:Nat) (c:BoundsCode):SR P F S K N (QE Nat) (Instr.sliceBound x y c) (Instr.sliceBound x' y c) p:=by
 unfold Instr.sliceBound;refine(SR.asIntOf h).av fun q ki hq=>?_;obtain⟨k,n⟩:=ki;simp only;split
 .exact SR.pure rfl
 .exact SR.boundsPanic _ _ _ _
def OV (S:Nat->Bool) (p:Pi):Option Value->Option Value->Prop
 |none,none=>True
 |some v,some v'=>VR S p v v'
 |_,_=>False
theorem OV.mono {q:Pi} (h:Le p q) {a b:Option Value} (x:OV S p a b):OV S q a b:=by
 cases a<;>cases b<;>first|trivial|exact x.elim|exact VR.mono h x
theorem SR.sliceBounds (b:Bool) (len cap:Nat) (h1:OV S p lo zl) (h2:OV S p hi uv) (h3:OV S p mx yZ):
 SR P F S K N (QE (Nat×Nat×Nat)) (Instr.sliceBounds b len cap lo hi mx) (Instr.sliceBounds b len cap zl uv yZ) p:=by
 have hb:∀(q:Pi) (x x':Value) (y:Nat) (c:BoundsCode) (f f':Nat->Sem (Nat×Nat×Nat)),Le p q->VR S p x x'->(∀q' n,Le p q'->SR P F S K N (QE (Nat×Nat×Nat)) (f n) (f' n) q')->SR P F S K N (QE (Nat×Nat×Nat)) (Instr.sliceBound x y c>>=f) (Instr.sliceBound x' y c>>=f') q:=
  fun q x x' y c f f' hq hx hf=>(SR.sliceBound x x' (hx.mono hq) y c).av fun q' n tn=>hf q' n (hq.trans tn)
 cases mx<;>cases yZ<;>(try exact h3.elim)<;>cases hi<;>cases uv<;>(try exact h2.elim)<;>cases lo<;>cases zl<;>(try exact h1.elim)
 .exact SR.pure rfl
 .exact hb p _ _ _ _ _ _ (Le.refl _) h1 fun q n hq=>SR.pure rfl
 .exact hb p _ _ _ _ _ _ (Le.refl _) h2 fun q n hq=>SR.pure rfl
 .exact hb p _ _ _ _ _ _ (Le.refl _) h2 fun q n hq=>hb q _ _ _ _ _ _ hq h1 fun q n hq=>SR.pure rfl
 .exact hb p _ _ _ _ _ _ (Le.refl _) h3 fun q n hq=>SR.stuck
 .exact hb p _ _ _ _ _ _ (Le.refl _) h3 fun q n hq=>SR.stuck
 .exact hb p _ _ _ _ _ _ (Le.refl _) h3 fun q n hq=>hb q _ _ _ _ _ _ hq h2 fun q n hq=>SR.pure rfl
 .exact hb p _ _ _ _ _ _ (Le.refl _) h3 fun q n hq=>hb q _ _ _ _ _ _ hq h2 fun q n hq=>hb q _ _ _ _ _ _ hq h1 fun q n hq=>SR.pure rfl
theorem SR.uw (hl:p.l=true) (x x':Value) (h:VR S p x x') {y y':Nat} (hy:y<=y') (c:BoundsCode):SR P F S K N (QE Nat) (Instr.sliceBound x y c) (Instr.sliceBound x' y' c) p:=by
 unfold Instr.sliceBound;refine(SR.asIntOf h).av fun q ki hq=>?_;obtain⟨k,n⟩:=ki;simp only;by_cases h1:0<=n/\n<=(y:Int)
 .have h2:0<=n/\n<=(y':Int):=⟨h1.1,by omega⟩
  rw[if_pos h1,if_pos h2];exact SR.pure rfl
 .rw[if_neg h1];unfold Go.boundsPanic;simp only;split
  .exact fun _=>.inl (hq.l.trans hl)
  .exact fun _=>.inl (.inl ⟨hq.l.trans hl,trivial⟩)
theorem SR.sC (hl:p.l=true) (len:Nat) {cap jW:Nat} (hc:cap<=jW) (h1:OV S p lo zl) (h2:OV S p hi uv) (h3:OV S p mx yZ):
 SR P F S K N (fun _ a b=>a.1=b.1/\a.2.1=b.2.1/\(a.2.2=b.2.2\/(a.2.2=cap/\b.2.2=jW/\mx=none))) (Instr.sliceBounds true len cap lo hi mx) (Instr.sliceBounds true len jW zl uv yZ) p:=by
 have hb:∀(mx:Option Value) (q:Pi) (x x':Value) (y y':Nat) (c:BoundsCode) (f f':Nat->Sem (Nat×Nat×Nat)),y<=y'->Le p q->VR S p x x'->(∀q' n,Le p q'->SR P F S K N (fun _ a b=>a.1=b.1/\a.2.1=b.2.1/\(a.2.2=b.2.2\/(a.2.2=cap/\b.2.2=jW/\mx=none))) (f n) (f' n) q')->SR P F S K N (fun _ a b=>a.1=b.1/\a.2.1=b.2.1/\(a.2.2=b.2.2\/(a.2.2=cap/\b.2.2=jW/\mx=none))) (Instr.sliceBound x y c>>=f) (Instr.sliceBound x' y' c>>=f') q:=
  fun mx q x x' y y' c f f' hy hq hx hf=>(SR.uw (hq.l.trans hl) x x' (hx.mono hq) hy c).av fun q' n tn=>hf q' n (hq.trans tn)
 have l0:∀n:Nat,n<=n:=fun n=>Nat.le_refl n;cases mx<;>cases yZ<;>(try exact h3.elim)<;>cases hi<;>cases uv<;>(try exact h2.elim)<;>cases lo<;>cases zl<;>(try exact h1.elim)
 .exact SR.pure ⟨rfl,rfl,.inr ⟨rfl,rfl,rfl⟩⟩
 .exact hb _ p _ _ _ _ _ _ _ (l0 _) (Le.refl _) h1 fun q n hq=>SR.pure ⟨rfl,rfl,.inr ⟨rfl,rfl,rfl⟩⟩
 .exact hb _ p _ _ _ _ _ _ _ hc (Le.refl _) h2 fun q n hq=>SR.pure ⟨rfl,rfl,.inr ⟨rfl,rfl,rfl⟩⟩
 .exact hb _ p _ _ _ _ _ _ _ hc (Le.refl _) h2 fun q n hq=>hb _ q _ _ _ _ _ _ _ (l0 _) hq h1 fun q n hq=>SR.pure ⟨rfl,rfl,.inr ⟨rfl,rfl,rfl⟩⟩
 .exact hb _ p _ _ _ _ _ _ _ hc (Le.refl _) h3 fun q n hq=>SR.stuck
 .exact hb _ p _ _ _ _ _ _ _ hc (Le.refl _) h3 fun q n hq=>SR.stuck
 .exact hb _ p _ _ _ _ _ _ _ hc (Le.refl _) h3 fun q n hq=>hb _ q _ _ _ _ _ _ _ (l0 _) hq h2 fun q n hq=>SR.pure ⟨rfl,rfl,.inl rfl⟩
 .exact hb _ p _ _ _ _ _ _ _ hc (Le.refl _) h3 fun q n hq=>hb _ q _ _ _ _ _ _ _ (l0 _) hq h2 fun q n hq=>hb _ q _ _ _ _ _ _ _ (l0 _) hq h1 fun q n hq=>SR.pure ⟨rfl,rfl,.inl rfl⟩
theorem SR.wB (x x':Value) (h:VR S p x x') (c:BoundsCode):SR P F S K N (fun _ a b=>a=0/\b=0) (Instr.sliceBound x 0 c) (Instr.sliceBound x' 0 c) p:=by
 unfold Instr.sliceBound;refine(SR.asIntOf h).av fun q ki hq=>?_;obtain⟨k,n⟩:=ki;simp only;split
 .exact SR.pure ⟨by omega,by omega⟩
 .exact SR.boundsPanic _ _ _ _
theorem SR.ux (b:Bool) (h1:OV S p lo zl) (h2:OV S p hi uv) (h3:OV S p mx yZ):
 SR P F S K N (fun _ a b=>a=(0,0,0)/\b=(0,0,0)) (Instr.sliceBounds b 0 0 lo hi mx) (Instr.sliceBounds b 0 0 zl uv yZ) p:=by
 have hb:∀(q:Pi) (x x':Value) (c:BoundsCode) (f f':Nat->Sem (Nat×Nat×Nat)),Le p q->VR S p x x'->(∀q',Le p q'->SR P F S K N (fun _ a b=>a=(0,0,0)/\b=(0,0,0)) (f 0) (f' 0) q')->SR P F S K N (fun _ a b=>a=(0,0,0)/\b=(0,0,0)) (Instr.sliceBound x 0 c>>=f) (Instr.sliceBound x' 0 c>>=f') q:=
  fun q x x' c f f' hq hx hf=>(SR.wB x x' (hx.mono hq) c).bind fun q' n n' tn hn=>by
   obtain⟨rfl,rfl⟩:=hn;exact hf q' (hq.trans tn)
 cases mx<;>cases yZ<;>(try exact h3.elim)<;>cases hi<;>cases uv<;>(try exact h2.elim)<;>cases lo<;>cases zl<;>(try exact h1.elim)
 .exact SR.pure ⟨rfl,rfl⟩
 .exact hb p _ _ _ _ _ (Le.refl _) h1 fun q hq=>SR.pure ⟨rfl,rfl⟩
 .exact hb p _ _ _ _ _ (Le.refl _) h2 fun q hq=>SR.pure ⟨rfl,rfl⟩
 .exact hb p _ _ _ _ _ (Le.refl _) h2 fun q hq=>hb q _ _ _ _ _ hq h1 fun q hq=>SR.pure ⟨rfl,rfl⟩
 .exact hb p _ _ _ _ _ (Le.refl _) h3 fun q hq=>SR.stuck
 .exact hb p _ _ _ _ _ (Le.refl _) h3 fun q hq=>SR.stuck
 .exact hb p _ _ _ _ _ (Le.refl _) h3 fun q hq=>hb q _ _ _ _ _ hq h2 fun q hq=>SR.pure ⟨rfl,rfl⟩
 .exact hb p _ _ _ _ _ (Le.refl _) h3 fun q hq=>hb q _ _ _ _ _ hq h2 fun q hq=>hb q _ _ _ _ _ hq h1 fun q hq=>SR.pure ⟨rfl,rfl⟩
theorem ke {a a':Option Addr} {l' c':Nat} (h:VR S p (.slice a l c) (.slice a' l' c')):l=l'/\((a=none/\a'=none/\c=c')\/(∃b b',a=some b/\a'=some b'/\gD p b b'/\((c=c'/\(S 999999=true->∀k,¬p.x b.block k))\/(p.l=true/\0<c/\b.spot=none/\∃k,p.x b.block k/\c'=c+k)))\/(l=0/\c=0/\∃b b',a=some b/\a'=some b'/\((p.l=true/\b.spot=some 0)\/(p.l=false/\c'=0)))):=by
 cases h with
 |cI=>exact⟨rfl,.inl ⟨rfl,rfl,rfl⟩⟩
 |slice o sp l c g hX=>exact⟨rfl,.inr (.inl ⟨_,_,rfl,rfl,⟨g,rfl,rfl⟩,.inl ⟨rfl,hX⟩⟩)⟩
 |cJ o l hl g h0 hx=>exact⟨rfl,.inr (.inl ⟨_,_,rfl,rfl,⟨g,rfl,rfl⟩,.inr ⟨hl,h0,rfl,_,hx,rfl⟩⟩)⟩
 |eN o o' c' hl g=>exact⟨rfl,.inr (.inr ⟨rfl,rfl,_,_,rfl,rfl,.inl ⟨hl,rfl⟩⟩)⟩
 |dk hl a a'=>exact⟨rfl,.inr (.inr ⟨rfl,rfl,_,_,rfl,rfl,.inr ⟨hl,rfl⟩⟩)⟩
theorem SR.ok {Q:Pi->α->β->Prop} {s:Sem α} {s':Sem β} (h:nP P p->SR P F S K N Q s s' p):SR P F S K N Q s s' p:=fun hp=>h hp hp
theorem UV (Bh:p.l=true->S 999999=false) (ho:nP P p) (r:Nat):S 999999=true->∀k,¬p.x r k:=fun h=>by
 cases hl:p.l with
 |true=>rw[Bh hl]at h;cases h
 |false=>exact ho.sB hl r
theorem gD.Zf {p:Pi} (x:gD p a a') (hl:p.l=true) (hs:a.spot=none) (l:Nat) {k:Nat} (h0:0<c) (hx:p.x a.block k):VR S p (.slice (some a) l c) (.slice (some a') l (c+k)):=by
 obtain⟨b,o,sp⟩:=a;obtain⟨b',o',Tq⟩:=a';obtain⟨h1,h2,h3⟩:=x;simp only at h1 h2 h3 hs;subst h2;subst h3;subst hs;exact .cJ o l hl h1 h0 hx
theorem eY (a:Addr) (n:Nat):(a.add n).block=a.block:=by unfold Addr.add;split<;>rfl
theorem mI (a:Addr) (n:Nat) (h:a.spot=none):(a.add n).spot=none:=by unfold Addr.add;split<;>simp_all
def IE (q:Pi) (x v v':Value):Prop:=(∃b l c,x=.slice b l c)/\∃a a' l c',v=.slice (some a) l 0/\v'=.slice (some a') l c'/\q a.block a'.block/\a'.spot=none
theorem SR.slice (Bh:p.l=true->S 999999=false) (t:TypeId) {x x':Value} {lo zl hi uv mx yZ:Option Value} (hx:VR S p x x') (hE:p.l=true->∀b l c,x=.slice (some b) l c->b.spot=none) (h1:OV S p lo zl) (h2:OV S p hi uv) (h3:OV S p mx yZ):
 SR P F S K N (fun q v v'=>VR S q v v'\/(p.l=true/\mx=none/\IE q x v v')) (Instr.slice t x lo hi mx) (Instr.slice t x' zl uv yZ) p:=by
 unfold Instr.slice;refine SR.cq fun d hd=>?_
 have CJ:∀arr,SR P F S K N (fun q v v'=>VR S q v v'\/(p.l=true/\mx=none/\IE q x v v')) (do
  let a<-Go.asAddr x
  let .array n elem<-Go.underlying arr|Go.stuck "Slice: array type expected"
  let(l,h,m)<-Instr.sliceBounds false n n lo hi mx
  let size<-Go.sizeOf elem
  Pure.pure (Value.slice (some (if m=l then a else a.add (l*size))) (h-l) (m-l))) (do
  let a<-Go.asAddr x'
  let .array n elem<-Go.underlying arr|Go.stuck "Slice: array type expected"
  let(l,h,m)<-Instr.sliceBounds false n n zl uv yZ
  let size<-Go.sizeOf elem
  Pure.pure (Value.slice (some (if m=l then a else a.add (l*size))) (h-l) (m-l))) p:=by
  intro arr;refine(SR.asAddr hx).bind fun q a a' hq ha=>?_;refine SR.cq fun d hd=>?_;cases d with
  |array n elem=>
   simp only;refine(SR.sliceBounds false n n (h1.mono hq) (h2.mono hq) (h3.mono hq)).av fun q2 b bR=>?_;obtain⟨l,h,m⟩:=b;simp only;refine(SR.sizeOf elem).av fun q3 s fQ=>?_;have ha:=(ha.mono bR).mono fQ;refine SR.ok fun ho=>?_;have im:=fun r=>UV (fun x=>Bh (((hq.trans bR).trans fQ).l.symm.trans x)) ho r;split
   .exact SR.pure (.inl (ha.sl (im _) _ _))
   .exact SR.pure (.inl ((ha.add _).sl (im _) _ _))
  |_=>exact SR.stuck
 cases d with
 |string=>
  cases hx with
  |string s=>
   simp only;cases mx<;>cases yZ<;>first|exact h3.elim|skip
   .simp only[Option.isSome_none,Bool.false_eq_true,if_false];refine(SR.sliceBounds false _ _ h1 h2 h3).av fun q2 b bR=>?_;exact SR.pure (.inl (.string _))
   .simp only[Option.isSome_some,if_true];exact SR.stuck
  |_=>exact SR.stuck
 |slice elem=>
  cases x<;>cases x'<;>first|(cases hx;done)|exact SR.stuck|skip
  rename_i a len cap a' UW jW;obtain⟨rfl,hs⟩:=ke hx;simp only;have im:∀{q:Pi},Le p q->nP P q->∀r,S 999999=true->∀k,¬q.x r k:=fun hq ho r=>UV (fun x=>Bh (hq.l.symm.trans x)) ho r;rcases hs with⟨rfl,rfl,rfl⟩|⟨b,b',rfl,rfl,hb,⟨rfl,_⟩|⟨jo,h0,lj,k,UX,rfl⟩⟩|⟨rfl,rfl,b,b',rfl,rfl,⟨jo,lj⟩|⟨jo,rfl⟩⟩
  .refine(SR.sliceBounds true len cap h1 h2 h3).av fun q2 b bR=>?_;obtain⟨l,h,m⟩:=b;simp only;refine(SR.sizeOf elem).av fun q3 s fQ=>?_;split<;>exact SR.pure (.inl (.cI _ _))
  .refine(SR.sliceBounds true len cap h1 h2 h3).av fun q2 b bR=>?_;obtain⟨l,h,m⟩:=b;simp only;refine(SR.sizeOf elem).av fun q3 s fQ=>?_;have hb:=(hb.mono bR).mono fQ;refine SR.ok fun ho=>?_;split
   .exact SR.pure (.inl (hb.sl (im (bR.trans fQ) ho _) _ _))
   .exact SR.pure (.inl ((hb.add _).sl (im (bR.trans fQ) ho _) _ _))
  .refine(SR.sC jo len (Nat.le_add_right cap k) h1 h2 h3).bind fun q2 x y bR y6=>?_;obtain⟨l,h,m⟩:=x;obtain⟨l',h',m'⟩:=y;obtain⟨e1,e2,e3⟩:=y6;simp only at e1 e2 e3;subst e1;subst e2;simp only;refine(SR.sizeOf elem).av fun q3 s fQ=>?_;have hb:=(hb.mono bR).mono fQ;have UX:=fQ.x _ _ (bR.x _ _ UX);rcases e3 with e3|⟨e3,e4,e5⟩
   .subst e3;refine SR.ok fun ho=>?_;split
    .exact SR.pure (.inl (hb.sl (im (bR.trans fQ) ho _) _ _))
    .exact SR.pure (.inl ((hb.add _).sl (im (bR.trans fQ) ho _) _ _))
   .subst e3;subst e4;rcases Nat.lt_or_ge l m with hl|hl
    .have n1:¬m=l:=by omega
     have n2:¬m+k=l:=by omega
     rw[if_neg n1,if_neg n2];have e:m+k-l=(m-l)+k:=by omega
     rw[e];exact SR.pure (.inl ((hb.add _).Zf ((bR.trans fQ).l.trans jo) (mI _ _ lj) _ (by omega) (by rw[eY];exact UX)))
    .have:m-l=0:=by omega
     have CK:b'.spot=none:=hb.2.2.symm.trans lj;refine SR.pure (.inr ⟨jo,e5,⟨_,_,_,rfl⟩,?_⟩);rw[this];refine⟨if m=l then b else b.add (l*s),if m+k=l then b' else b'.add (l*s),h-l,m+k-l,?_,?_,?_,?_⟩
     .split<;>rfl
     .split<;>rfl
     .have h1:(if m=l then b else b.add (l*s)).block=b.block:=by split<;>simp only[eY]
      have h2:(if m+k=l then b' else b'.add (l*s)).block=b'.block:=by split<;>simp only[eY]
      rw[h1,h2];exact hb.1
     .split
      .exact CK
      .exact mI _ _ CK
  .have:=hE jo _ _ _ rfl;rw[lj]at this;cases this
  .refine(SR.ux true h1 h2 h3).bind fun q2 c c' bR ly=>?_;obtain⟨rfl,rfl⟩:=ly;exact(SR.sizeOf elem).av fun q3 s fQ=>SR.pure (.inl (.dk ((bR.trans fQ).l.trans jo) _ _))
 |pointer arr=>exact CJ arr
 |_=>cases hx<;>exact SR.stuck
end
def cg (P:Program):Nat->TypeId->Bool
 |0,_=>false
 |n+1,t=>match P.underlying t with
  |some .bool|some (.int _)|some .string=>true
  |some (.slice _)=>true
  |some (.struct fs)=>!P.stoodInHeld t&&fs.all fun f=>cg P n f.type
  |some (.array _ e)=>cg P n e
  |_=>false
def aF (P:Program):Prop:=∀t i u,P.info? t=some i->i.desc≠ .named "sync.copyChecker" u
section
variable {P:Program} {F:Array Func} {S:Nat->Bool} {K:Kz} {N:Nat} {p:Pi}
theorem SR.qz (f f':α->β->Sem (ForInStep β)):∀(l:List α),(∀x,x∈l->∀b q,Le p q->SR P F S K N (QE (ForInStep β)) (f x b) (f' x b) q)->∀(b:β) (q:Pi),Le p q->SR P F S K N (QE β) (forIn l b f) (forIn l b f') q
 | [],_,b,q,hq=>SR.pure rfl
 |x::l,h,b,q,hq=>by
  simp only[List.forIn_cons];refine(h x (by simp) b q hq).av fun q' r tn=>?_;cases r with
  |done b=>exact SR.pure rfl
  |yield b=>exact SR.qz f f' l (fun y hy=>h y (by simp[hy])) b q' (hq.trans tn)
def NR (p:Pi):Option (Addr×Bool)->Option (Addr×Bool)->Prop
 |none,none=>True
 |some x,some y=>gD p x.1 y.1/\x.2=y.2
 |_,_=>False
theorem SR.numberAt {r r':Nat} (h:p r r'):SR P F S K N (fun q a b=>NR q a b) (Go.numberAt r) (Go.numberAt r') p:=by
 unfold Go.numberAt;refine(SR.shape h).av fun q x hq=>?_;cases x with
 |some y=>exact SR.pure trivial
 |none=>
  refine(SR.getObj (hq _ _ h)).bind fun q o o' hq ho=>?_;cases ho with
  |number l h=>exact SR.pure ⟨h,rfl⟩
  |_=>exact SR.pure trivial
theorem SR.viewAt {r r':Nat} (h:p r r'):SR P F S K N (fun _ a b=>a=none/\b=none) (Go.viewAt r) (Go.viewAt r') p:=by
 unfold Go.viewAt;refine(SR.shape h).av fun q x hq=>?_;cases x with
 |some y=>exact SR.pure ⟨rfl,rfl⟩
 |none=>
  refine(SR.getObj (hq _ _ h)).bind fun q o o' hq ho=>?_;cases ho<;>exact SR.pure ⟨rfl,rfl⟩
theorem SR.behindNumber (h:gD p a a'):SR P F S K N (fun q x y=>gD q x.1 y.1/\x.2=y.2) (Go.behindNumber a) (Go.behindNumber a') p:=by
 unfold Go.behindNumber;refine(SR.numberAt h.1).bind fun q x y hq y6=>SR.pure ?_;cases x<;>cases y<;>first|exact y6.elim|exact⟨h.mono hq,rfl⟩|exact y6
theorem SR.byteOf (h:gD p a a'):SR P F S K N (QE Nat) (Go.byteOf a) (Go.byteOf a') p:=by
 unfold Go.byteOf;rw[<-h.2.2];cases hs:a.spot with
 |some s=>exact SR.pure rfl
 |none=>
  refine SR.mF ?_;try simp only[jq,cS,iW,cT,dL,dJ,dK,iV]
  unfold Go.noView;refine SR.bind (Q:=QE Unit) ?_ fun q _ _ hq _=>?_
  .exact(SR.viewAt h.1).bind fun q x y hq y6=>by rw[y6.1,y6.2];exact SR.pure rfl
  .refine(SR.shape (hq _ _ h.1)).av fun q x hq=>?_;cases x with
   |none=>exact SR.stuck
   |some x=>
    obtain⟨e,n⟩:=x;simp only;rw[<-h.2.1];split
    .exact SR.pure rfl
    .split
     .exact SR.pure rfl
     .exact SR.stuck
theorem SR.equalIn (hc:aF P):∀(d n:Nat) (t:TypeId) {p:Pi} {x x' y y':Value},cg P n t=true->VR S p x x'->VR S p y y'->SR P F S K N (QE Bool) (Op.equalIn d t x y) (Op.equalIn d t x' y') p
 |0,_,_,_,_,_,_,_,_,_,_=>SR.unsupported
 |d+1,0,_,_,_,_,_,_,h,_,_=>by simp[cg]at h
 |d+1,n+1,t,p,x,x',y,y',ht,hx,hy=>by
  simp only[Op.equalIn];refine SR.cq fun u hu=>?_;simp only[cg,hu]at ht;cases u with
  |bool=>cases hx<;>cases hy<;>first|exact SR.pure rfl|exact SR.stuck
  |string=>cases hx<;>cases hy<;>first|exact SR.pure rfl|exact SR.stuck
  |int k=>
   cases hx<;>first|exact SR.stuck|(cases hy<;>first|exact SR.stuck|exact SR.unsupported|skip)
   .rename_i k1 a k2 b;simp only;split
    .exact SR.pure rfl
    .exact SR.stuck
   .rename_i k1 a r r' o sp h;rcases a with(_|a)|a<;>first|exact SR.pure rfl|exact SR.unsupported
   .rename_i r r' o sp h k1 a;rcases a with(_|a)|a<;>first|exact SR.pure rfl|exact SR.unsupported
   .rename_i r r' o sp h r2 EE o2 mJ h2;intro hp;refine(SR.behindNumber (a:=⟨r,o,sp⟩) (a':=⟨r',o,sp⟩) ⟨h,rfl,rfl⟩).bind (fun q a a' hq ha=>?_) hp;refine(SR.behindNumber (a:=⟨r2,o2,mJ⟩) (a':=⟨EE,o2,mJ⟩) ⟨hq _ _ h2,rfl,rfl⟩).bind fun q2 b b' bR hb=>?_;have ha:=ha.1.mono bR;have hb:=hb.1;refine SR.mF ?_;try simp only[jq,cS,iW,cT,dL,dJ,dK,iV]
    intro EF;by_cases hg:(a.1.block==b.1.block&&decide (a.1.block<P.globals.size))=true
    .have zm:(a'.1.block==b'.1.block&&decide (a'.1.block<P.globals.size))=true:=by
      simp only[Bool.and_eq_true,beq_iff_eq,decide_eq_true_eq]at hg⊢;exact⟨(EF.inj _ _ _ _ ha.1 hb.1 fun _=>hg.2).1 hg.1,(EF.fix _ _ ha.1).1 hg.2⟩
     simp only[hg,zm,if_true];exact(SR.byteOf ha).av (fun q x hq=>(SR.byteOf (hb.mono hq)).av fun q y hq=>SR.pure rfl) EF
    .simp only[hg,if_false,Bool.false_eq_true];by_cases zm:(a'.1.block==b'.1.block&&decide (a'.1.block<P.globals.size))=true
     .refine absurd ?_ hg;simp only[Bool.and_eq_true,beq_iff_eq,decide_eq_true_eq]at zm⊢;exact⟨(EF.inj _ _ _ _ ha.1 hb.1 fun _=>(EF.fix _ _ ha.1).2 zm.2).2 zm.1,(EF.fix _ _ ha.1).2 zm.2⟩
     .simp only[zm,if_false,Bool.false_eq_true];refine SR.mG (fun i hi=>?_) EF;have bA:=fun u=>hc t i u hi;generalize i.desc=ds at bA;cases ds<;>first|exact SR.unsupported|skip
      rename_i nm u;by_cases Id:nm= "sync.copyChecker"
      .subst Id;exact absurd rfl (bA u)
      .split
       .rename_i h3;exact absurd (by simpa using h3) (bA _)
       .exact SR.unsupported
  |slice e=>cases hx<;>cases hy<;>first|exact SR.pure rfl|exact SR.stuck
  |struct fs=>
   simp only[Bool.and_eq_true,Bool.not_eq_true']at ht;cases hx<;>first|exact SR.stuck|(cases hy<;>first|exact SR.stuck|skip)
   rename_i xs cB Bj Ms ys Ia UY UZ;have ax:AR S p xs cB:=⟨Bj,Ms⟩
   have ay:AR S p ys Ia:=⟨UY,UZ⟩
   simp only;refine SR.mF ?_;try simp only[jq,cS,iW,cT,dL,dJ,dK,iV]
   simp only[ht.1,Bool.false_eq_true,if_false]
   refine SR.av (α:=Option Bool×Unit) ?_ fun q r hq=>by
    split<;>exact SR.pure rfl
   rw[<-Array.forIn_toList,<-Array.forIn_toList]
   have bI:∀f∈fs.toList,cg P n f.type=true:=fun f hf=>by
    obtain⟨i,hi,he⟩:=List.getElem_of_mem hf;have:=Array.all_eq_true.1 ht.2 i (by simpa using hi);rw[<-he];simpa using this
   refine SR.qz (p:=p) _ _ fs.toList (fun f hf b q2 bR=>?_) _ p (Le.refl _);have ax:=ax.mono bR;have ay:=ay.mono bR;split
   .refine(SR.part f.type ax _).bind fun q3 u u' fQ O0=>?_;refine(SR.part f.type (ay.mono fQ) _).bind fun q4 v v' EG U0=>?_;refine(SR.equalIn hc d n f.type (bI f hf) (O0.mono EG) U0).av fun q5 c O3=>?_;split<;>exact SR.pure rfl
   .exact SR.pure rfl
  |array len e=>
   cases hx<;>first|exact SR.stuck|(cases hy<;>first|exact SR.stuck|skip)
   rename_i xs cB Bj Ms ys Ia UY UZ;have ax:AR S p xs cB:=⟨Bj,Ms⟩
   have ay:AR S p ys Ia:=⟨UY,UZ⟩
   simp only;refine(SR.sizeOf e).av fun q m hq=>?_
   refine SR.av (α:=Option Bool×Unit) ?_ fun q r hq=>by
    split<;>exact SR.pure rfl
   simp only[Std.Legacy.Range.forIn_eq_forIn_range'];refine SR.qz (p:=q) _ _ _ (fun i hi b q2 bR=>?_) _ q (Le.refl _);have ax:=(ax.mono hq).mono bR;have ay:=(ay.mono hq).mono bR;refine(SR.part e ax _).bind fun q3 u u' fQ O0=>?_;refine(SR.part e (ay.mono fQ) _).bind fun q4 v v' EG U0=>?_;refine(SR.equalIn hc d n e ht (O0.mono EG) U0).av fun q5 c O3=>?_;split<;>exact SR.pure rfl
  |_=>cases ht
end
section
variable {P:Program} {F:Array Func} {S:Nat->Bool} {K:Kz} {N:Nat} {p:Pi}
theorem SR.intArith (op:BinOp) (k:IntKind) (x y:Int):SR P F S K N (QV S) (Op.intArith op k x y) (Op.intArith op k x y) p:=by
 cases op<;>first|exact SR.pure (.int _ _)|exact SR.stuck
theorem SR.intDiv (op:BinOp) (k:IntKind) (x y:Int):SR P F S K N (QV S) (Op.intDiv op k x y) (Op.intDiv op k x y) p:=by
 unfold Op.intDiv;split
 .exact SR.err _
 .cases op<;>first|exact SR.pure (.int _ _)|exact SR.stuck
theorem SR.intBits (op:BinOp) (k:IntKind) (x y:Int):SR P F S K N (QV S) (Op.intBits op k x y) (Op.intBits op k x y) p:=by
 cases op<;>first|exact SR.pure (.int _ _)|exact SR.stuck
theorem SR.intCmp (op:BinOp) (x y:Int):SR P F S K N (QV S) (Op.intCmp op x y) (Op.intCmp op x y) p:=by
 cases op<;>first|exact SR.pure (.bool _)|exact SR.stuck
theorem SR.shift (op:BinOp) (k:IntKind) (x:Int) (k':IntKind) (y:Int):SR P F S K N (QV S) (Op.shift op k x k' y) (Op.shift op k x k' y) p:=by
 unfold Op.shift;split
 .exact SR.err _
 .cases op<;>first|exact SR.pure (.int _ _)|exact SR.stuck
theorem SR.stringOp (op:BinOp) (x y:ByteArray):SR P F S K N (QV S) (Op.stringOp op x y) (Op.stringOp op x y) p:=by
 cases op<;>first|exact SR.pure (.bool _)|exact SR.stuck|skip
 unfold Op.stringOp;simp only;split
 .exact SR.unsupported
 .exact SR.pure (.string _)
theorem SR.unary (op:UnOp) (h:VR S p x x'):SR P F S K N (QV S) (Op.unary op x) (Op.unary op x') p:=by
 cases op<;>cases h<;>first|exact SR.pure (.bool _)|exact SR.unsupported|exact SR.stuck|skip
 .rename_i k n;exact SR.intArith .sub k 0 n
 .rename_i k n;exact SR.intBits .xor k (if k.signed then-1 else k.max) n
theorem kf (ts:Array TypeId) (t:TypeId) (a:Addr) (y:Value):Builtin.unsafeAdd_ ts t #[.pointer (some a),y]=(Go.asInt y>>=fun n=>
 if n=0 then(Go.viewAt a.block>>=fun v=>if v.isSome then Go.unsupported (.unsafePointer "Add: at a place where no cell lies")else Pure.pure (.pointer (some a)))
 else if n<0 then Go.unsupported (.unsafePointer "Add: a move by a count below zero")
 else Go.shape a.block>>=fun s=>match s with
  |some (e,cells)=>Go.program>>=fun p=>match cellAtBytes p p.depth e (cells/p.cellsOf e) a.off n with
   |some off=>Pure.pure (.pointer (some {a with off}))
   |none=>Go.unsupported (.unsafePointer "Add")
  |none=>Go.unsupported (.unsafePointer "Add")):=by
 unfold Builtin.unsafeAdd_;show(Go.asInt y>>=_)=_;congr 1;funext n;by_cases h0:n=0
 .simp only[h0,if_true];congr 1
 .by_cases h1:n<0
  .simp only[h0,h1,if_true,if_false];rfl
  .simp only[h0,h1,if_false];congr 1;funext s;cases s<;>rfl
theorem SR.unsafeAdd {ts ts':Array TypeId} {t':TypeId} (h:gD p a a') (hy:VR S p y y'):SR P F S K N (fun q v v'=>∃b b',v=.pointer (some b)/\v'=.pointer (some b')/\gD q b b') (Builtin.unsafeAdd_ ts t #[.pointer (some a),y]) (Builtin.unsafeAdd_ ts' t' #[.pointer (some a'),y']) p:=by
 rw[kf,kf];refine(SR.asInt hy).av fun q n hq=>?_;have h:=h.mono hq;refine SR.ite (fun _=>?_) fun _=>SR.ite (fun _=>SR.unsupported) fun _=>?_
 .exact(SR.viewAt h.1).bind fun q x y hq y6=>by
   rw[y6.1,y6.2];exact SR.pure ⟨_,_,rfl,rfl,h.mono hq⟩
 .refine(SR.shape h.1).av fun q x hq=>?_;cases x with
  |none=>exact SR.unsupported
  |some x=>
   obtain⟨e,cells⟩:=x;refine SR.mF ?_;try simp only[jq,cS,iW,cT,dL,dJ,dK,iV]
   simp only[<-h.2.1];split
   .rename_i off _;exact SR.pure ⟨{a with off},{a' with off},rfl,rfl,hq _ _ h.1,rfl,h.2.2⟩
   .exact SR.unsupported
theorem SR.asNumber (h:gD p a a') (l:Bool):SR P F S K N (QV S) (Go.asNumber a l) (Go.asNumber a' l) p:=by
 unfold Go.asNumber;exact(SR.newObj (.number l h) fun _ _ _ _ _ _ _ a=>by cases a).bind fun q r r' hq hr=>SR.pure (.ptr 0 none hr.1)
theorem SR.movedNumber (t:TypeId) (hx:VR S p x x') (hy:VR S p y y'):SR P F S K N (QV S) (Go.movedNumber t x y) (Go.movedNumber t x' y') p:=by
 unfold Go.movedNumber;refine SR.cq fun d hd=>?_;dsimp only;refine SR.ite (fun _=>SR.unsupported) fun _=>?_;cases x with
 |pointer a=>
  cases a with
  |none=>
   cases hx;show SR P F S K N (QV S) (Builtin.unsafeAdd_ #[] t #[.pointer none,y]) (Builtin.unsafeAdd_ #[] t #[.pointer none,y']) p;show SR P F S K N (QV S) (Go.asInt y>>=_) (Go.asInt y'>>=_) p;refine(SR.asInt hy).av fun q n hq=>?_;dsimp only;refine SR.ite (fun _=>SR.unsupported) fun _=>SR.ite (fun _=>SR.unsupported) fun _=>SR.unsupported
  |some a=>
   obtain⟨r,o,sp⟩:=a;cases hx with
   |ptr _ _ h=>
   rename_i r';refine(SR.behindNumber (a:=⟨r,o,sp⟩) (a':=⟨r',o,sp⟩) ⟨h,rfl,rfl⟩).bind fun q a a' hq ha=>?_;obtain⟨a,l⟩:=a;obtain⟨a',l'⟩:=a';obtain⟨ha,hl⟩:=ha;simp only at hl ha;subst hl;simp only;refine(SR.unsafeAdd ha (hy.mono hq)).bind fun q v v' hq hv=>?_;obtain⟨b,b',rfl,rfl,h⟩:=hv;exact SR.asNumber h l
 |_=>
  cases hx<;>exact(SR.stuck:SR P F S K N (QV S) (Go.stuck "unsafe.Add: a pointer and an integer expected") _ p)
theorem SR.twoPlaces {b b':Addr} (ha:gD p a a') (hb:gD p b b'):SR P F S K N (QE (Nat×Nat)) (Op.twoPlaces a b) (Op.twoPlaces a' b') p:=by
 unfold Op.twoPlaces;refine SR.mF ?_;try simp only[jq,cS,iW,cT,dL,dJ,dK,iV]
 intro hp
 have e:(a.block !=b.block||decide (a.block>=P.globals.size))=(a'.block !=b'.block||decide (a'.block>=P.globals.size)):=by
  have h1:=hp.inj _ _ _ _ ha.1 hb.1;have h2:=hp.fix _ _ ha.1;rw[Bool.eq_iff_iff];simp only[Bool.or_eq_true,bne_iff_ne,decide_eq_true_eq,ne_eq];by_cases hg:a.block<P.globals.size
  .have h1:=h1 fun _=>hg;omega
  .omega
 rw[e];revert hp;show SR P F S K N (QE (Nat×Nat)) _ _ p;try dsimp only
 refine SR.ite (fun _=>SR.unsupported) fun _=>?_;exact(SR.byteOf ha).av fun q x hq=>(SR.byteOf (hb.mono hq)).av fun q y hq=>SR.pure rfl
theorem SR.addrSub (k:IntKind) {b b':Addr} (ha:gD p a a') (hb:gD p b b'):SR P F S K N (QV S) (Op.addrSub k a b) (Op.addrSub k a' b') p:=
 (SR.twoPlaces ha hb).av fun q x hq=>SR.pure (.int _ _)
theorem SR.addrCmp (op:BinOp) {b b':Addr} (ha:gD p a a') (hb:gD p b b'):SR P F S K N (QV S) (Op.addrCmp op a b) (Op.addrCmp op a' b') p:=by
 refine(SR.twoPlaces ha hb).av fun q x hq=>?_;cases op<;>first|exact SR.pure (.bool _)|exact SR.unsupported
theorem SR.addrMod (k:IntKind) (ha:gD p a a') (n:Int):SR P F S K N (QV S) (Op.addrMod k a n) (Op.addrMod k a' n) p:=by
 unfold Op.addrMod;refine(SR.shape ha.1).av fun q x hq=>?_;cases x with
 |none=>exact SR.unsupported
 |some x=>
  obtain⟨e,m⟩:=x;simp only;refine SR.mG fun i hi=>?_;refine SR.ite (fun _=>SR.unsupported) fun _=>?_;exact(SR.byteOf (ha.mono hq)).av fun q x hq=>SR.pure (.int _ _)
theorem SR.equal (hc:aF P) (ht:cg P n t=true) (hx:VR S p x x') (hy:VR S p y y'):SR P F S K N (QE Bool) (Op.equal t x y) (Op.equal t x' y') p:=
 SR.equalIn hc _ n t ht hx hy
def lz (P:Program) (op:BinOp) (t:TypeId):Bool:=
 match op with
 |.eql|.neq=>cg P 10 t&&!P.eqGuardType P.depth t
 |.add|.sub=>match P.underlying t with|some .unsafePointer=>false|_=>true
 |_=>true
end
section
variable {P:Program} {F:Array Func} {S:Nat->Bool} {K:Kz} {N:Nat} {p:Pi}
theorem SR.Mt (op:BinOp) (t:TypeId) (k k':IntKind) (a b:Int):SR P F S K N (QV S) (Go.binOp op t (.int k a) (.int k' b)) (Go.binOp op t (.int k a) (.int k' b)) p:=by
 have key:∀(s:Sem Value),SR P F S K N (QV S) s s p->SR P F S K N (QV S) (if k≠k' then Go.stuck "BinOp: operands of different kinds" else s) (if k≠k' then Go.stuck "BinOp: operands of different kinds" else s) p:=fun s h=>SR.ite (fun _=>SR.stuck) fun _=>h;cases op;case shl=>exact SR.shift .shl k a k' b
 case shr=>exact SR.shift .shr k a k' b
 case quo=>exact key _ (SR.intDiv .quo k a b)
 case rem=>exact key _ (SR.intDiv .rem k a b)
 case add=>exact key _ (SR.intArith .add k a b)
 case sub=>exact key _ (SR.intArith .sub k a b)
 case mul=>exact key _ (SR.intArith .mul k a b)
 case and=>exact key _ (SR.intBits .and k a b)
 case or=>exact key _ (SR.intBits .or k a b)
 case xor=>exact key _ (SR.intBits .xor k a b)
 case andNot=>exact key _ (SR.intBits .andNot k a b)
 all_goals exact key _ (SR.intCmp _ a b)
theorem SR.Mw (op:BinOp) (t:TypeId) (a b:ByteArray):SR P F S K N (QV S) (Go.binOp op t (.string a) (.string b)) (Go.binOp op t (.string a) (.string b)) p:=by
 cases op;case add=>exact SR.stringOp .add a b
 case sub=>exact SR.stringOp .sub a b
 case mul=>exact SR.stringOp .mul a b
 case quo=>exact SR.stringOp .quo a b
 case rem=>exact SR.stringOp .rem a b
 case and=>exact SR.stringOp .and a b
 case or=>exact SR.stringOp .or a b
 case xor=>exact SR.stringOp .xor a b
 case andNot=>exact SR.stringOp .andNot a b
 case shl=>exact SR.stringOp .shl a b
 case shr=>exact SR.stringOp .shr a b
 case eql=>exact SR.stringOp .eql a b
 case neq=>exact SR.stringOp .neq a b
 case lss=>exact SR.stringOp .lss a b
 case leq=>exact SR.stringOp .leq a b
 case gtr=>exact SR.stringOp .gtr a b
 case geq=>exact SR.stringOp .geq a b
def eD:Value->Value->Bool
 |.int _ _,.int _ _|.string _,.string _=>true
 |_,_=>false
theorem SR.IF (hc:aF P) (t:TypeId) (hx:VR S p x x') (hy:VR S p y y') (h:eD x y=false):SR P F S K N (QV S) (Go.binOp .mul t x y) (Go.binOp .mul t x' y') p:=by
 cases hx<;>cases hy<;>first|exact SR.stuck|exact SR.unsupported|(cases h;done)|skip
theorem SR.IG (hc:aF P) (t:TypeId) (hx:VR S p x x') (hy:VR S p y y') (h:eD x y=false):SR P F S K N (QV S) (Go.binOp .quo t x y) (Go.binOp .quo t x' y') p:=by
 cases hx<;>cases hy<;>first|exact SR.stuck|exact SR.unsupported|(cases h;done)|skip
theorem SR.II (hc:aF P) (t:TypeId) (hx:VR S p x x') (hy:VR S p y y') (h:eD x y=false):SR P F S K N (QV S) (Go.binOp .rem t x y) (Go.binOp .rem t x' y') p:=by
 cases hx<;>cases hy<;>first|exact SR.stuck|exact SR.unsupported|(cases h;done)|skip
 all_goals
  rename_i r r' o sp g k n;exact SR.bind (SR.behindNumber (a:=⟨r,o,sp⟩) (a':=⟨r',o,sp⟩) ⟨g,rfl,rfl⟩) fun q a a' hq ha=>(SR.addrMod k ha.1 n)
theorem SR.IJ (hc:aF P) (t:TypeId) (hx:VR S p x x') (hy:VR S p y y') (h:eD x y=false):SR P F S K N (QV S) (Go.binOp .and t x y) (Go.binOp .and t x' y') p:=by
 cases hx<;>cases hy<;>first|exact SR.stuck|exact SR.unsupported|(cases h;done)|skip
 .rename_i k n r r' o sp g;exact SR.bind (SR.behindNumber (a:=⟨r,o,sp⟩) (a':=⟨r',o,sp⟩) ⟨g,rfl,rfl⟩) fun q a a' hq ha=>SR.addrMod k ha.1 (n+1)
 .rename_i r r' o sp g k n;exact SR.bind (SR.behindNumber (a:=⟨r,o,sp⟩) (a':=⟨r',o,sp⟩) ⟨g,rfl,rfl⟩) fun q a a' hq ha=>SR.addrMod k ha.1 (n+1)
theorem SR.Mx (hc:aF P) (t:TypeId) (hx:VR S p x x') (hy:VR S p y y') (h:eD x y=false):SR P F S K N (QV S) (Go.binOp .or t x y) (Go.binOp .or t x' y') p:=by
 cases hx<;>cases hy<;>first|exact SR.stuck|exact SR.unsupported|(cases h;done)|skip
theorem SR.IK (hc:aF P) (t:TypeId) (hx:VR S p x x') (hy:VR S p y y') (h:eD x y=false):SR P F S K N (QV S) (Go.binOp .xor t x y) (Go.binOp .xor t x' y') p:=by
 cases hx<;>cases hy<;>first|exact SR.stuck|exact SR.unsupported|(cases h;done)|skip
theorem SR.zn (hc:aF P) (t:TypeId) (hx:VR S p x x') (hy:VR S p y y') (h:eD x y=false):SR P F S K N (QV S) (Go.binOp .andNot t x y) (Go.binOp .andNot t x' y') p:=by
 cases hx<;>cases hy<;>first|exact SR.stuck|exact SR.unsupported|(cases h;done)|skip
theorem SR.IL (hc:aF P) (t:TypeId) (hx:VR S p x x') (hy:VR S p y y') (h:eD x y=false):SR P F S K N (QV S) (Go.binOp .shl t x y) (Go.binOp .shl t x' y') p:=by
 cases hx<;>cases hy<;>first|exact SR.stuck|exact SR.unsupported|(cases h;done)|skip
theorem SR.IM (hc:aF P) (t:TypeId) (hx:VR S p x x') (hy:VR S p y y') (h:eD x y=false):SR P F S K N (QV S) (Go.binOp .shr t x y) (Go.binOp .shr t x' y') p:=by
 cases hx<;>cases hy<;>first|exact SR.stuck|exact SR.unsupported|(cases h;done)|skip
theorem SR.IN (hc:aF P) (t:TypeId) (hx:VR S p x x') (hy:VR S p y y') (h:eD x y=false):SR P F S K N (QV S) (Go.binOp .lss t x y) (Go.binOp .lss t x' y') p:=by
 cases hx<;>cases hy<;>first|exact SR.stuck|exact SR.unsupported|(cases h;done)|skip
 .rename_i r r' o sp g r2 EE o2 mJ g2
  exact SR.bind (SR.behindNumber (a:=⟨r,o,sp⟩) (a':=⟨r',o,sp⟩) ⟨g,rfl,rfl⟩) fun q a a' hq ha=>
   SR.bind (SR.behindNumber (a:=⟨r2,o2,mJ⟩) (a':=⟨EE,o2,mJ⟩) ⟨hq _ _ g2,rfl,rfl⟩) fun q2 b b' bR hb=>SR.addrCmp .lss (ha.1.mono bR) hb.1
theorem SR.IP (hc:aF P) (t:TypeId) (hx:VR S p x x') (hy:VR S p y y') (h:eD x y=false):SR P F S K N (QV S) (Go.binOp .leq t x y) (Go.binOp .leq t x' y') p:=by
 cases hx<;>cases hy<;>first|exact SR.stuck|exact SR.unsupported|(cases h;done)|skip
 .rename_i r r' o sp g r2 EE o2 mJ g2
  exact SR.bind (SR.behindNumber (a:=⟨r,o,sp⟩) (a':=⟨r',o,sp⟩) ⟨g,rfl,rfl⟩) fun q a a' hq ha=>
   SR.bind (SR.behindNumber (a:=⟨r2,o2,mJ⟩) (a':=⟨EE,o2,mJ⟩) ⟨hq _ _ g2,rfl,rfl⟩) fun q2 b b' bR hb=>SR.addrCmp .leq (ha.1.mono bR) hb.1
theorem SR.IQ (hc:aF P) (t:TypeId) (hx:VR S p x x') (hy:VR S p y y') (h:eD x y=false):SR P F S K N (QV S) (Go.binOp .gtr t x y) (Go.binOp .gtr t x' y') p:=by
 cases hx<;>cases hy<;>first|exact SR.stuck|exact SR.unsupported|(cases h;done)|skip
 .rename_i r r' o sp g r2 EE o2 mJ g2
  exact SR.bind (SR.behindNumber (a:=⟨r,o,sp⟩) (a':=⟨r',o,sp⟩) ⟨g,rfl,rfl⟩) fun q a a' hq ha=>
   SR.bind (SR.behindNumber (a:=⟨r2,o2,mJ⟩) (a':=⟨EE,o2,mJ⟩) ⟨hq _ _ g2,rfl,rfl⟩) fun q2 b b' bR hb=>SR.addrCmp .gtr (ha.1.mono bR) hb.1
theorem SR.IS (hc:aF P) (t:TypeId) (hx:VR S p x x') (hy:VR S p y y') (h:eD x y=false):SR P F S K N (QV S) (Go.binOp .geq t x y) (Go.binOp .geq t x' y') p:=by
 cases hx<;>cases hy<;>first|exact SR.stuck|exact SR.unsupported|(cases h;done)|skip
 .rename_i r r' o sp g r2 EE o2 mJ g2
  exact SR.bind (SR.behindNumber (a:=⟨r,o,sp⟩) (a':=⟨r',o,sp⟩) ⟨g,rfl,rfl⟩) fun q a a' hq ha=>
   SR.bind (SR.behindNumber (a:=⟨r2,o2,mJ⟩) (a':=⟨EE,o2,mJ⟩) ⟨hq _ _ g2,rfl,rfl⟩) fun q2 b b' bR hb=>SR.addrCmp .geq (ha.1.mono bR) hb.1
theorem SR.IT (hc:aF P) (t:TypeId) (hu:P.underlying t≠some .unsafePointer) (hx:VR S p x x') (hy:VR S p y y') (h:eD x y=false):SR P F S K N (QV S) (Go.binOp .add t x y) (Go.binOp .add t x' y') p:=by
 have key:∀{a a' b b':Value},VR S p a a'->VR S p b b'->SR P F S K N (QV S) (Go.underlying t>>=fun u=>if(match u with|.unsafePointer=>true|_=>false)=true then Go.movedPointer t a b else Go.movedNumber t a b) (Go.underlying t>>=fun u=>if(match u with|.unsafePointer=>true|_=>false)=true then Go.movedPointer t a' b' else Go.movedNumber t a' b') p:=by
  intro a a' b b' ha hb;refine SR.cq fun d hd=>?_;have bA:d≠ .unsafePointer:=fun e=>hu (e▸hd);cases d<;>first|exact absurd rfl bA|exact SR.movedNumber t ha hb
 have qa:=hx;have Zg:=hy;cases hx<;>cases hy<;>first|exact SR.stuck|exact SR.unsupported|(cases h;done)|exact key qa Zg|exact SR.movedNumber t Zg qa
theorem SR.IU (hc:aF P) (t:TypeId) (hx:VR S p x x') (hy:VR S p y y') (h:eD x y=false):SR P F S K N (QV S) (Go.binOp .sub t x y) (Go.binOp .sub t x' y') p:=by
 have qa:=hx;cases hx<;>cases hy<;>first|exact SR.stuck|exact SR.unsupported|(cases h;done)|skip
 .rename_i k n;exact SR.movedNumber t qa (.int k (-n))
 .rename_i r r' o sp g k n;exact SR.movedNumber t qa (.int k (-n))
 .rename_i r r' o sp g r2 EE o2 mJ g2
  exact SR.bind (SR.behindNumber (a:=⟨r,o,sp⟩) (a':=⟨r',o,sp⟩) ⟨g,rfl,rfl⟩) fun q a a' hq ha=>
   SR.bind (SR.behindNumber (a:=⟨r2,o2,mJ⟩) (a':=⟨EE,o2,mJ⟩) ⟨hq _ _ g2,rfl,rfl⟩) fun q2 b b' bR hb=>SR.addrSub .u64 (ha.1.mono bR) hb.1
theorem ar.PX {k:Program->Sem α} (h:ar P (k P)):ar P (Sem.program k):=fun w es=>h w es
theorem ar.stuck (x:String):ar P (Go.stuck x:Sem α):=fun w es=>⟨_,w,es,rfl,trivial⟩
theorem jr (ht:cg P n t=true) (h:x=.tuple #[]\/y=.tuple #[]):ar P (Op.equal t x y):=by
 obtain⟨d,hd⟩:∃d,Op.maxDepth=d+1:=⟨_,rfl⟩
 unfold Op.equal;rw[hd];simp only[Op.equalIn];unfold Go.underlying;refine ar.PX (k:=fun P=>Sem.bind (match P.underlying t with|some i=>Pure.pure i|none=>Go.stuck "no such type") _) ?_;cases n with
 |zero=>simp[cg]at ht
 |succ n=>
 cases hu:P.underlying t with
 |none=>exact ar.bind (ar.stuck _) _
 |some u=>
  simp only[cg,hu]at ht;cases u<;>first|(cases ht;done)|skip
  all_goals rcases h with rfl|rfl
  all_goals first
   |exact fun w es=>⟨_,w,es,rfl,trivial⟩
   |(cases y<;>exact fun w es=>⟨_,w,es,rfl,trivial⟩)
   |(cases x<;>first|exact fun w es=>⟨_,w,es,rfl,trivial⟩|(rename_i a;cases a<;>exact fun w es=>⟨_,w,es,rfl,trivial⟩)|(rename_i a l c;cases a<;>cases l<;>cases c<;>exact fun w es=>⟨_,w,es,rfl,trivial⟩))
theorem gT (f:Bool->Sem β):us (Op.equal t x y>>=f)=true:=by
 obtain⟨d,hd⟩:∃d,Op.maxDepth=d+1:=⟨_,rfl⟩
 unfold Op.equal;rw[hd];rfl
theorem qb (t:TypeId) (h:eD x y=false) (hj:x=.tuple #[]\/y=.tuple #[]):Go.binOp .eql t x y=(Op.equal t x y>>=fun b=>Pure.pure (.bool b)):=by
 rcases hj with rfl|rfl
 .cases y<;>rfl
 .cases x<;>rfl
theorem qc (t:TypeId) (h:eD x y=false) (hj:x=.tuple #[]\/y=.tuple #[]):Go.binOp .neq t x y=(Op.equal t x y>>=fun b=>Pure.pure (.bool !b)):=by
 rcases hj with rfl|rfl
 .cases y<;>rfl
 .cases x<;>rfl
theorem SR.qb (hc:aF P) (t:TypeId) (ht:cg P n t=true) (hx:VR S p x x') (hy:VR S p y y') (h:eD x y=false):SR P F S K N (QV S) (Go.binOp .eql t x y) (Go.binOp .eql t x' y') p:=by
 by_cases hj:p.l=false/\(x=.tuple #[]\/y=.tuple #[])
 .rw[au.qb t h hj.2];exact SR.iJ (.inr ⟨hj.1,ar.bind (jr ht hj.2) _⟩) (gT _)
 have key:SR P F S K N (QV S) (Op.equal t x y>>=fun b=>Pure.pure (.bool b)) (Op.equal t x' y'>>=fun b=>Pure.pure (.bool b)) p:=(SR.equal hc ht hx hy).av fun q b hq=>SR.pure (.bool b);cases hx<;>cases hy<;>first|exact key|(cases h;done)|exact absurd ⟨by assumption,.inl rfl⟩ hj|exact absurd ⟨by assumption,.inr rfl⟩ hj
theorem SR.qc (hc:aF P) (t:TypeId) (ht:cg P n t=true) (hx:VR S p x x') (hy:VR S p y y') (h:eD x y=false):SR P F S K N (QV S) (Go.binOp .neq t x y) (Go.binOp .neq t x' y') p:=by
 by_cases hj:p.l=false/\(x=.tuple #[]\/y=.tuple #[])
 .rw[au.qc t h hj.2];exact SR.iJ (.inr ⟨hj.1,ar.bind (jr ht hj.2) _⟩) (gT _)
 have key:SR P F S K N (QV S) (Op.equal t x y>>=fun b=>Pure.pure (.bool !b)) (Op.equal t x' y'>>=fun b=>Pure.pure (.bool !b)) p:=(SR.equal hc ht hx hy).av fun q b hq=>SR.pure (.bool !b);cases hx<;>cases hy<;>first|exact key|(cases h;done)|exact absurd ⟨by assumption,.inl rfl⟩ hj|exact absurd ⟨by assumption,.inr rfl⟩ hj
theorem SR.binOp (hc:aF P) (op:BinOp) (t:TypeId) (ho:lz P op t=true) (hx:VR S p x x') (hy:VR S p y y'):SR P F S K N (QV S) (Go.binOp op t x y) (Go.binOp op t x' y') p:=by
 cases hp:eD x y with
 |true=>
  cases hx<;>first|(cases hp;done)|(cases hy<;>first|(cases hp;done)|exact SR.Mt op t _ _ _ _|exact SR.Mw op t _ _)
 |false=>
  cases op;case add=>exact SR.IT hc t (fun e=>by simp[lz,e]at ho) hx hy hp
  case sub=>exact SR.IU hc t hx hy hp
  case mul=>exact SR.IF hc t hx hy hp
  case quo=>exact SR.IG hc t hx hy hp
  case rem=>exact SR.II hc t hx hy hp
  case and=>exact SR.IJ hc t hx hy hp
  case or=>exact SR.Mx hc t hx hy hp
  case xor=>exact SR.IK hc t hx hy hp
  case andNot=>exact SR.zn hc t hx hy hp
  case shl=>exact SR.IL hc t hx hy hp
  case shr=>exact SR.IM hc t hx hy hp
  case lss=>exact SR.IN hc t hx hy hp
  case leq=>exact SR.IP hc t hx hy hp
  case gtr=>exact SR.IQ hc t hx hy hp
  case geq=>exact SR.IS hc t hx hy hp
  case eql=>exact SR.qb hc t (by simp only[lz,Bool.and_eq_true]at ho;exact ho.1) hx hy hp
  case neq=>exact SR.qc hc t (by simp only[lz,Bool.and_eq_true]at ho;exact ho.1) hx hy hp
end
section
variable {P:Program} {F:Array Func} {S:Nat->Bool} {K:Kz} {N:Nat} {p:Pi}
theorem SR.zo (t:TypeId) (ht:cg P n t=true):∀d,SR P F S K N (QE Bool) (Op.eqGuardIn d t .nilIface .nilIface) (Op.eqGuardIn d t .nilIface .nilIface) p
 |0=>SR.unsupported
 |d+1=>by
  simp only[Op.eqGuardIn];refine SR.cq fun u hu=>?_;cases n with
  |zero=>simp[cg]at ht
  |succ n=>
   simp only[cg,hu]at ht;cases u<;>first|exact SR.pure rfl|(cases ht;done)
def fH (t:TypeId) (x y:Operand) (a b:Value):Sem Unit:=
 match a,b with
 |.nilIface,.nilIface=>
  if((x matches .const _)||(y matches .const _))=true then Pure.pure ()
  else Op.eqGuardIn Op.maxDepth t .nilIface .nilIface>>=fun g=>if g=true then Go.unsupported (.noEntry "binop/eql: two nil values of an interface type with methods, neither of them the literal nil")else Pure.pure ()
 |.agg xs,.agg ys=>Go.program>>=fun q=>Go.program>>=fun r=>
  if(!q.eqGuardType r.depth t)=true then Pure.pure ()
  else Op.eqGuardIn Op.maxDepth t (.agg xs) (.agg ys)>>=fun g=>if g=true then Go.unsupported (.noEntry "binop/eql: two nil values of an interface type with methods, in a part of a struct or an array")else Pure.pure ()
 |_,_=>Pure.pure ()
theorem nQ (t:TypeId) (x y:Operand) (a b:Value):Go.eqGuard .eql t x y a b=fH t x y a b:=by
 cases a<;>cases b<;>rfl
theorem nR (t:TypeId) (x y:Operand) (a b:Value):Go.eqGuard .neq t x y a b=fH t x y a b:=by
 cases a<;>cases b<;>rfl
theorem SR.fH (t:TypeId) (ht:cg P 10 t=true) (hg:P.eqGuardType P.depth t=false) (x y:Operand) {a a':Value} (ha:VR S p a a') (hb:VR S p b b') (hja:p.l=false->a≠ .tuple #[]) (uy:p.l=false->b≠ .tuple #[]):SR P F S K N (QE Unit) (fH t x y a b) (fH t x y a' b') p:=by
 cases ha<;>first|exact SR.pure rfl|exact absurd rfl (hja (by assumption))|(cases hb<;>first|exact SR.pure rfl|exact absurd rfl (uy (by assumption))|skip)
 .refine SR.ite (fun _=>SR.pure rfl) fun _=>?_;exact(SR.zo t ht Op.maxDepth).av fun q g hq=>SR.ite (fun _=>SR.unsupported) fun _=>SR.pure rfl
 .refine SR.mF (SR.mF ?_);have zm:(ag P F).eqGuardType (ag P F).depth t=false:=by rw[iV,kd,hg]
  rw[hg,zm];exact SR.pure rfl
theorem SR.eqGuard (op:BinOp) (t:TypeId) (ho:lz P op t=true) (x y:Operand) {a a':Value} (ha:VR S p a a') (hb:VR S p b b') (hj:p.l=false->¬((op=.eql\/op=.neq)/\(a=.tuple #[]\/b=.tuple #[]))):SR P F S K N (QE Unit) (Go.eqGuard op t x y a b) (Go.eqGuard op t x y a' b') p:=by
 cases op
 case eql=>
  simp only[lz,Bool.and_eq_true,Bool.not_eq_true']at ho;rw[nQ,nQ];exact SR.fH t ho.1 ho.2 x y ha hb (fun x e=>hj x ⟨.inl rfl,.inl e⟩) fun x e=>hj x ⟨.inl rfl,.inr e⟩
 case neq=>
  simp only[lz,Bool.and_eq_true,Bool.not_eq_true']at ho;rw[nR,nR];exact SR.fH t ho.1 ho.2 x y ha hb (fun x e=>hj x ⟨.inr rfl,.inl e⟩) fun x e=>hj x ⟨.inr rfl,.inr e⟩
 all_goals exact SR.pure rfl
inductive EL (S:Nat->Bool) (p:Pi):List MapEntry->List MapEntry->Prop
 |nil:EL S p [] []
 |cons {e e':MapEntry} {l l':List MapEntry} (h:ER S p e e') (t:EL S p l l'):EL S p (e::l) (e'::l')
theorem EL.mono {q:Pi} (h:Le p q) {l l':List MapEntry} (x:EL S p l l'):EL S q l l':=by
 induction x with
 |nil=>exact .nil
 |cons g _ ih=>exact .cons (g.mono h) ih
theorem EL.of:∀{l l':List MapEntry},l.length=l'.length->(∀(i:Nat) e e',l[i]?=some e->l'[i]?=some e'->ER S p e e')->EL S p l l'
 | [],[],_,_=>.nil
 | [],_::_,h,_=>by cases h
 |_::_,[],h,_=>by cases h
 |e::l,e'::l',h,g=>.cons (g 0 e e' rfl rfl) (EL.of (by simpa using h) fun i a b h1 h2=>g (i+1) a b h1 h2)
theorem nS {S:Nat->Bool} (hJ:S JK=false) (h:S JK=true):False:=by rw[hJ]at h;cases h
theorem oV (d:TypeDesc) {a a':Value} (ha:VR S p a a') (hb:VR S p b b'):Instr.sameNow d a b=Instr.sameNow d a' b':=by
 cases ha with
 |nO _ hj hv=>cases d<;>cases a'<;>first|(cases hv;done)|rfl
 |_=>
  cases hb with
  |nO _ hj hv=>cases d<;>cases b'<;>first|(cases hv;done)|rfl
  |_=>cases d<;>rfl
def gE:Value->Bool
 |.bool _|.int _ _|.string _|.pointer _=>true
 |_=>false
def wC (P:Program) (t:TypeId):Bool:=match P.underlying t with
 |some .bool|some (.int _)|some .string=>true
 |_=>false
theorem uz {d:TypeDesc} {a:Value} {c:Bool} (h:Instr.sameNow d a b=some c):gE a=true/\gE b=true:=by
 cases d<;>cases a<;>first|(cases h;done)|(cases b<;>first|(cases h;done)|exact⟨rfl,rfl⟩)
theorem pH (ht:wC P t=true) (h:¬(gE x=true/\gE y=true)):ar P (Op.equal t x y):=by
 obtain⟨d,hd⟩:∃d,Op.maxDepth=d+1:=⟨_,rfl⟩
 unfold Op.equal;rw[hd];simp only[Op.equalIn];unfold Go.underlying;refine ar.PX (k:=fun P=>Sem.bind (match P.underlying t with|some i=>Pure.pure i|none=>Go.stuck "no such type") _) ?_;cases hu:P.underlying t with
 |none=>exact ar.bind (ar.stuck _) _
 |some u=>
  simp only[wC,hu]at ht;cases u<;>first|(cases ht;done)|skip
  all_goals
   cases x<;>first
    |exact fun w es=>⟨_,w,es,rfl,trivial⟩
    |(cases y<;>first
       |exact absurd ⟨rfl,rfl⟩ h
       |exact fun w es=>⟨_,w,es,rfl,trivial⟩)
    |(rename_i o;cases o<;>cases y<;>first
       |exact absurd ⟨rfl,rfl⟩ h
       |exact fun w es=>⟨_,w,es,rfl,trivial⟩)
theorem wD (d:TypeDesc) (hk:VR S p k k'):∀{l l':List MapEntry},EL S p l l'->∀i,
 (Instr.findNow d k l i=none/\Instr.findNow d k' l' i=none)\/(Instr.findNow d k l i=some none/\Instr.findNow d k' l' i=some none)\/
   ∃j v v',Instr.findNow d k l i=some (some (i+j,v))/\Instr.findNow d k' l' i=some (some (i+j,v'))/\VR S p v v'/\∃e,l[j]?=some e/\gE k=true/\gE e.key=true:=by
 intro l l' h;induction h with
 |nil=>intro i;exact .inr (.inl ⟨rfl,rfl⟩)
 | @cons e e' l l' he _ ih=>
   intro i;simp only[Instr.findNow];rw[oV d hk he.1];cases hs:Instr.sameNow d k' e'.key with
   |none=>exact .inl ⟨rfl,rfl⟩
   |some b=>
    have hl:=uz ((oV d hk he.1).trans hs);cases b with
    |true=>exact .inr (.inr ⟨0,_,_,rfl,rfl,he.2.1,e,rfl,hl.1,hl.2⟩)
    |false=>
     rcases ih (i+1)with h|h|⟨j,v,v',h1,h2,h3,e2,h4,h5,h6⟩
     .exact .inl h
     .exact .inr (.inl h)
     .refine .inr (.inr ⟨j+1,v,v',?_,?_,h3,e2,by simpa using h4,h5,h6⟩)
      .rw[show i+(j+1)=i+1+j by omega];exact h1
      .rw[show i+(j+1)=i+1+j by omega];exact h2
def FR (S:Nat->Bool) (p:Pi) (G:Nat->Prop):Option (Nat×Value)->Option (Nat×Value)->Prop
 |none,none=>True
 |some x,some y=>x.1=y.1/\VR S p x.2 y.2/\G x.1
 |_,_=>False
theorem SR.findAsking (hc:aF P) (ht:cg P n t=true) (hJ:S JK=true->wC P t=true) (G:Nat->Prop):∀{l l':List MapEntry} {p:Pi} {k k':Value} (i:Nat),(p.l=true->S JK=false)->(∀j e,l[j]?=some e->(S JK=true->gE k=true/\gE e.key=true)->G (i+j))->VR S p k k'->EL S p l l'->
 SR P F S K N (fun q a b=>FR S q G a b) (Instr.findAsking t k l i) (Instr.findAsking t k' l' i) p
 | [],_,p,k,k',i,zp,hG,hk,h=>by cases h;exact SR.pure trivial
 |e::l,_,p,k,k',i,zp,hG,hk,h=>by
  cases h with
  | @cons _ e' _ l' he hl=>
  simp only[Instr.findAsking];by_cases hj:S JK=true->gE k=true/\gE e.key=true
  .refine(SR.equal hc ht hk he.1).av fun q b hq=>?_;refine SR.ite (fun _=>SR.pure ⟨rfl,he.2.1.mono hq,hG 0 e rfl hj⟩) fun _=>SR.findAsking hc ht hJ G (i+1) (fun x=>zp (hq.l.symm.trans x)) (fun j e2 h1 h2=>?_) (hk.mono hq) (hl.mono hq);have:=hG (j+1) e2 (by simpa using h1) h2;rwa [show i+(j+1)=i+1+j by omega]at this
  .have h1:S JK=true:=Classical.byContradiction fun h=>hj fun h2=>absurd h2 h;exact SR.iJ (.inr ⟨(by cases hl:p.l with|false=>rfl|true=>rw[zp hl]at h1;cases h1),ar.bind (pH (hJ h1) fun h2=>hj fun _=>h2) _⟩) (gT _)
theorem SR.findKey (zp:p.l=true->S JK=false) (hc:aF P) (ht:cg P n t=true) (hJ:S JK=true->wC P t=true) {l l':List MapEntry} (hk:VR S p k k') (h:EL S p l l'):
 SR P F S K N (fun q a b=>FR S q (fun j=>S JK=true->gE k=true/\∀e,l[j]?=some e->gE e.key=true) a b) (Instr.findKey t k l) (Instr.findKey t k' l') p:=by
 unfold Instr.findKey;refine SR.cq fun u hu=>?_;rcases wD u hk h 0 with⟨e1,e2⟩|⟨e1,e2⟩|⟨j,v,v',e1,e2,hv,e,he,h5,h6⟩
 .rw[e1,e2];refine SR.findAsking hc ht hJ _ 0 zp (fun j e he hg hj=>?_) hk h;refine⟨(hg hj).1,fun e2 wE=>?_⟩;rw[Nat.zero_add,he]at wE;cases wE;exact(hg hj).2
 .rw[e1,e2];exact SR.pure trivial
 .rw[e1,e2];refine SR.pure ⟨rfl,hv,fun _=>⟨h5,fun e2 wE=>?_⟩⟩;rw[show(0+j,v).1=j by simp,he]at wE;cases wE;exact h6
theorem SR.checkKey (b:Bool):∀(d n:Nat) (t:TypeId) {p:Pi} {k k':Value},cg P n t=true->VR S p k k'->SR P F S K N (QE Unit) (Instr.checkKey b d t k) (Instr.checkKey b d t k') p
 |0,_,_,_,_,_,_,_=>SR.unsupported
 |d+1,0,_,_,_,_,h,_=>by simp[cg]at h
 |d+1,n+1,t,p,k,k',ht,hk=>by
  simp only[Instr.checkKey];refine SR.cq fun u hu=>?_;simp only[cg,hu]at ht;cases u with
  |array len e=>
   cases hk<;>first|exact SR.stuck|skip
   rename_i xs cB Bj Ms;have ax:AR S p xs cB:=⟨Bj,Ms⟩
   simp only;refine SR.av (α:=PUnit) ?_ fun q r hq=>SR.pure rfl;simp only[Std.Legacy.Range.forIn_eq_forIn_range'];refine SR.qz (p:=p) _ _ _ (fun i hi b q2 bR=>?_) _ p (Le.refl _);refine(SR.sizeOf e).av fun q3 m fQ=>?_;refine(SR.part e ((ax.mono bR).mono fQ) _).bind fun q4 v v' EG hv=>?_;exact(SR.checkKey _ d n e ht hv).av fun q5 _ O3=>SR.pure rfl
  |struct fs=>
   simp only[Bool.and_eq_true]at ht
   have bI:∀f∈fs.toList,cg P n f.type=true:=fun f hf=>by
    obtain⟨i,hi,he⟩:=List.getElem_of_mem hf;have:=Array.all_eq_true.1 ht.2 i (by simpa using hi);rw[<-he];simpa using this
   cases hk<;>first|exact SR.stuck|skip
   rename_i xs cB Bj Ms;have ax:AR S p xs cB:=⟨Bj,Ms⟩
   simp only;refine SR.av (α:=PUnit) ?_ fun q r hq=>SR.pure rfl;rw[<-Array.forIn_toList,<-Array.forIn_toList];refine SR.qz (p:=p) _ _ _ (fun f hf b q2 bR=>?_) _ p (Le.refl _);refine SR.ite (fun _=>?_) fun _=>SR.pure rfl;refine(SR.part f.type (ax.mono bR) _).bind fun q4 v v' EG hv=>?_;exact(SR.checkKey _ d n f.type (bI f hf) hv).av fun q5 _ O3=>SR.pure rfl
  |bool=>cases hk<;>exact SR.pure rfl
  |int k=>cases hk<;>exact SR.pure rfl
  |string=>cases hk<;>exact SR.pure rfl
  |slice e=>cases hk<;>exact SR.pure rfl
  |_=>cases ht
end
section
variable {P:Program} {F:Array Func} {S:Nat->Bool} {K:Kz} {N:Nat} {p:Pi}
theorem OR.mapList {es cH:Array MapEntry} (h:es.size=cH.size) (g:∀(i:Nat) (e e':MapEntry),es[i]?=some e->cH[i]?=some e'->ER S p e e'):EL S p es.toList cH.toList:=
 EL.of (by simpa using h) fun i e e' h1 h2=>g i e e' (by simpa using h1) (by simpa using h2)
def tp (P:Program) (t:TypeId):Bool:=match P.underlying t with|some (.map k _)=>cg P 10 k|_=>true
def ip (P:Program) (t:TypeId):Bool:=match P.underlying t with|some (.map k _)=>wC P k|_=>true
theorem SR.lookup (zp:p.l=true->S JK=false) (hz:aV P) (hc:aF P) (t:TypeId) (hJ:S JK=true->ip P t=true) (ht:tp P t=true) (ok:Bool) (hx:VR S p x x') (hi:VR S p i i'):SR P F S K N (QV S) (Instr.lookup t x i ok) (Instr.lookup t x' i' ok) p:=by
 unfold Instr.lookup;refine SR.cq fun u hu=>?_;cases u with
 |map k e=>
  simp only[tp,hu]at ht;simp only[ip,hu]at hJ;simp only
  have rest:∀(q:Pi) (es cH:Array MapEntry),Le p q->es.size=cH.size->EL S q es.toList cH.toList->SR P F S K N (QV S)
   (Instr.checkKey es.isEmpty 10000 k i>>=fun _=>Instr.findKey k i es.toList>>=fun r=>match r with|some (_,v)=>(Pure.pure (v,true)>>=fun(x:Value×Bool)=>Pure.pure (if ok=true then Value.tuple #[x.1,.bool x.2]else x.1))|none=>Go.zeroValue e>>=fun z=>(Pure.pure (z,false)>>=fun(x:Value×Bool)=>Pure.pure (if ok=true then Value.tuple #[x.1,.bool x.2]else x.1)))
   (Instr.checkKey cH.isEmpty 10000 k i'>>=fun _=>Instr.findKey k i' cH.toList>>=fun r=>match r with|some (_,v)=>(Pure.pure (v,true)>>=fun(x:Value×Bool)=>Pure.pure (if ok=true then Value.tuple #[x.1,.bool x.2]else x.1))|none=>Go.zeroValue e>>=fun z=>(Pure.pure (z,false)>>=fun(x:Value×Bool)=>Pure.pure (if ok=true then Value.tuple #[x.1,.bool x.2]else x.1))) q:=by
   intro q es cH hq hs hl;have PY:es.isEmpty=cH.isEmpty:=by simp[Array.isEmpty,hs]
   have fin:∀(q:Pi) (a b:Value) (c:Bool),VR S q a b->SR P F S K N (QV S) (Pure.pure (if ok=true then Value.tuple #[a,.bool c]else a)) (Pure.pure (if ok=true then Value.tuple #[b,.bool c]else b)) q:=by
    intro q a b c h;cases ok with
    |true=>exact SR.pure (AR.tuple ((AR.one h).push (.bool _)))
    |false=>exact SR.pure h
   rw[PY];refine(SR.checkKey _ 10000 10 k ht (hi.mono hq)).av fun q1 _ pJ=>?_;refine(SR.findKey (fun x=>zp ((hq.trans pJ).l.symm.trans x)) hc ht hJ ((hi.mono hq).mono pJ) (hl.mono pJ)).bind fun q2 r r' bR hr=>?_;cases r<;>cases r'<;>first|exact hr.elim|skip
   .exact(SR.zeroValue hz e).bind fun q4 z z' EG yY=>fin q4 _ _ _ (yY.1▸yY.2)
   .exact fin q2 _ _ _ hr.2.1
  cases hx<;>first|exact SR.stuck|skip
  .exact rest p #[] #[] (Le.refl _) rfl .nil
  .rename_i r r' h;refine(SR.getObj h).bind fun q o o' hq ho=>?_;cases ho with
   |map c h g=>exact rest q _ _ hq h (OR.mapList h g)
   |_=>exact SR.stuck
 |_=>exact SR.stuck
def Bi (l:Bool) (x y:Bool):Prop:=(x=true->y=true)/\(l=false->y=true->x=true)
theorem Bi.refl {l x:Bool}:Bi l x x:=⟨id,fun _=>id⟩
theorem Bi.and {l x y x' y':Bool} (h:Bi l x y) (k:Bi l x' y'):Bi l (x&&x') (y&&y'):=by
 simp only[Bi,Bool.and_eq_true];exact⟨fun a=>⟨h.1 a.1,k.1 a.2⟩,fun e a=>⟨h.2 e a.1,k.2 e a.2⟩⟩
theorem js (hJ:S JK=false) (hp:nP P p):∀(n:Nat) {a a' b b':Value},VR S p a a'->VR S p b b'->Bi p.l (Instr.sameBits n a b) (Instr.sameBits n a' b')
 |n,a,a',b,b',ha,hb=>by
  have CJ:∀{r r' s s':Nat} (o o2:Nat) (sp mJ:Option Nat),p r r'->p s s'->Bi p.l ((some (⟨r,o,sp⟩:Addr))==(some (⟨s,o2,mJ⟩:Addr))) ((some (⟨r',o,sp⟩:Addr))==(some (⟨s',o2,mJ⟩:Addr))):=by
   intro r r' s s' o o2 sp mJ h1 h2;refine⟨fun he=>?_,fun hl=>?_⟩
   .have he:=eq_of_beq he;simp only[Option.some.injEq,Addr.mk.injEq]at he;obtain⟨rfl,rfl,rfl⟩:=he;rw[hp.one _ _ _ h1 h2];exact beq_self_eq_true _
   .have:=hp.two hl _ _ _ _ h1 h2;simp[this]
  cases n with
  |zero=>
   cases ha<;>first|exact Bi.refl|exact(nS hJ ‹_›).elim|(cases hb<;>first|exact Bi.refl|exact CJ _ _ _ _ ‹_› ‹_›|exact(nS hJ ‹_›).elim)
  |succ n=>
   cases ha with
   |iface h=>cases hb<;>first|exact Bi.refl|exact(nS hJ ‹_›).elim|(simp only[Instr.sameBits];exact Bi.and Bi.refl (js hJ hp n h ‹_›))
   |agg h g=>
    cases hb with
    |agg h2 g2=>
     rename_i xs cB ys Ia;simp only[Instr.sameBits];rw[h,h2];refine Bi.and Bi.refl ?_
     have hl:∀(l l' m m':List Value),l.length=l'.length->m.length=m'.length->(∀(i:Nat) v v',l[i]?=some v->l'[i]?=some v'->VR S p v v')->(∀(i:Nat) v v',m[i]?=some v->m'[i]?=some v'->VR S p v v')->
      Bi p.l ((l.zip m).all fun(x,y)=>Instr.sameBits n x y) ((l'.zip m').all fun(x,y)=>Instr.sameBits n x y):=by
      intro l;induction l with
      |nil=>intro l' m m' h1 h2 _ _;cases l' with
       |nil=>exact Bi.refl
       |cons=>cases h1
      |cons x l ih=>
       intro l' m m' h1 h2 g1 g2;cases l' with
       |nil=>cases h1
       |cons x' l'=>
        cases m with
        |nil=>cases m' with
         |nil=>exact Bi.refl
         |cons=>cases h2
        |cons y m=>cases m' with
         |nil=>cases h2
         |cons y' m'=>
          simp only[List.zip_cons_cons,List.all_cons];exact Bi.and (js hJ hp n (g1 0 x x' rfl rfl) (g2 0 y y' rfl rfl)) (ih l' m m' (by simpa using h1) (by simpa using h2) (fun i v v' a b=>g1 (i+1) v v' a b) (fun i v v' a b=>g2 (i+1) v v' a b))
     exact hl _ _ _ _ (by simpa using h) (by simpa using h2) (fun i v v' a b=>g i v v' (by simpa using a) (by simpa using b)) (fun i v v' a b=>g2 i v v' (by simpa using a) (by simpa using b))
    |nO _ hj _=>exact(nS hJ hj).elim
    |_=>exact Bi.refl
   |nO _ hj _=>exact(nS hJ hj).elim
   |_=>cases hb<;>first|exact Bi.refl|exact CJ _ _ _ _ ‹_› ‹_›|exact(nS hJ ‹_›).elim
theorem sD (hl:p.l=false) (hp:nP P p):∀(n:Nat) {a a' b b':Value},gE a=true->gE b=true->VR S p a a'->VR S p b b'->Instr.sameBits n a b=Instr.sameBits n a' b':=fun n a a' b b' la lb ha hb=>by
 have CJ:∀{r r' s s':Nat} (o o2:Nat) (sp mJ:Option Nat),p r r'->p s s'->((some (⟨r,o,sp⟩:Addr))==(some (⟨s,o2,mJ⟩:Addr)))=((some (⟨r',o,sp⟩:Addr))==(some (⟨s',o2,mJ⟩:Addr))):=by
  intro r r' s s' o o2 sp mJ h1 h2;have:=hp.two hl _ _ _ _ h1 h2;rw[Bool.eq_iff_iff];simp[this]
 cases ha<;>first|(cases la;done)|skip
 all_goals cases hb<;>first|(cases lb;done)|skip
 all_goals cases n<;>first|rfl|exact CJ _ _ _ _ ‹_› ‹_›
theorem SR.keyThatStays (zp:p.l=true->S JK=false) {a a':Value} (hJ:S JK=true->gE a=true/\gE b=true) (ha:VR S p a a') (hb:VR S p b b'):SR P F S K N (QV S) (Instr.keyThatStays a b) (Instr.keyThatStays a' b') p:=by
 intro hp;unfold Instr.keyThatStays
 have e:Bi p.l (Instr.sameBits 10000 a b) (Instr.sameBits 10000 a' b'):=by
  cases hs:S JK with
  |false=>exact js hs hp 10000 ha hb
  |true=>
   rw[sD (by cases hl:p.l with|false=>rfl|true=>rw[zp hl]at hs;cases hs) hp 10000 (hJ hs).1 (hJ hs).2 ha hb];exact Bi.refl
 cases hx:Instr.sameBits 10000 a b with
 |true=>rw[e.1 hx];exact hb
 |false=>
  cases hl:p.l with
  |true=>exact .inl hl
  |false=>
   have hy:Instr.sameBits 10000 a' b'=false:=by
    cases hy:Instr.sameBits 10000 a' b' with
    |false=>rfl
    |true=>rw[e.2 hl hy]at hx;cases hx
   rw[hy];refine(SR.choose (P:=P) (F:=F) (S:=S) (K:=K) (N:=N) _).av (fun q n hq=>?_) hp;split
   .exact SR.pure (hb.mono hq)
   .exact SR.pure (ha.mono hq)
theorem SR.mapUpdate (zp:p.l=true->S JK=false) (hc:aF P) (t:TypeId) (hJ:S JK=true->ip P t=true) (ht:tp P t=true) {m m':Value} (hm:VR S p m m') (hk:VR S p k k') (hv:VR S p v v'):SR P F S K N (QE Unit) (Instr.mapUpdate t m k v) (Instr.mapUpdate t m' k' v') p:=by
 unfold Instr.mapUpdate;refine SR.cq fun u hu=>?_;cases u with
 |map kt e=>
  simp only[tp,hu]at ht;simp only[ip,hu]at hJ;simp only;cases hm<;>first|exact SR.stuck|exact SR.ED _|skip
  rename_i r r' h;simp only;refine(SR.getObj h).bind fun q o o' hq ho=>?_;cases ho with
  | @map es cH c hs g=>
    simp only;refine(SR.checkKey _ 10000 10 kt ht (hk.mono hq)).av fun q1 _ pJ=>?_;have hl:EL S q1 es.toList cH.toList:=(OR.mapList hs g).mono pJ;refine(SR.findKey (fun x=>zp ((hq.trans pJ).l.symm.trans x)) hc ht hJ ((hk.mono hq).mono pJ) hl).bind fun q2 x x' bR hx=>?_;have h:=bR _ _ (pJ _ _ (hq _ _ h));have hk:=((hk.mono hq).mono pJ).mono bR;have hv:=((hv.mono hq).mono pJ).mono bR;have g2:∀(i:Nat) (e e':MapEntry),es[i]?=some e->cH[i]?=some e'->ER S q2 e e':=fun i e e' a b=>((g i e e' a b).mono pJ).mono bR;cases x<;>cases x'<;>first|exact hx.elim|skip
    .refine SR.setObj h (.map (c+1) (by simp[hs]) fun i a b ha hb=>?_) fun _ _ _ _ _ _ _ a=>by cases a
     rw[Array.getElem?_push]at ha hb;rw[hs]at ha;split at ha
     .rename_i hi;simp only[hi,if_true,Option.some.injEq]at ha hb;subst ha;subst hb;exact⟨hk,hv,rfl⟩
     .rename_i hi;simp only[hi,if_false]at hb;exact g2 i a b ha hb
    .rename_i y y';obtain⟨j,u⟩:=y;obtain⟨j',u'⟩:=y';obtain⟨hj,Tx,Ty⟩:=hx;simp only at hj Tx Ty;subst hj;simp only;refine SR.bind (Q:=QV S) (SR.keyThatStays (fun x=>zp (((hq.trans pJ).trans bR).l.symm.trans x)) (fun h=>⟨?_,(Ty h).1⟩) ?_ hk) fun q3 b b' fQ hb=>?_
     .cases he:es[j]? with
      |none=>exact(Ty h).1
      |some e1=>exact(Ty h).2 e1 (by simpa using he)
     .cases he:es[j]? with
      |none=>
       have:cH[j]?=none:=by rw[Array.getElem?_eq_none_iff]at he⊢;omega
       rw[this];exact hk
      |some e1=>
       have az:j<cH.size:=by rw[<-hs];exact(Array.getElem?_eq_some_iff.1 he).1
       rw[Array.getElem?_eq_getElem az];exact(g2 j e1 _ he (Array.getElem?_eq_getElem az)).1
     .refine SR.setObj (fQ _ _ h) (.map c (by simp[hs]) fun i a b ha hb=>?_) fun _ _ _ _ _ _ _ a=>by cases a
      rw[Array.getElem?_modify]at ha hb;split at ha
      .rename_i hi;simp only[hi,if_true]at hb;cases hea:es[i]? with
       |none=>rw[hea]at ha;cases ha
       |some ea=>
        have az:i<cH.size:=by rw[<-hs];exact(Array.getElem?_eq_some_iff.1 hea).1
        rw[hea]at ha;rw[Array.getElem?_eq_getElem az]at hb;simp only[Option.map_some,Option.some.injEq]at ha hb;subst ha;subst hb;exact⟨by assumption,hv.mono fQ,(g2 i ea _ hea (Array.getElem?_eq_getElem az)).2.2⟩
      .rename_i hi;simp only[hi,if_false]at hb;exact(g2 i a b ha hb).mono fQ
  |_=>exact SR.stuck
 |_=>exact SR.stuck
theorem SR.makeMap (t:TypeId):SR P F S K N (QV S) (Instr.makeMap t none) (Instr.makeMap t none) p:=by
 refine SR.bind (Q:=fun q r r'=>q r r'/\N<=r/\∀k,¬q.x r k) (SR.newObj (.map 0 rfl fun i e e' h=>by simp at h) fun _ _ _ _ _ _ _ a=>by cases a) fun q r r' hq hr=>SR.pure (.map hr.1)
def wF (e:TypeId) (n m:Int) (bytes:Nat):Sem Value:=
 Go.askRoom ((IntKind.i64.wrap m).toNat*bytes)>>=fun _=>Go.sizeOf e>>=fun s=>
  if(IntKind.i64.wrap m).toNat*s=0 then(Go.newRow e ((Array.range ((IntKind.i64.wrap m).toNat*s)).map ((#[]:Array Value)[·%(#[]:Array Value).size]!))>>=fun a=>Pure.pure (Value.slice (some a) (IntKind.i64.wrap n).toNat (IntKind.i64.wrap m).toNat))
  else Go.zeroValue e>>=fun z=>(Go.newRow e ((Array.range ((IntKind.i64.wrap m).toNat*s)).map (z.cells[·%z.cells.size]!))>>=fun a=>Pure.pure (Value.slice (some a) (IntKind.i64.wrap n).toNat (IntKind.i64.wrap m).toNat))
theorem SR.makeSlice (hz:aV P) (t:TypeId) {l l' c c':Value} (hl:VR S p l l') (qA:VR S p c c'):SR P F S K N (QV S) (Instr.makeSlice t l c) (Instr.makeSlice t l' c') p:=by
 unfold Instr.makeSlice;refine SR.cq fun u hu=>?_;cases u with
 |slice e=>
  simp only;refine(SR.asInt hl).av fun q n hq=>?_;refine(SR.asInt (qA.mono hq)).av fun q2 m bR=>?_;refine SR.mG fun i hi=>?_
  have rest:∀(q:Pi),SR P F S K N (QV S)
   (wF e n m i.bytes)
   (wF e n m i.bytes) q:=by
   intro q;unfold wF;refine(SR.askRoom _).av fun q1 _ pJ=>(SR.sizeOf e).av fun q2 s bR=>?_;refine SR.ite (fun _=>?_) fun _=>?_
   .exact(SR.newRow e (pZ AR.empty _)).bind fun q4 a a' EG ha=>SR.pure (ha.1.sl (fun _=>ha.2.2) _ _)
   .refine(SR.zeroValue hz e).bind fun q3 z z' fQ yY=>?_;obtain⟨rfl,hv⟩:=yY;exact(SR.newRow e (pZ hv.cells _)).bind fun q4 a a' EG ha=>SR.pure (ha.1.sl (fun _=>ha.2.2) _ _)
  have U1:∀(msg:String) (q:Pi),SR P F S K N (QV S) (Go.runtimePanic (.error msg)>>=fun(_:PUnit)=>wF e n m i.bytes) (Go.runtimePanic (.error msg)>>=fun(_:PUnit)=>wF e n m i.bytes) q:=
   fun msg q=>SR.bind (Q:=QE PUnit) (SR.err msg) fun q _ _ _ _=>rest q
  refine SR.ite (fun _=>?_) fun _=>rest q2;refine SR.ite (fun _=>U1 _ q2) fun _=>SR.ite (fun _=>U1 _ q2) fun _=>?_;exact(SR.choose _).av fun q3 c fQ=>U1 _ q3
 |_=>exact SR.stuck
theorem SR.extract (h:VR S p v v') (i:Nat):SR P F S K N (QV S) (Instr.extract v i) (Instr.extract v' i) p:=by
 unfold Instr.extract;cases h<;>first|exact SR.stuck|skip
 rename_i xs cB hx gx;simp only;cases hi:xs[i]? with
 |none=>exact SR.stuck
 |some u=>obtain⟨u',UU,hr⟩:=AR.get (S:=S) (p:=p) ⟨hx,gx⟩ hi;rw[UU];exact SR.pure hr
theorem SR.indexAt (t:TypeId) (h:VR S p v v') (hi:VR S p i i'):SR P F S K N (QV S) (Instr.indexAt t v i) (Instr.indexAt t v' i') p:=by
 unfold Instr.indexAt;refine(SR.asIntOf hi).av fun q ki hq=>?_;obtain⟨k,n⟩:=ki;have h:=h.mono hq;refine SR.cq fun u hu=>?_;simp only
 have rest:∀(q:Pi) (b b':Option Addr) (len:Nat) (e:TypeId),((b=none/\b'=none)\/(∃a a',b=some a/\b'=some a'/\gD q a a')\/∃a a',b=some a/\b'=some a'/\len=0)->∀My:Bool,SR P F S K N (QV S)
  (match b with
    |some a=>if 0<=n/\n<(len:Int)then(Go.sizeOf e>>=fun s=>Pure.pure (Value.pointer (some (a.add (n.toNat*s)))))else if My=true then Go.unsupported (.noEntry "op/indexAddr.an index out of range at an array of length 0 or 1 (ledger 616)")else Go.boundsPanic k n (len:Int) .index
    |none=>Go.boundsPanic k n 0 .index)
  (match b' with
    |some a=>if 0<=n/\n<(len:Int)then(Go.sizeOf e>>=fun s=>Pure.pure (Value.pointer (some (a.add (n.toNat*s)))))else if My=true then Go.unsupported (.noEntry "op/indexAddr.an index out of range at an array of length 0 or 1 (ledger 616)")else Go.boundsPanic k n (len:Int) .index
    |none=>Go.boundsPanic k n 0 .index) q:=by
  intro q b b' len e hb My;rcases hb with⟨rfl,rfl⟩|⟨a,a',rfl,rfl,ha⟩|⟨a,a',rfl,rfl,rfl⟩
  .exact SR.boundsPanic _ _ _ _
  .refine SR.ite (fun _=>?_) fun _=>SR.ite (fun _=>SR.unsupported) fun _=>SR.boundsPanic _ _ _ _;exact(SR.sizeOf e).av fun q s hq=>SR.pure (ha.mono hq|>.add _).ptr
  .refine SR.ite (fun h=>absurd h.2 (by simp only[Int.natCast_zero];omega)) fun _=>SR.ite (fun _=>SR.unsupported) fun _=>SR.boundsPanic _ _ _ _
 cases u with
 |array len e=>
  refine(SR.sureAddr h).bind fun q2 a a' bR ha=>?_;refine SR.cq fun u hu=>?_;exact rest q2 _ _ len e (.inr (.inl ⟨a,a',rfl,rfl,ha⟩)) _
 |slice e=>
  cases v with
  |slice b len cap=>
   cases v' with
   |slice b' UW jW=>
    obtain⟨rfl,hs⟩:=ke h;refine SR.cq fun u hu=>?_;exact rest q _ _ len e (hs.imp (fun h=>⟨h.1,h.2.1⟩) fun h=>h.imp (fun⟨b,b',h1,h2,h3,_⟩=>⟨b,b',h1,h2,h3⟩) fun⟨h0,_,b,b',h1,h2,_⟩=>⟨b,b',h1,h2,h0⟩) _
   |_=>cases h
  |_=>cases h<;>exact SR.stuck
 |_=>exact SR.stuck
end
section
variable {P:Program} {F:Array Func} {S:Nat->Bool} {K:Kz} {N:Nat} {p:Pi}
theorem SR.lenOf (h:VR S p x x'):SR P F S K N (fun _ a b=>a=b/\∀b l c,x=.slice b l c->a=l) (Builtin.lenOf x) (Builtin.lenOf x') p:=by
 cases h<;>first|exact SR.pure ⟨rfl,fun b l c e=>by cases e<;>rfl⟩|exact SR.stuck
theorem SR.firstCells (s n:Nat) (h:VR S p x x') (hn:∀b c,x=.slice b 0 c->n=0):SR P F S K N (QA S) (Builtin.firstCells s n x) (Builtin.firstCells s n x') p:=by
 cases h<;>first|exact SR.stuck|skip
 .rename_i s1;exact SR.pure (AR.map _ _ _ fun x _=>.int _ _)
 .exact SR.pure AR.empty
 .rename_i r r' o sp l c g hX;exact SR.loadCells (a:=⟨r,o,sp⟩) (a':=⟨r',o,sp⟩) ⟨g,rfl,rfl⟩ _
 .rename_i r r' k o l c hl g h0 hx;exact SR.loadCells (a:=⟨r,o,none⟩) (a':=⟨r',o,none⟩) ⟨g,rfl,rfl⟩ _
 all_goals
  obtain rfl:=hn _ _ rfl;simp only[Builtin.firstCells,Nat.zero_mul];exact SR.pure AR.empty
theorem SR.oW (s:Nat) (h:VR S p x x'):SR P F S K N (fun _ a b=>a=#[]/\b=#[]) (Builtin.firstCells s 0 x) (Builtin.firstCells s 0 x') p:=by
 have hl:∀b:Addr,Go.loadCells b (0*s)=Pure.pure #[]:=fun b=>by rw[Nat.zero_mul];rfl
 cases h<;>first|exact SR.stuck|exact SR.pure ⟨rfl,rfl⟩|(simp only[Builtin.firstCells,hl];exact SR.pure ⟨rfl,rfl⟩)|exact SR.pure ⟨by simp,by simp⟩
theorem lA (h:AR S p z z') (n:Nat):AR S p (Builtin.zeroCells z n) (Builtin.zeroCells z' n):=by
 unfold Builtin.zeroCells;rw[<-h.1];have:=pZ h (n*z.size);rw[<-h.1]at this;exact this
theorem jM (a:Addr) (n:Nat) (w:World) (es:Array Event):∃b,(Builtin.holdsCells a n).runT P w es=(.ok b w,es):=by
 unfold Builtin.holdsCells;show∃b,(Sem.shape a.block fun s=>_).runT P w es=_;simp only[Sem.runT];cases w.shape? a.block with
 |none=>exact⟨_,rfl⟩
 |some x=>exact⟨_,rfl⟩
theorem jt (P:Program) (f:α->Sem β) {a:α} {w1:World} {es1:Array Event}:∀(s:Sem α) (w:World) (es:Array Event),s.runT P w es=(.ok a w1,es1)->(s.bind f).runT P w es=(f a).runT P w1 es1:=by
 intro s;induction s with
 |pure x=>intro w es e;simp only[Sem.runT,Prod.mk.injEq,Result.ok.injEq]at e;obtain⟨⟨rfl,rfl⟩,rfl⟩:=e;rfl
 |load m a k ih=>
  intro w es e;simp only[Sem.bind,Sem.runT]at e⊢;cases hc:w.cell? a with
  |some v=>rw[hc]at e;exact ih v _ _ e
  |none=>
   rw[hc]at e;simp only at e⊢;cases hf:w.farLoad P a (m== .atomic)with
   |ok x=>rw[hf]at e;exact ih _ _ _ e
   |error x=>rw[hf]at e;cases e
 |store m a v k ih=>
  intro w es e;cases hv:de v with
  |false=>obtain⟨x,hx,_⟩:=iI P m a v k w es hv;rw[hx]at e;cases e
  |true=>
   rw[cn P m a v k w es hv]at e;show(Sem.store m a v (k.bind f)).runT P w es=_;rw[cn P m a v _ w es hv];cases hc:w.cell? a with
   |some u=>
    rw[hc]at e;simp only at e⊢;by_cases hz:w.frozen? a=true
    .simp only[hz,if_true]at e;cases e
    .simp only[hz,Bool.false_eq_true,if_false]at e⊢;exact ih _ _ e
   |none=>
    rw[hc]at e;simp only at e⊢;cases hf:w.farStore P a v (m== .atomic)with
    |ok x=>rw[hf]at e;exact ih _ _ e
    |error x=>rw[hf]at e;cases e
 |new o k ih=>intro w es e;exact ih _ _ _ e
 |shape r k ih=>intro w es e;exact ih _ _ _ e
 |freeze a n k ih=>intro w es e;exact ih _ _ e
 |frozen a k ih=>intro w es e;exact ih _ _ _ e
 |getObj r k ih=>
  intro w es e;simp only[Sem.bind,Sem.runT]at e⊢;cases ho:w.heap[r]? with
  |none=>rw[ho]at e;cases e
  |some o=>rw[ho]at e;cases o<;>first|exact ih _ _ _ e|(cases e;done)
 |setObj r o k ih=>
  intro w es e;simp only[Sem.bind,Sem.runT]at e⊢;cases ho:w.heap[r]? with
  |none=>rw[ho]at e;cases e
  |some o'=>rw[ho]at e;cases o'<;>first|exact ih _ _ e|(cases e;done)
 |choose q k ih=>
  intro w es e;simp only[Sem.bind,Sem.runT]at e⊢;split at e
  .rename_i hq;simp only[hq,if_true];exact ih _ _ _ e
  .rename_i hq;simp only[hq,if_false,Bool.false_eq_true];exact ih _ _ _ e
 |sys c k ih=>intro w es e;exact ih _ _ _ e
 |program k ih=>intro w es e;exact ih _ _ _ e
 |mark m k ih=>intro w es e;exact ih _ _ e
 |halt x=>intro w es e;cases e
theorem sE (s l n:Nat) (b:Option Addr) (x:Value) (w:World) (es:Array Event):∃c,(Builtin.mayShare s l n b x).runT P w es=(.ok c w,es):=by
 have tail:∀t:Bool,∃c,(if(!t)=true then(Pure.pure true:Sem Bool)else match x with
  |.slice (some b') _ _=>Builtin.holdsCells b' (n*s)>>=fun h=>Pure.pure (!h||b.any (·.block==b'.block))
  |_=>Pure.pure false).runT P w es=(.ok c w,es):=by
  intro t;split
  .exact⟨_,rfl⟩
  .split
   .rename_i b' _ _;obtain⟨h,hh⟩:=jM (P:=P) b' (n*s) w es;exact⟨_,(jt P _ _ w es hh)⟩
   .exact⟨_,rfl⟩
 unfold Builtin.mayShare;cases b with
 |none=>exact tail true
 |some a=>
  obtain⟨h,hh⟩:=jM (P:=P) a (l*s) w es;obtain⟨c,hc⟩:=tail (h&&!w.frozen? (a.add (l/2*s)));refine⟨c,?_⟩;show((Builtin.holdsCells a (l*s)).bind _).runT P w es=_;rw[jt P _ _ w es hh];exact hc
theorem wG (s l n:Nat) (b:Option Addr) (x:Value) (u:Unsupported) (hu:∀g,u≠ .initOrder g) (k:PUnit->Sem β):
 ar P (Builtin.mayShare s l n b x>>=fun c=>if(!c)=true then Go.mark .noRoom>>=fun _=>Go.unsupported u>>=k else Go.unsupported u>>=k):=by
 intro w es;obtain⟨c,hc⟩:=sE (P:=P) s l n b x w es;have hd:dead (.unsupported u):=by cases u<;>first|trivial|exact absurd rfl (hu _)
 show∃h w1 es1,((Builtin.mayShare s l n b x).bind _).runT P w es=_/\_;rw[jt P _ _ w es hc];cases c with
 |true=>exact⟨_,w,es,rfl,hd⟩
 |false=>exact⟨_,w,es.push ⟨.mark .noRoom,false,true⟩,rfl,hd⟩
def tq (P:Program) (ts:Array TypeId):Bool:=match ts[1]? with|some t=>(match P.underlying t with|some (.int _)=>false|_=>true)|none=>true
def eJ (e:TypeId) (b:Option Addr) (sl sc n size:Nat) (x:Value):Sem Value:=
 Go.choose (.appendCap (sl+n) sc e)>>=fun zq=>Go.typeInfo e>>=fun i=>Go.askRoom (zq*i.bytes)>>=fun _=>
  Builtin.firstCells size sl (.slice b sl sc)>>=fun old=>Builtin.firstCells size n x>>=fun new=>Go.zeroValue e>>=fun z=>
   Go.newRow e (old++new++Builtin.zeroCells z.cells (zq-(sl+n)))>>=fun a=>Pure.pure (.slice (some a) (sl+n) zq)
def lO (e:TypeId) (b:Option Addr) (sl sc n size:Nat) (x:Value):Sem Value:=
 Go.typeInfo e>>=fun i=>if Builtin.nextslicecap (sl+n) sc*i.bytes>2^48 then
  ((Builtin.mayShare size sl n b x>>=fun c=>if(!c)=true then Go.mark .noRoom>>=fun _=>Go.unsupported (.resourceLimit "append: a slice or a string whose bytes no memory bears")else Go.unsupported (.resourceLimit "append: a slice or a string whose bytes no memory bears"))>>=fun(_:PUnit)=>eJ e b sl sc n size x)
  else eJ e b sl sc n size x
def dX (e:TypeId) (b:Option Addr) (sl sc size:Nat) (x:Value):Sem Value:=
 Builtin.lenOf x>>=fun n=>if sl+n<=sc then
  Builtin.firstCells size n x>>=fun new=>match b with
   |some a=>Go.storeCells (a.add (sl*size)) new.toList>>=fun _=>Pure.pure (.slice b (sl+n) sc)
   |none=>Pure.pure (.slice b (sl+n) sc)
  else Go.typeInfo e>>=fun i=>if((sl+n:Nat):Int)>IntKind.i64.max/\(false=true\/i.bytes=0)then(Go.runtimePanic (.error "growslice: len out of range")>>=fun(_:PUnit)=>lO e b sl sc n size x)else lO e b sl sc n size x
theorem dg.typeInfo {f:TypeInfo->Sem β} (h:∀i,P.info? t=some i->dg P (f i)):dg P (Go.typeInfo t>>=f):=by
 show dg P (Sem.bind (match P.info? t with|some i=>Pure.pure i|none=>Go.stuck "no such type") f);cases hi:P.info? t with
 |none=>exact trivial
 |some i=>exact h i hi
theorem qB (e:TypeId) (b:Option Addr) (sl sc n size:Nat) (x:Value):dg P (au.lO e b sl sc n size x):=by
 refine dg.typeInfo fun i hi=>?_;split
 .refine dg.bind ?_;refine dg.K5 (fun c=>?_) _;split<;>exact trivial
 .exact trivial
def BR (p:Pi) (b b':Option Addr) (sl sc:Nat):Prop:=(b=none/\b'=none)\/(∃a a',b=some a/\b'=some a'/\gD p a a'/\∀k,¬p.x a.block k)\/∃a a',b=some a/\b'=some a'/\sl=0/\sc=0/\p.l=false
theorem BR.mono {q:Pi} (h:Le p q) {b b':Option Addr} {sl sc:Nat} (x:BR p b b' sl sc):BR q b b' sl sc:=x.imp id fun y=>y.imp (fun⟨a,a',h1,h2,h3,h4⟩=>⟨a,a',h1,h2,h3.mono h,fun k hk=>h4 k (h.xr _ _ _ h3.1 hk)⟩) fun⟨a,a',h1,h2,h3,h4,h5⟩=>⟨a,a',h1,h2,h3,h4,h.l.trans h5⟩
theorem BR.sl {b b':Option Addr} (x:BR p b b' l c):VR S p (.slice b l c) (.slice b' l c):=by
 rcases x with⟨rfl,rfl⟩|⟨a,a',rfl,rfl,h,hX⟩|⟨a,a',rfl,rfl,rfl,rfl,hl⟩
 .exact .cI l c
 .exact h.sl (fun _=>hX) l c
 .exact .dk hl a a'
theorem SR.eJ (hz:aV P) (e:TypeId) {b b':Option Addr} (sl sc n size:Nat) (hb:BR p b b' sl sc) (hx:VR S p x x') (Bl:∀b c,x=.slice b 0 c->n=0):SR P F S K N (QV S) (eJ e b sl sc n size x) (eJ e b' sl sc n size x') p:=by
 refine(SR.choose _).av fun q1 c pJ=>SR.mG fun i hi=>(SR.askRoom _).av fun q2 _ bR=>?_;have hb:=(hb.mono pJ).mono bR;have hx:=(hx.mono pJ).mono bR;refine(SR.firstCells size sl hb.sl (fun b c h=>by simp only[Value.slice.injEq]at h;exact h.2.1)).bind fun q3 o o' fQ ho=>(SR.firstCells size n (hx.mono fQ) Bl).bind fun q4 y y' EG hy=>(SR.zeroValue hz e).bind fun q5 z z' O3 yY=>?_;obtain⟨rfl,hv⟩:=yY;exact(SR.newRow e ((((ho.mono EG).mono O3).append (hy.mono O3)).append (lA hv.cells _))).bind fun q6 a a' Zh ha=>SR.pure (ha.1.sl (fun _=>ha.2.2) _ _)
theorem SR.lO (jo:p.l=false) (hz:aV P) (e:TypeId) {b b':Option Addr} (sl sc n size:Nat) (hb:BR p b b' sl sc) (hx:VR S p x x') (Bl:∀b c,x=.slice b 0 c->n=0):SR P F S K N (QV S) (lO e b sl sc n size x) (lO e b' sl sc n size x') p:=by
 refine SR.mG fun i hi=>SR.ite (fun _=>?_) fun _=>SR.eJ hz e sl sc n size hb hx Bl;have hu:∀g,Unsupported.resourceLimit "append: a slice or a string whose bytes no memory bears" ≠ .initOrder g:=fun g h=>by cases h
 have hd:=ar.bind (wG (P:=P) size sl n b x _ hu (fun(u:PUnit)=>Pure.pure u)) (fun(_:PUnit)=>au.eJ e b sl sc n size x);rcases hb with⟨rfl,rfl⟩|⟨a,a',rfl,rfl,mH⟩|⟨a,a',rfl,rfl,_⟩
 .cases hx with
  |slice o sp l c g=>exact SR.iJ (.inr ⟨jo,hd⟩) rfl
  |_=>exact SR.iJ (.inr ⟨jo,hd⟩) rfl
 .exact SR.iJ (.inr ⟨jo,hd⟩) rfl
 .exact SR.iJ (.inr ⟨jo,hd⟩) rfl
theorem SR.dX (hz:aV P) (e:TypeId) {b b':Option Addr} (sl:Nat) {sc sF:Nat} (size:Nat) {x x':Value} (hb:VR S p (.slice b sl sc) (.slice b' sl sF)) (hE:p.l=true->∀a,b=some a->a.spot=none) (hx:VR S p x x'):SR P F S K N (QV S) (dX e b sl sc size x) (dX e b' sl sF size x') p:=by
 refine(SR.lenOf hx).bind fun q1 n n' pJ hn=>?_;obtain⟨rfl,hn⟩:=hn;have Bl:∀b c,x=.slice b 0 c->n=0:=fun b c e=>hn b 0 c e;have hE:q1.l=true->∀a,b=some a->a.spot=none:=fun h=>hE (pJ.l.symm.trans h);have hb:=hb.mono pJ;have hx:=hx.mono pJ;clear pJ;revert hb hx hE;generalize q1=p;intro hE hb hx;refine SR.ok fun ho=>?_;cases hl:p.l with
 |true=>
  obtain⟨_,hs⟩:=ke hb;by_cases hle:sl+n<=sc
  .have U2:sl+n<=sF:=by
    rcases hs with⟨_,_,e⟩|⟨_,_,_,_,_,⟨e,_⟩|⟨_,_,_,k,_,e⟩⟩|⟨e1,e2,a,_,e3,_,⟨_,e4⟩|⟨e4,_⟩⟩
    .omega
    .omega
    .omega
    .have:=hE hl a e3;rw[e4]at this;cases this
    .rw[hl]at e4;cases e4
   rw[if_pos hle,if_pos U2];refine(SR.firstCells size n hx fun b c e=>hn b 0 c e).bind fun q2 y y' bR hy=>?_;have hb:=hb.mono bR;rcases hs with⟨rfl,rfl,rfl⟩|⟨a,a',rfl,rfl,ha,⟨e,hX⟩|⟨_,h0,lj,k,hk,e⟩⟩|⟨e1,e2,a,_,e3,_,⟨_,e4⟩|⟨e4,_⟩⟩
   .exact SR.pure (.cI _ _)
   .subst e;have K7:=ha;have ha:=ha.mono bR;exact(SR.eX (ha.add _) hy).av fun q3 _ fQ=>SR.pure ((ha.mono fQ).sl (fun hs k hk=>hX hs k (bR.xr _ _ _ K7.1 (fQ.xr _ _ _ ha.1 hk))) _ _)
   .subst e;have ha:=ha.mono bR;exact(SR.eX (ha.add _) hy).av fun q3 _ fQ=>SR.pure ((ha.mono fQ).Zf (fQ.l.trans (bR.l.trans hl)) lj _ h0 (fQ.x _ _ (bR.x _ _ hk)))
   .have:=hE hl a e3;rw[e4]at this;cases this
   .rw[hl]at e4;cases e4
  .rw[if_neg hle];refine fun _=>.inl (.inl ⟨hl,?_⟩)
   have:dg P (Go.typeInfo e>>=fun i=>if((sl+n:Nat):Int)>IntKind.i64.max/\(false=true\/i.bytes=0)then(Go.runtimePanic (.error "growslice: len out of range")>>=fun(_:PUnit)=>au.lO e b sl sc n size x)else au.lO e b sl sc n size x):=by
    refine dg.typeInfo fun i hi=>?_;split
    .exact dg.K5 (fun _=>qB ..) _
    .exact qB ..
   exact this
 |false=>
  obtain⟨_,hs⟩:=ke hb
  have U3:sc=sF/\BR p b b' sl sc:=by
   rcases hs with⟨h1,h2,h3⟩|⟨a,a',h1,h2,h3,⟨h4,_⟩|⟨h4,_⟩⟩|⟨h1,h2,a,a',h3,h4,⟨h5,_⟩|⟨_,h5⟩⟩
   .exact⟨h3,.inl ⟨h1,h2⟩⟩
   .exact⟨h4,.inr (.inl ⟨a,a',h1,h2,h3,ho.sB hl _⟩)⟩
   .rw[hl]at h4;cases h4
   .rw[hl]at h5;cases h5
   .exact⟨by omega,.inr (.inr ⟨a,a',h3,h4,h1,h2,hl⟩)⟩
  obtain⟨rfl,IV⟩:=U3;refine SR.ite (fun hle=>?_) fun _=>SR.mG fun i hi=>SR.ite (fun _=>?_) fun _=>SR.lO hl hz e sl sc n size IV hx Bl
  .rcases IV with⟨rfl,rfl⟩|⟨a,a',rfl,rfl,mH,hX⟩|⟨a,a',rfl,rfl,rfl,rfl,_⟩
   .exact(SR.firstCells size n hx Bl).bind fun q2 y y' bR hy=>SR.pure (.cI _ _)
   .exact(SR.firstCells size n hx Bl).bind fun q2 y y' bR hy=>(SR.eX ((mH.mono bR).add _) hy).av fun q3 _ fQ=>SR.pure (((mH.mono bR).mono fQ).sl (fun _ k hk=>hX k ((bR.trans fQ).xr _ _ _ mH.1 hk)) _ _)
   .obtain rfl:n=0:=by omega
    refine(SR.oW size hx).bind fun q2 y y' bR hy=>?_;obtain⟨rfl,rfl⟩:=hy;exact SR.pure (.dk (bR.l.trans hl) a a')
  .exact SR.bind (Q:=QE PUnit) (SR.err _) fun q2 _ _ bR _=>SR.lO (bR.l.trans hl) hz e sl sc n size (IV.mono bR) (hx.mono bR) Bl
theorem SR.append (hz:aV P) (ts:Array TypeId) (ht:tq P ts=true) (t:TypeId) (h:AR S p xs cB) (hE:p.l=true->∀a l c,xs[0]?=some (.slice (some a) l c)->a.spot=none):SR P F S K N (QV S) (Builtin.append_ ts t xs) (Builtin.append_ ts t cB) p:=by
 unfold Builtin.append_;cases h0:ts[0]? with
 |none=>cases xs[0]? <;>cases xs[1]? <;>exact SR.stuck
 |some sT=>
 cases h1:xs[0]? with
 |none=>cases xs[1]? <;>exact SR.stuck
 |some s=>
 cases h2:xs[1]? with
 |none=>exact SR.stuck
 |some x=>
 obtain⟨s',wH,hs⟩:=h.get h1;obtain⟨x',qC,hx⟩:=h.get h2;rw[wH,qC];simp only;refine SR.cq fun u hu=>?_;cases u with
 |slice e=>
  cases s with
  |slice b sl sc=>
   cases s' with
   |slice b' fW sF=>
    obtain⟨rfl,_⟩:=ke hs;simp only;refine(SR.sizeOf e).av fun q size hq=>?_;have key:=SR.dX (P:=P) (F:=F) (S:=S) (K:=K) (N:=N) hz e sl size (hs.mono hq) (fun hl a e=>hE (hq.l.symm.trans hl) a _ _ (by rw[h1,e])) (hx.mono hq);cases b<;>cases b'<;>(try(cases hs;done))
    all_goals cases h3:ts[1]? with
    |none=>
     simp only[pure_bind,Bool.false_eq_true,if_false,Bool.not_false,if_true,false_or];unfold au.dX au.lO au.eJ at key;simp only[Bool.false_eq_true,false_or]at key;exact key
    |some xT=>
     refine SR.cq fun u hu=>?_;simp only[tq,h3,hu]at ht;unfold au.dX au.lO au.eJ at key;simp only[Bool.false_eq_true,false_or]at key;cases u<;>first|(cases ht;done)|skip
     all_goals simp only[pure_bind,Bool.false_eq_true,if_false,Bool.not_false,if_true,false_or]
     all_goals exact key
   |_=>cases hs
  |_=>cases hs<;>exact SR.stuck
 |_=>exact SR.stuck
end
section
variable {P:Program} {F:Array Func} {S:Nat->Bool} {K:Kz} {N:Nat} {p:Pi}
theorem SR.copy (ts:Array TypeId) (t:TypeId) (h:AR S p xs cB):SR P F S K N (QV S) (Builtin.copy_ ts t xs) (Builtin.copy_ ts t cB) p:=by
 unfold Builtin.copy_;cases h0:ts[0]? with
 |none=>cases xs[0]? <;>cases xs[1]? <;>exact SR.stuck
 |some dT=>
 cases h1:xs[0]? with
 |none=>cases xs[1]? <;>exact SR.stuck
 |some s=>
 cases h2:xs[1]? with
 |none=>exact SR.stuck
 |some x=>
 obtain⟨s',wH,hs⟩:=h.get h1;obtain⟨x',qC,hx⟩:=h.get h2;rw[wH,qC];simp only;refine SR.cq fun u hu=>?_;cases u with
 |slice e=>
  cases s with
  |slice b sl sc=>
   cases s' with
   |slice b' fW sF=>
    obtain⟨rfl,hb⟩:=ke hs;simp only;refine(SR.lenOf hx).bind fun q n n' hq hn=>(SR.sizeOf e).av fun q2 size bR=>?_;obtain⟨rfl,hn⟩:=hn;have PZ:∀b c,x=.slice b 0 c->min n sl=0:=fun b c e=>by rw[hn b 0 c e];exact Nat.zero_min _
    rcases hb with⟨rfl,rfl,_⟩|⟨a,a',rfl,rfl,mH,_⟩|⟨rfl,_,a,a',rfl,rfl,_⟩
    .exact(SR.firstCells size _ ((hx.mono hq).mono bR) PZ).bind fun q3 y y' fQ hy=>SR.pure (.int _ _)
    .exact(SR.firstCells size _ ((hx.mono hq).mono bR) PZ).bind fun q3 y y' fQ hy=>(SR.eX (((mH.mono hq).mono bR).mono fQ) hy).av fun q4 _ EG=>SR.pure (.int _ _)
    .have e0:Nat.min n 0=0:=Nat.min_zero n;rw[e0];refine(SR.oW size ((hx.mono hq).mono bR)).bind fun q3 y y' fQ hy=>?_;obtain⟨rfl,rfl⟩:=hy;exact SR.pure (.int _ _)
   |_=>cases hs
  |_=>cases hs<;>exact SR.stuck
 |_=>exact SR.stuck
def EH (P:Program) (ts:Array TypeId):Bool:=match ts[0]? with|some t=>(match P.underlying t with|some (.chan ..)=>false|_=>true)|none=>true
theorem SR.len (ts:Array TypeId) (ht:EH P ts=true) (t:TypeId) (h:AR S p xs cB):SR P F S K N (QV S) (Builtin.len_ ts t xs) (Builtin.len_ ts t cB) p:=by
 unfold Builtin.len_;cases h0:ts[0]? with
 |none=>cases xs[0]? <;>exact SR.stuck
 |some dT=>
 cases h1:xs[0]? with
 |none=>exact SR.stuck
 |some s=>
 obtain⟨s',wH,hs⟩:=h.get h1;rw[wH];simp only;refine SR.cq fun u hu=>?_;simp only[EH,h0,hu]at ht;cases u with
 |chan=>cases ht
 |array n e=>cases hs<;>exact SR.pure (.int _ _)
 |pointer arr=>
  cases hs<;>
  .refine SR.cq fun u hu=>?_;cases u<;>first|exact SR.pure (.int _ _)|exact SR.stuck
 |map k e=>
  cases hs<;>first|exact SR.stuck|exact SR.pure (.int _ _)|skip
  rename_i r r' g;refine(SR.getObj g).bind fun q o o' hq ho=>?_;cases ho with
  |map c h g=>simp only;rw[h];exact SR.pure (.int _ _)
  |_=>exact SR.stuck
 |string=>cases hs<;>first|exact SR.pure (.int _ _)|exact SR.stuck
 |slice e=>cases hs<;>first|exact SR.pure (.int _ _)|exact SR.stuck
 |_=>cases hs<;>exact SR.stuck
theorem SR.clear (hz:aV P) (ts:Array TypeId) (t:TypeId) (h:AR S p xs cB):SR P F S K N (QV S) (Builtin.clear_ ts t xs) (Builtin.clear_ ts t cB) p:=by
 unfold Builtin.clear_;cases h0:ts[0]? with
 |none=>cases xs[0]? <;>exact SR.stuck
 |some dT=>
 cases h1:xs[0]? with
 |none=>exact SR.stuck
 |some s=>
 obtain⟨s',wH,hs⟩:=h.get h1;rw[wH];simp only;refine SR.cq fun u hu=>?_;have hv:∀q,VR S q (.tuple #[]) (.tuple #[]):=fun q=>VR.plain 2 _ (by simp[plain])
 have U4:∀r r',p r r'->SR P F S K N (QV S)
  (Go.getObj r>>=fun o=>match o with|.map _ c=>Go.setObj r (.map #[] c)>>=fun _=>Pure.pure (.tuple #[])|_=>Go.stuck "clear: map expected" >>=fun(_:PUnit)=>Pure.pure (.tuple #[]))
  (Go.getObj r'>>=fun o=>match o with|.map _ c=>Go.setObj r' (.map #[] c)>>=fun _=>Pure.pure (.tuple #[])|_=>Go.stuck "clear: map expected" >>=fun(_:PUnit)=>Pure.pure (.tuple #[])) p:=by
  intro r r' g;refine(SR.getObj g).bind fun q o o' hq ho=>?_;cases ho with
  |map c h g2=>exact(SR.setObj (hq _ _ g) (.map c rfl fun i e e' h=>by simp at h) fun _ _ _ _ _ _ _ a=>by cases a).av fun q2 _ bR=>SR.pure (hv q2)
  |_=>exact SR.stuck
 have qD:∀(e:TypeId) (a a':Addr) (n:Nat),gD p a a'->SR P F S K N (QV S)
  (Go.zeroValue e>>=fun z=>Go.storeCells a (Builtin.zeroCells z.cells n).toList>>=fun _=>Pure.pure (.tuple #[]))
  (Go.zeroValue e>>=fun z=>Go.storeCells a' (Builtin.zeroCells z.cells n).toList>>=fun _=>Pure.pure (.tuple #[])) p:=by
  intro e a a' n ha;refine(SR.zeroValue hz e).bind fun q z z' hq yY=>?_;obtain⟨rfl,Mz⟩:=yY;exact(SR.eX (ha.mono hq) (lA Mz.cells n)).av fun q2 _ bR=>SR.pure (hv q2)
 cases hs with
 |sA=>cases u<;>exact SR.pure (hv p)
 |cI l c=>cases u<;>exact SR.pure (hv p)
 |dk _ a a'=>cases u<;>exact SR.pure (hv p)
 |eN=>cases u<;>exact SR.pure (hv p)
 | @cJ r r' k o l c hl g h0 hx=>
   cases l with
   |zero=>cases u<;>exact SR.pure (hv p)
   |succ l=>cases u<;>first|exact SR.stuck|exact qD _ ⟨_,o,none⟩ ⟨_,o,none⟩ _ ⟨g,rfl,rfl⟩
 |map g=>cases u<;>exact U4 _ _ g
 |slice o sp l c g _=>
  cases l with
  |zero=>cases u<;>exact SR.pure (hv p)
  |succ l=>cases u<;>first|exact SR.stuck|exact qD _ ⟨_,o,sp⟩ ⟨_,o,sp⟩ _ ⟨g,rfl,rfl⟩
 |_=>cases u<;>exact SR.stuck
theorem SR.max2 (hx:VR S p x x') (hy:VR S p y y'):SR P F S K N (QV S) (Builtin.max2 x y) (Builtin.max2 x' y') p:=by
 cases hx<;>cases hy<;>first|exact SR.stuck|exact SR.unsupported|exact SR.pure (.int _ _)|skip
 rename_i s1 s2;refine SR.bind (Q:=QV S) (SR.stringOp .geq s1 s2) fun q v v' hq hv=>?_;exact(SR.asBool hv).av fun q2 b bR=>SR.pure (.string _)
theorem SR.min2 (hx:VR S p x x') (hy:VR S p y y'):SR P F S K N (QV S) (Builtin.min2 x y) (Builtin.min2 x' y') p:=by
 cases hx<;>cases hy<;>first|exact SR.stuck|exact SR.unsupported|exact SR.pure (.int _ _)|skip
 rename_i s1 s2;refine SR.bind (Q:=QV S) (SR.stringOp .leq s1 s2) fun q v v' hq hv=>?_;exact(SR.asBool hv).av fun q2 b bR=>SR.pure (.string _)
theorem SR.EI (f:Value->Value->Sem Value) (hf:∀{p:Pi} {x x' y y':Value},VR S p x x'->VR S p y y'->SR P F S K N (QV S) (f x y) (f x' y') p):∀(l l':List Value) {p:Pi} {x x':Value},l.length=l'.length->(∀(i:Nat) v v',l[i]?=some v->l'[i]?=some v'->VR S p v v')->VR S p x x'->
 SR P F S K N (QV S) (l.foldlM f x) (l'.foldlM f x') p
 | [],[],_,_,_,_,_,hx=>SR.pure hx
 | [],_::_,_,_,_,h,_,_=>by cases h
 |_::_,[],_,_,_,h,_,_=>by cases h
 |v::l,v'::l',p,x,x',h,g,hx=>by
  simp only[List.foldlM_cons];exact(hf hx (g 0 v v' rfl rfl)).bind fun q y y' hq hy=>SR.EI f hf l l' (by simpa using h) (fun i a b h1 h2=>(g (i+1) a b h1 h2).mono hq) hy
theorem SR.max (ts:Array TypeId) (t:TypeId) (h:AR S p xs cB):SR P F S K N (QV S) (Builtin.max_ ts t xs) (Builtin.max_ ts t cB) p:=by
 unfold Builtin.max_;have hl:xs.toList.length=cB.toList.length:=by simpa using h.1
 have hg:∀(i:Nat) v v',xs.toList[i]?=some v->cB.toList[i]?=some v'->VR S p v v':=fun i v v' a b=>h.2 i v v' (by simpa using a) (by simpa using b);revert hl hg;generalize xs.toList=l;generalize cB.toList=l';intro hl hg;cases l<;>cases l'<;>first|(cases hl;done)|exact SR.stuck|skip
 exact SR.EI _ SR.max2 _ _ (by simpa using hl) (fun i a b h1 h2=>hg (i+1) a b h1 h2) (hg 0 _ _ rfl rfl)
theorem SR.min (ts:Array TypeId) (t:TypeId) (h:AR S p xs cB):SR P F S K N (QV S) (Builtin.min_ ts t xs) (Builtin.min_ ts t cB) p:=by
 unfold Builtin.min_;have hl:xs.toList.length=cB.toList.length:=by simpa using h.1
 have hg:∀(i:Nat) v v',xs.toList[i]?=some v->cB.toList[i]?=some v'->VR S p v v':=fun i v v' a b=>h.2 i v v' (by simpa using a) (by simpa using b);revert hl hg;generalize xs.toList=l;generalize cB.toList=l';intro hl hg;cases l<;>cases l'<;>first|(cases hl;done)|exact SR.stuck|skip
 exact SR.EI _ SR.min2 _ _ (by simpa using hl) (fun i a b h1 h2=>hg (i+1) a b h1 h2) (hg 0 _ _ rfl rfl)
def nU (P:Program) (s d:TypeId):Bool:=match P.underlying s,P.underlying d with
 |some (.int _),some (.int _)=>true
 |some .string,some (.slice e)=>(match P.underlying e with|some (.int .u8)=>true|_=>false)
 |some .string,some .string=>true
 |some (.slice e),some .string=>(match P.underlying e with|some (.int .u8)=>true|_=>false)
 |_,_=>false
def kg (c:Value) (s:ByteArray):Sem (ForInStep ByteArray):=match c with
 |.int .u8 n=>Pure.pure (.yield (s.push (UInt8.ofNat n.toNat)))
 |_=>Go.stuck "bytesToString: byte expected"
theorem SR.EJ:∀{l l':List Value} {p:Pi} (s:ByteArray),l.length=l'.length->(∀(i:Nat) v v',l[i]?=some v->l'[i]?=some v'->VR S p v v')->SR P F S K N (QE ByteArray) (forIn l s kg) (forIn l' s kg) p
 | [],[],_,s,_,_=>SR.pure rfl
 | [],_::_,_,_,h,_=>by cases h
 |_::_,[],_,_,h,_=>by cases h
 |c::l,c'::l',p,s,h,g=>by
  simp only[List.forIn_cons];have hc:=g 0 c c' rfl rfl;have rest:∀q s,Le p q->SR P F S K N (QE ByteArray) (forIn l s kg) (forIn l' s kg) q:=fun q s hq=>SR.EJ s (by simpa using h) fun i v v' a b=>(g (i+1) v v' a b).mono hq;cases hc<;>first|exact SR.stuck|skip
  rename_i k n;cases k<;>first|exact SR.stuck|exact rest p _ (Le.refl _)
theorem SR.bytesToString (hx:VR S p x x'):SR P F S K N (QV S) (Conv.bytesToString x) (Conv.bytesToString x') p:=by
 have e:∀(a:Addr) (n c:Nat),Conv.bytesToString (.slice (some a) n c)=(Go.loadCells a n>>=fun cs=>forIn cs.toList ByteArray.empty kg>>=fun s=>Pure.pure (Value.string s)):=by
  intro a n c;unfold Conv.bytesToString kg;simp only[Array.forIn_toList];rfl
 have key:∀{q:Pi} {cs jn:Array Value},AR S q cs jn->SR P F S K N (QV S) (forIn cs.toList ByteArray.empty kg>>=fun s=>Pure.pure (Value.string s)) (forIn jn.toList ByteArray.empty kg>>=fun s=>Pure.pure (Value.string s)) q:=fun{q cs jn} h=>
  (SR.EJ _ (by simpa using h.1) fun i v v' a b=>h.2 i v v' (by simpa using a) (by simpa using b)).av fun q2 s hq=>SR.pure (.string s)
 cases hx<;>first|exact SR.stuck|exact SR.pure (.string _)|skip
 .rename_i r r' o sp l c h _;rw[e,e];exact(SR.loadCells (a:=⟨r,o,sp⟩) (a':=⟨r',o,sp⟩) ⟨h,rfl,rfl⟩ l).bind fun q cs jn hq j7=>key j7
 .rename_i r r' k o l c hl h h0 hx;rw[e,e];exact(SR.loadCells (a:=⟨r,o,none⟩) (a':=⟨r',o,none⟩) ⟨h,rfl,rfl⟩ l).bind fun q cs jn hq j7=>key j7
theorem SR.stringToBytes (e:TypeId) (s:ByteArray):SR P F S K N (QV S) (Conv.stringToBytes e s) (Conv.stringToBytes e s) p:=by
 unfold Conv.stringToBytes;refine(SR.choose _).av fun q c hq=>?_;refine(SR.newRow e ((AR.map _ _ _ fun x _=>.int _ _).append (AR.replicate _ (.int _ _)))).bind fun q2 a a' bR ha=>?_;refine SR.bind (Q:=QE Unit) ?_ fun q3 _ _ fQ _=>SR.pure ((ha.1.mono fQ).sl (fun _ k hk=>ha.2.2 k (fQ.xr _ _ _ ha.1.1 hk)) _ _);unfold Go.markStringish;refine(SR.shape ha.1.1).av fun q3 x fQ=>?_;cases x with
 |none=>exact SR.pure rfl
 |some x=>
  obtain⟨e,n⟩:=x;exact fun hp=>.inr ⟨_,_,rfl,⟨fQ _ _ ha.1.1,rfl,rfl⟩,ha.2.1,rfl⟩
theorem SR.convert (s d:TypeId) (ho:nU P s d=true) (hx:VR S p x x'):SR P F S K N (QV S) (Go.convert s d x) (Go.convert s d x') p:=by
 unfold Go.convert;refine SR.cq fun u hu=>SR.cq fun v hv=>?_;simp only[nU,hu,hv]at ho;cases u<;>first|(cases ho;done)|skip
 .cases v<;>first|(cases ho;done)|skip
  cases hx<;>first|exact SR.stuck|exact SR.pure (.int _ _)|exact SR.unsupported
 .cases v<;>first|(cases ho;done)|skip
  .cases hx<;>first|exact SR.stuck|exact SR.unsupported|exact SR.pure (.string _)
  .rename_i e;cases hx<;>first|exact SR.stuck|exact SR.unsupported|skip
   refine SR.cq fun w hw=>?_;simp only[hw]at ho;cases w<;>first|(cases ho;done)|skip
   rename_i k;cases k<;>first|(cases ho;done)|exact SR.stringToBytes _ _
 .cases v<;>first|(cases ho;done)|skip
  rename_i e
  have rest:∀{y y':Value},VR S p y y'->SR P F S K N (QV S) (Go.underlying e>>=fun w=>match w with|.int .u8=>Conv.bytesToString y|.int .i32=>Conv.runesToString y|_=>Go.stuck "Convert: a slice of what to string?")
   (Go.underlying e>>=fun w=>match w with|.int .u8=>Conv.bytesToString y'|.int .i32=>Conv.runesToString y'|_=>Go.stuck "Convert: a slice of what to string?") p:=fun{y y'} hy=>by
   refine SR.cq fun w hw=>?_;simp only[hw]at ho;cases w<;>first|(cases ho;done)|skip
   rename_i k;cases k<;>first|(cases ho;done)|exact SR.bytesToString hy
  have qa:=hx;cases hx<;>first|exact rest qa|exact SR.pure (.string _)|skip
  .rename_i _ hj hv;cases x'<;>first|(cases hv;done)|exact rest qa
inductive NX (S:Nat->Bool) (K:Kz) (p:Pi):Next->Next->Prop
 |value {v v':Value} (h:VR S p v v'):NX S K p (.value v) (.value v')
 |skip:NX S K p .skip .skip
 |enter {f:Nat} {xs cB:Array Value} (hf:S f=true) (h:AR S p xs cB):NX S K p (.enter f xs) (.enter f cB)
 |round {l l' f:Nat} {xs cB:Array Value} {a b:Code} (hl:p l l') (hf:S f=true) (h:AR S p xs cB) (ha:K a) (hb:K b) (hz:K (.label (100000+f))):NX S K p (.round l f xs a b) (.round l' f cB a b)
abbrev QX (S:Nat->Bool) (K:Kz):Pi->Next->Next->Prop:=fun q a b=>NX S K q a b
def nV (P:Program) (F:Array Func) (S:Nat->Bool):Prop:=(S JK=true->P.info? 1000000=none)/\∀f,S f=true->(P.funcs[f]?=none/\F[f]?=none)\/
 ∃fn j8,P.funcs[f]? =some fn/\F[f]? =some j8/\fn.body.isSome=true/\j8.body.isSome=true/\fn.name≠ "runtime.NumGoroutine" /\j8.name≠ "runtime.NumGoroutine"
theorem tu (h:P.info? 1000000=none):ar P (Go.typeInfo 1000000):=by
 unfold Go.typeInfo;refine ar.PX (k:=fun P=>match P.info? 1000000 with|some i=>Pure.pure i|none=>Go.stuck "no such type") ?_;rw[h];exact ar.stuck _
theorem sG (n:String) (h:ys[0]?=some v):invoke (.fn (.method n) #[]) ys=callMethod v n (ys.extract 1 ys.size):=by
 show(match ys[0]? with|some recv=>callMethod recv n (ys.extract 1)|_=>Go.stuck "call: a method without a receiver")=_;rw[h]
theorem tv (xs:Array Value):(Deferred.ofValue MF xs>>=fun d=>invoke d.target d.args)=callMethod (.iface 1000000 .nilIface) "" ((#[Value.iface 1000000 .nilIface]++xs).extract 1 (#[Value.iface 1000000 .nilIface]++xs).size):=by
 show invoke (.fn (.method "") #[]) (#[.iface 1000000 .nilIface]++xs)=_;exact sG (v:=.iface 1000000 .nilIface) "" (by simp[Array.getElem?_append])
theorem IW (h:P.info? 1000000=none) (xs:Array Value):ar P (Deferred.ofValue MF xs>>=fun d=>invoke d.target d.args):=by
 rw[tv];unfold callMethod;refine ar.PX (k:=fun P=>Sem.bind (method (P.types.size+Made.depth) 1000000 .nilIface "") _) ?_;refine ar.bind ?_ _;show ar P (method ((P.types.size+99)+1) 1000000 .nilIface "");unfold method;exact ar.bind (tu h) _
theorem MA (h:P.info? 1000000=none) (f:Option Bool->Sem α):ar P (Go.program>>=fun q=>nilAhead (q.types.size+Made.depth) 1000000 .nilIface "" >>=f):=by
 refine ar.PX (k:=fun P=>Sem.bind (nilAhead (P.types.size+Made.depth) 1000000 .nilIface "") _) ?_;refine ar.bind ?_ _;show ar P (nilAhead ((P.types.size+99)+1) 1000000 .nilIface "");unfold nilAhead;exact ar.bind (tu h) _
theorem SR.callFunc (hb:nV P F S) {f:Nat} (hf:S f=true) (h:AR S p xs cB):SR P F S K N (QX S K) (Go.callFunc f xs) (Go.callFunc f cB) p:=by
 unfold Go.callFunc;refine SR.mF ?_
 have key:∀fn:Func,fn.body.isSome=true->fn.name≠ "runtime.NumGoroutine" ->fn.body.isNone=false/\(fn.name== "runtime.NumGoroutine")=false:=fun fn h2 h3=>
  ⟨by cases hx:fn.body<;>simp[hx]at h2⊢,by simpa using h3⟩
 rcases hb.2 f hf with⟨h1,h2⟩|⟨fn,j8,h1,h2,h3,h4,h5,h6⟩
 .rw[h1];exact SR.stuck
 .have qC:(ag P F).funcs[f]?=some j8:=h2;rw[h1,qC];simp only[key fn h3 h5,key j8 h4 h6,Bool.false_eq_true,if_false];exact SR.pure (.enter hf h)
theorem IX (ps:Array Nat) {as bs:Array Value} (h:AR S p xs ys) (k:AR S p as bs):AR S p ((ps.zip xs).foldl (fun ts (t,a)=>ts.setIfInBounds t a) as) ((ps.zip ys).foldl (fun ts (t,a)=>ts.setIfInBounds t a) bs):=by
 rw[<-Array.foldl_toList,<-Array.foldl_toList,Array.toList_zip,Array.toList_zip];have hx:∀(i:Nat) v v',xs.toList[i]?=some v->ys.toList[i]?=some v'->VR S p v v':=fun i v v' a b=>h.2 i v v' (by simpa using a) (by simpa using b);have hl:xs.toList.length=ys.toList.length:=by simpa using h.1
 revert hx hl;generalize xs.toList=l;generalize ys.toList=l';generalize ps.toList=m;intro hx hl;clear h;induction m generalizing l l' as bs with
 |nil=>exact k
 |cons t m ih=>
  cases l<;>cases l'<;>first|(cases hl;done)|skip
  .exact k
  .rename_i v l v' l';simp only[List.zip_cons_cons,List.foldl_cons];exact ih (k.set t (hx 0 v v' rfl rfl)) l l' (fun i a b h1 h2=>hx (i+1) a b h1 h2) (by simpa using hl)
theorem SR.yield {l':Nat} (hl:p l l') (h:AR S p xs cB):SR P F S K N (QX S K) (Instr.yield l xs) (Instr.yield l' cB) p:=by
 unfold Instr.yield Instr.getLoop;refine SR.bind (Q:=fun q (a b:Loop)=>OR S K q (.loop a) (.loop b)) ?_ fun q r r' hq hr=>?_
 .refine(SR.getObj hl).bind fun q o o' hq ho=>?_;have U5:=ho;cases ho with
  |loop h1 h2 h3 h4 h5 h6 h7 h8 k1 k2 k3 k4 k5=>exact SR.pure U5
  |_=>exact SR.stuck
 .cases hr with
  |loop h1 h2 h3 h4 h5 h6 h7 h8 k1 k2 k3 k4 k5=>
   have h:=h.mono hq;rw[<-h.1,<-h5,<-h3,<-h6,<-h7];dsimp only;refine SR.ite (fun _=>SR.stuck) fun _=>?_;exact SR.pure (.round (hq _ _ hl) k1 (IX r.params h h4) k2 k3 k5)
def fX (P:Program) (S:Nat->Bool):Operand->Bool
 |.tmp _=>true
 |.const v=>plain 50 v
 |.global g=>decide (g<P.globals.size)&&S (P.funcs.size+g)
 |.func f=>S f
def qE (P:Program) (S:Nat->Bool) (c:Call):Bool:=
 match c.callee with
 |.builtin .append=>tq P c.argTypes
 |.builtin .len=>EH P c.argTypes
 |.builtin .copy|.builtin .clear|.builtin .max|.builtin .min=>true
 |.value f=>fX P S f
 |_=>false
def mK (P:Program) (S:Nat->Bool) (o:Op):Bool:=
 o.operands.all (fX P S)&&match o with
 |.nilCheck _|.move _|.assign _|.pick _ _ _|.alloc _|.box _ _|.build _ _|.buildSlice _ _ _|.load _ _|.store _ _ _|.unOp _ _ _|.makeSlice _ _ _|.slice _ _ _ _ _|.field _ _ _|.indexAddr _ _ _|.index _ _ _|.extract _ _=>true
 |.makeMap _ none=>true
 |.binOp op t _ _ _=>lz P op t
 |.convert s d _=>nU P s d
 |.makeFunc (.func f) _ _=>S f
 |.fieldAddr t _ f=>match P.underlying t with
  |some (.struct fs)=>(match fs[f]? with|some g=>(match P.info? g.type with|some i=>i.size !=0|none=>true)|none=>true)
  |_=>true
 |.lookup t _ _ _=>tp P t&&(!S JK||ip P t)
 |.mapUpdate t _ _ _=>tp P t&&(!S JK||ip P t)
 |.call c=>qE P S c
 |_=>false
def fh (S:Nat->Bool) (o:Op):Bool:=
 match o with
 |.call c=>(match c.callee with|.value (.func f)=>S (JK+1+f)|_=>false)&&c.args.isEmpty
 |_=>false
def nW:Value->Bool
 |.slice (some a) _ _=>a.spot.isNone
 |_=>true
theorem tw (h:nW v=true) (e:v=.slice (some a) l c):a.spot=none:=by
 subst e;simpa [nW]using h
def jN (r:Operand->Value):Op->Bool
 |.call ⟨.builtin _,as,_⟩=>match as[0]? with|some x=>nW (r x)|none=>true
 |.slice _ x _ _ _=>nW (r x)
 |_=>true
def K8:Op->Bool
 |.slice _ _ _ _ _=>false
 |_=>true
structure pK (P:Program) (S:Nat->Bool) (p:Pi) (r r':Operand->Value):Prop where
 tmp:∀t,VR S p (r (.tmp t)) (r' (.tmp t))
 const:∀v,r (.const v)=v/\r' (.const v)=v
 global:∀g,g<P.globals.size->S (P.funcs.size+g)=true->VR S p (r (.global g)) (r' (.global g))
 func:∀f,r (.func f)=.func (.func f) #[] #[]/\r' (.func f)=.func (.func f) #[] #[]
theorem pK.at (h:pK P S p r r') {x:Operand} (hx:fX P S x=true):VR S p (r x) (r' x):=by
 cases x with
 |tmp t=>exact h.tmp t
 |const v=>rw[(h.const v).1,(h.const v).2];exact VR.plain 50 v hx
 |global g=>
  simp only[fX,Bool.and_eq_true,decide_eq_true_eq]at hx;exact h.global g hx.1 hx.2
 |func f=>
  rw[(h.func f).1,(h.func f).2];exact .func hx rfl rfl (fun i v v' e=>by simp at e) (fun i v v' e=>by simp at e)
theorem pK.many (h:pK P S p r r') {xs:Array Operand} (hx:∀x∈xs,fX P S x=true):AR S p (xs.map r) (xs.map r'):=AR.map xs r r' fun x m=>h.at (hx x m)
theorem pK.opt (h:pK P S p r r') {x:Option Operand} (hx:∀y,x=some y->fX P S y=true):OV S p (x.map r) (x.map r'):=by
 cases x with
 |none=>trivial
 |some y=>exact h.at (hx y rfl)
theorem SR.cr {s s':Sem Value} (h:SR P F S K N (QV S) s s' p):SR P F S K N (QX S K) (s>>=fun v=>Pure.pure (.value v)) (s'>>=fun v=>Pure.pure (.value v)) p:=h.bind fun q v v' hq hv=>SR.pure (.value hv)
theorem SR.EK {s s':Sem Unit} (h:SR P F S K N (QE Unit) s s' p):SR P F S K N (QX S K) (s>>=fun _=>Pure.pure .skip) (s'>>=fun _=>Pure.pure .skip) p:=h.av fun q v hq=>SR.pure .skip
theorem SR.kh (hb:nV P F S) {f f':Value} (hf:VR S p f f') (h:AR S p xs cB):
 SR P F S K N (QX S K) (Deferred.ofValue f xs>>=fun d=>invoke d.target d.args) (Deferred.ofValue f' cB>>=fun d=>invoke d.target d.args) p:=by
 cases hf<;>first|exact SR.stuck|skip
 .rename_i f fs U6 cs jn hS h1 h2 g1 g2;have a1:AR S p fs U6:=⟨h1,g1⟩
  have a2:AR S p cs jn:=⟨h2,g2⟩
  exact SR.callFunc hb hS ((a1.append h).append a2)
 .rename_i l l' hl;show SR P F S K N (QX S K) (Instr.yield l (#[]++xs)) (Instr.yield l' (#[]++cB)) p;rw[Array.empty_append,Array.empty_append];exact SR.yield hl h
 .exact SR.nilDeref
 .rename_i hl hj n as bs;exact SR.iJ (.inr ⟨hl,IW (hb.1 hj) xs⟩) (by rw[tv];rfl)
end
section
variable {P:Program} {F:Array Func} {S:Nat->Bool} {K:Kz} {N:Nat} {p:Pi}
theorem SR.mono {Q Q':Pi->α->β->Prop} {s:Sem α} {s':Sem β} (g:∀q a b,Le p q->Q q a b->Q' q a b) (h:SR P F S K N Q s s' p):SR P F S K N Q' s s' p:=by
 have:=h.bind (f:=Pure.pure) (f':=Pure.pure) fun q a b hq x=>SR.pure (g q a b hq x);simpa using this
theorem SR.Bm (Bh:p.l=true->S 999999=false) (h:pK P S p r r') (o:Oper) {x:Operand} {lo hi mx:Option Operand} (ho:o.op=.slice t x lo hi mx) (bI:∀y∈o.op.operands,fX P S y=true) (hE:p.l=true->nW (r x)=true):
 SR P F S K N (fun q n n'=>QX S K q n n'\/(p.l=true/\mx=none/\∃v v',n=.value v/\n'=.value v'/\IE q (r x) v v')) (Go.execOp r o) (Go.execOp r' o) p:=by
 unfold Go.execOp;obtain⟨dst,op,ty,pos,af,gd⟩:=o;simp only at ho bI⊢;subst ho;simp only
 have key:SR P F S K N (fun q v v'=>VR S q v v'\/(p.l=true/\mx.map r=none/\IE q (r x) v v')) (Instr.sliceAt t (r x) (lo.map r) (hi.map r) (mx.map r)) (Instr.sliceAt t (r' x) (lo.map r') (hi.map r') (mx.map r')) p:=by
  have hx:=h.at (bI x (by simp[Op.operands]))
  have h1:OV S p (lo.map r) (lo.map r'):=h.opt fun y hy=>bI y (by simp[Op.operands,hy]);have h2:OV S p (hi.map r) (hi.map r'):=h.opt fun y hy=>bI y (by simp[Op.operands,hy]);have h3:OV S p (mx.map r) (mx.map r'):=h.opt fun y hy=>bI y (by simp[Op.operands,hy]);unfold Instr.sliceAt;refine SR.cq fun u hu=>?_;cases u with
  |array n e=>
   refine(SR.sureAddr hx).bind fun q a a' hq ha=>?_;refine(SR.sliceBounds false n n (h1.mono hq) (h2.mono hq) (h3.mono hq)).av fun q2 b bR=>?_;obtain⟨l,hh,m⟩:=b;simp only;refine(SR.sizeOf e).av fun q3 s fQ=>?_;have ha:=(ha.mono bR).mono fQ;refine SR.ok fun ho=>?_;have im:=fun r=>UV (fun x=>Bh (((hq.trans bR).trans fQ).l.symm.trans x)) ho r;split
   .exact SR.pure (.inl (ha.sl (im _) _ _))
   .exact SR.pure (.inl ((ha.add _).sl (im _) _ _))
  |_=>exact SR.slice Bh t hx (fun hl b l c e=>tw (hE hl) e) h1 h2 h3
 exact key.bind fun q v v' hq hv=>SR.pure (hv.elim (fun a=>.inl (.value a)) fun a=>.inr ⟨a.1,by cases mx<;>simp_all,v,v',rfl,rfl,a.2.2⟩)
theorem SR.execOp (zp:p.l=true->S JK=false) (hz:aV P) (hc:aF P) (hb:nV P F S) (h:pK P S p r r') (o:Oper) (ho:mK P S o.op=true) (hs:p.l=true->K8 o.op=true) (hE:p.l=true->jN r o.op=true):SR P F S K N (QX S K) (Go.execOp r o) (Go.execOp r' o) p:=by
 unfold Go.execOp;obtain⟨dst,op,ty,pos,af,gd⟩:=o;simp only at ho⊢;unfold mK at ho;simp only[Bool.and_eq_true]at ho;obtain⟨qF,bD⟩:=ho
 have bI:∀x∈op.operands,fX P S x=true:=by
  intro x hx;obtain⟨i,hi,he⟩:=Array.mem_iff_getElem.1 hx;have:=Array.all_eq_true.1 qF i hi;rw[he]at this;exact this
 cases op<;>try(simp only[Bool.false_eq_true]at bD)
 case move x=>exact SR.pure (.value (h.at (bI x (by simp[Op.operands]))))
 case assign x=>exact SR.pure (.value (h.at (bI x (by simp[Op.operands]))))
 case pick c a b=>
  refine(SR.asBool (h.at (bI c (by simp[Op.operands])))).av fun q t hq=>?_;cases t with
  |true=>exact SR.pure (.value ((h.at (bI a (by simp[Op.operands]))).mono hq))
  |false=>exact SR.pure (.value ((h.at (bI b (by simp[Op.operands]))).mono hq))
 case alloc e=>exact SR.cr (SR.alloc hz e)
 case box e x=>exact SR.cr (SR.box e (h.at (bI x (by simp[Op.operands]))))
 case build t ps=>
  refine SR.cr (SR.build hz t ?_);rw[Array.toList_map,Array.toList_map];refine PL.map _ r r' fun x hx=>h.at (bI x.2 ?_)
  simp only[Op.operands,List.mem_toArray,List.mem_map];exact⟨x,hx,rfl⟩
 case buildSlice t n ps=>
  refine SR.cr (SR.buildSlice hz t n ?_);rw[Array.toList_map,Array.toList_map];refine PL.map _ r r' fun x hx=>h.at (bI x.2 ?_)
  simp only[Op.operands,List.mem_toArray,List.mem_map];exact⟨x,hx,rfl⟩
 case load t a=>exact SR.cr (SR.loadAt t (h.at (bI a (by simp[Op.operands]))))
 case store t a x=>exact SR.EK (SR.storeAt t (h.at (bI a (by simp[Op.operands]))) (h.at (bI x (by simp[Op.operands]))))
 case nilCheck x=>
  have hx:=h.at (bI x (by simp[Op.operands]))
  dsimp only;revert hx;generalize r x=v;generalize r' x=v';intro hx;have qa:=hx;cases hx with
  |sy=>exact SR.nilDeref
  |nilIface=>exact SR.nilDeref
  |nilFunc=>exact SR.nilDeref
  |zi hl hj n xs ys=>exact SR.iJ (.inr ⟨hl,MA (hb.1 hj) _⟩) rfl
  |nO hl hj hv=>
   cases v'<;>first|(cases hv;done)|exact SR.pure (Q:=QX S K) (NX.value qa)|skip
   .rename_i a;cases a<;>first|(cases hv;done)|exact SR.pure (Q:=QX S K) (NX.value qa)
   .rename_i f xs ys;cases f<;>first|(cases hv;done)|exact SR.pure (Q:=QX S K) (NX.value qa)
  |_=>exact SR.pure (Q:=QX S K) (NX.value qa)
 case binOp op t x y t2=>
  have hx:=h.at (bI x (by simp[Op.operands]))
  have hy:=h.at (bI y (by simp[Op.operands]))
  by_cases hj:p.l=false/\(op=.eql\/op=.neq)/\(r x=.tuple #[]\/r y=.tuple #[])
  ·
   obtain⟨hl,hj⟩:=hj
   have hd:ar P (Go.eqGuard op t x y (r x) (r y)>>=fun _=>Go.binOp op t (r x) (r y))/\us (Go.eqGuard op t x y (r x) (r y)>>=fun _=>Go.binOp op t (r x) (r y))=true:=by
    have Zi:eD (r x) (r y)=false:=by rcases hj.2 with e|e<;>rw[e]<;>cases r x<;>cases r y<;>rfl
    have hg:Go.eqGuard op t x y (r x) (r y)=Pure.pure ():=by
     rcases hj.1 with rfl|rfl
     .rw[nQ];rcases hj.2 with e|e<;>rw[e]<;>cases r x<;>cases r y<;>rfl
     .rw[nR];rcases hj.2 with e|e<;>rw[e]<;>cases r x<;>cases r y<;>rfl
    rw[hg];show ar P (Go.binOp op t (r x) (r y))/\us (Go.binOp op t (r x) (r y))=true;rcases hj.1 with rfl|rfl
    .simp only[lz,Bool.and_eq_true]at bD;rw[au.qb t Zi hj.2];exact⟨ar.bind (jr bD.1 hj.2) _,gT _⟩
    .simp only[lz,Bool.and_eq_true]at bD;rw[au.qc t Zi hj.2];exact⟨ar.bind (jr bD.1 hj.2) _,gT _⟩
   exact SR.cr (SR.iJ (.inr ⟨hl,hd.1⟩) hd.2)
  .refine SR.cr ((SR.eqGuard op t bD x y hx hy fun h1 h2=>hj ⟨h1,h2⟩).av fun q _ hq=>SR.binOp hc op t bD (hx.mono hq) (hy.mono hq))
 case unOp op t x=>exact SR.cr (SR.unary op (h.at (bI x (by simp[Op.operands]))))
 case convert s d x=>exact SR.cr (SR.convert s d bD (h.at (bI x (by simp[Op.operands]))))
 case makeFunc fn fs cs=>
  cases fn<;>simp only[Bool.false_eq_true]at bD;rename_i f;have h1:AR S p (fs.map r) (fs.map r'):=h.many fun x hx=>bI x (by simp[Op.operands,hx]);have h2:AR S p (cs.map r) (cs.map r'):=h.many fun x hx=>bI x (by simp[Op.operands,hx]);exact SR.pure (.value (.func bD h1.1 h2.1 h1.2 h2.2))
 case makeMap t rs=>
  cases rs<;>simp only[Bool.false_eq_true]at bD;exact SR.cr (SR.makeMap t)
 case makeSlice t l c=>exact SR.cr (SR.makeSlice hz t (h.at (bI l (by simp[Op.operands]))) (h.at (bI c (by simp[Op.operands]))))
 case slice t x lo hi mx=>
  have hl:p.l=true->False:=fun h=>by have:=hs h;cases this
  exact SR.mono (fun q n n' _ h=>h.elim id fun h=>(hl h.1).elim) (SR.Bm (fun h=>(hl h).elim) h ⟨dst,.slice t x lo hi mx,ty,pos,af,gd⟩ rfl bI fun h=>(hl h).elim)
 case fieldAddr t x f=>
  refine SR.cr (SR.fieldAt t f ?_ (h.at (bI x (by simp[Op.operands]))));intro fs g i hu hg hi;simp only[hu,hg,hi]at bD;simpa using bD
 case field t x f=>exact SR.cr (SR.field t f (h.at (bI x (by simp[Op.operands]))))
 case indexAddr t x i=>exact SR.cr (SR.indexAt t (h.at (bI x (by simp[Op.operands]))) (h.at (bI i (by simp[Op.operands]))))
 case index t x i=>exact SR.cr (SR.index t (h.at (bI x (by simp[Op.operands]))) (h.at (bI i (by simp[Op.operands]))))
 case lookup t x i ok=>
  simp only[Bool.and_eq_true,Bool.or_eq_true,Bool.not_eq_true']at bD;have hJ:S JK=true->ip P t=true:=fun h=>bD.2.elim (fun h2=>absurd (h.symm.trans h2) (by decide)) id;exact SR.cr (SR.lookup zp hz hc t hJ bD.1 ok (h.at (bI x (by simp[Op.operands]))) (h.at (bI i (by simp[Op.operands]))))
 case mapUpdate t m k x=>
  simp only[Bool.and_eq_true,Bool.or_eq_true,Bool.not_eq_true']at bD;have hJ:S JK=true->ip P t=true:=fun h=>bD.2.elim (fun h2=>absurd (h.symm.trans h2) (by decide)) id;exact SR.EK (SR.mapUpdate zp hc t hJ bD.1 (h.at (bI m (by simp[Op.operands]))) (h.at (bI k (by simp[Op.operands]))) (h.at (bI x (by simp[Op.operands]))))
 case extract x i=>exact SR.cr (SR.extract (h.at (bI x (by simp[Op.operands]))) i)
 case call c=>
  obtain⟨cl,as,ts⟩:=c;have ha:AR S p (as.map r) (as.map r'):=h.many fun x hx=>bI x (by simp[Op.operands,Call.operands,hx]);unfold qE at bD;cases cl<;>simp only[Bool.false_eq_true]at bD;case value f=>exact SR.kh hb (h.at bD) ha
  case builtin b=>
   have hE2:p.l=true->∀a l c,(as.map r)[0]?=some (.slice (some a) l c)->a.spot=none:=by
    intro hl a l c e;have hE:=hE hl;rw[Array.getElem?_map]at e;cases h0:as[0]? with
    |none=>rw[h0]at e;cases e
    |some x=>
     rw[h0]at e;simp only[Option.map_some,Option.some.injEq]at e;simp only[jN,h0]at hE;exact tw hE e
   cases b<;>simp only[Bool.false_eq_true]at bD;case append=>exact SR.cr (SR.append hz ts bD ty ha hE2)
   case len=>exact SR.cr (SR.len ts bD ty ha)
   case copy=>exact SR.cr (SR.copy ts ty ha)
   case clear=>exact SR.cr (SR.clear hz ts ty ha)
   case max=>exact SR.cr (SR.max ts ty ha)
   case min=>exact SR.cr (SR.min ts ty ha)
end
def codeOk (P:Program) (S:Nat->Bool):Code->Bool
 |.region _ ops _=>ops.all fun o=>mK P S o.op||fh S o.op
 |.seq a b=>codeOk P S a&&codeOk P S b
 |.cond c a b=>fX P S c&&codeOk P S a&&codeOk P S b
 |.block _ c|.loop c|.scope c=>codeOk P S c
 |.rangeFunc f _ a b=>fX P S f&&codeOk P S a&&codeOk P S b
 |.label n=>decide (n<100000)||!S (P.funcs.size+P.globals.size+1+(n-100000))
 |_=>true
def cD:Code->Bool
 |.seq a b=>cD a&&cD b
 |.cond _ a b=>cD a&&cD b
 |.block _ c|.loop c|.scope c=>cD c
 |.rangeFunc ..=>false
 |_=>true
abbrev KS (P:Program) (S:Nat->Bool):Kz:=⟨fun c=>codeOk P S c=true,fun _ _=>True⟩
inductive CR (P:Program) (S:Nat->Bool) (H:Code->Code->Prop):Code->Code->Prop
 |same {c:Code} (h:codeOk P S c=true) (hr:cD c=true\/∀a b,¬H a b):CR P S H c c
 |hole {c c':Code} (h:H c c'):CR P S H c c'
 |seq {a a' b b':Code} (ha:CR P S H a a') (hb:CR P S H b b'):CR P S H (.seq a b) (.seq a' b')
 |cond {c:Operand} {a a' b b':Code} (hc:fX P S c=true) (ha:CR P S H a a') (hb:CR P S H b b'):CR P S H (.cond c a b) (.cond c a' b')
 |block (i:Nat) {a a':Code} (ha:CR P S H a a'):CR P S H (.block i a) (.block i a')
 |loop {a a':Code} (ha:CR P S H a a'):CR P S H (.loop a) (.loop a')
 |refuse (w:String) (c':Code) (hr:∀a b,¬H a b):CR P S H (.refuse w) c'
structure Closed (P:Program) (F:Array Func) (S:Nat->Bool) (H:FuncId->Code->Code->Prop):Prop where
 gF:aV P
 dm:aF P
 P0:S JK=true->P.info? 1000000=none
 size:F.size=P.funcs.size
 tx:∀f,S f=true->((∀a b,¬H f a b)↔S (P.funcs.size+P.globals.size+1+f)=false)
 body:∀f,S f=true->(P.funcs[f]?=none/\F[f]?=none)\/∃fn j8 c c',P.funcs[f]?=some fn/\F[f]?=some j8/\fn.body=some c/\j8.body=some c'/\CR P S (H f) c c'/\
  fn.name≠ "runtime.NumGoroutine" /\j8.name≠ "runtime.NumGoroutine" /\fn.ntmps=j8.ntmps/\fn.results=j8.results
theorem Closed.lP {P:Program} {F:Array Func} {S:Nat->Bool} {H:FuncId->Code->Code->Prop} (h:Closed P F S H):nV P F S:=⟨h.P0,fun f hf=>
 (h.body f hf).imp id fun⟨fn,j8,c,c',h1,h2,h3,h4,_,h5,h6,_⟩=>⟨fn,j8,h1,h2,by rw[h3];rfl,by rw[h4];rfl,h5,h6⟩⟩
def gU (P:Program) (S:Nat->Bool) (p:Pi):Prop:=∀g,g<P.globals.size->S (P.funcs.size+g)=true->p g g
theorem gU.mono {P:Program} {S:Nat->Bool} {p q:Pi} (h:gU P S p) (k:Le p q):gU P S q:=fun g a b=>k _ _ (h g a b)
section
variable (P:Program) (S:Nat->Bool) (H:Code->Code->Prop) (p:Pi)
inductive IR:Item->Item->Prop
 |code {c c':Code} (h:CR P S H c c'):IR (.code c) (.code c')
 |inBlock (i:Nat):IR (.inBlock i) (.inBlock i)
 |inLoop {c c':Code} (h:CR P S H c c'):IR (.inLoop c) (.inLoop c')
 |inScope {c:Code} (h:codeOk P S c=true) (hr:cD c=true\/∀a b,¬H a b):IR (.inScope c) (.inScope c)
 |inRegion {ops:Array Oper} (l:List Nat) (h:∀o∈ops,(mK P S o.op||fh S o.op)=true):IR (.inRegion ops l) (.inRegion ops l)
 |mL {l l':Nat} (h:p l l') (hr:∀a b,¬H a b):IR (.inRangeFunc l) (.inRangeFunc l')
 |iX {l l':Nat} (h:p l l') (hr:∀a b,¬H a b):IR (.endRangeFunc l) (.endRangeFunc l')
 |begin:IR .beginRound .beginRound
inductive TL:List Item->List Item->Prop
 |nil:TL [] []
 |cons {i i':Item} {l l':List Item} (h:IR P S H p i i') (t:TL l l'):TL (i::l) (i'::l')
inductive DL:List Deferred->List Deferred->Prop
 |nil:DL [] []
 |cons {r r':Nat} {l l':List Deferred} (h:p r r') (t:DL l l'):DL ({target:=.collected r,args:=#[]}::l) ({target:=.collected r',args:=#[]}::l')
inductive CL:List PanicEntry->List PanicEntry->Prop
 |nil:CL [] []
 |cons {v v':Value} (b c:Bool) {l l':List PanicEntry} (h:VR S p v v') (t:CL l l'):CL (⟨v,b,c⟩::l) (⟨v',b,c⟩::l')
inductive MR:FrameMode->FrameMode->Prop
 |run:MR .run .run
 |returning:MR .returning .returning
 |panicking {l l':List PanicEntry} (h:CL S p l l'):MR (.panicking l) (.panicking l')
inductive RR:Option Nat->Option Nat->Prop
 |none:RR .none .none
 |some {l l':Nat} (h:p l l'):RR (.some l) (.some l')
end
section
variable (P:Program) (S:Nat->Bool) (H:FuncId->Code->Code->Prop) (p:Pi)
structure jX (f f':Frame):Prop where
 fn:f.fn=f'.fn
 K9:S f.fn=true
 tmps:AR S p f.tmps f'.tmps
 todo:TL P S (H f.fn) p f.todo f'.todo
 defers:DL p f.defers f'.defers
 mode:MR S p f.mode f'.mode
 kind:f.kind=.normal
 jO:f'.kind=.normal
 round:RR p f.roundOf f'.roundOf
 tx:f.roundOf=none\/∀a b,¬H f.fn a b
 nd:(f.defers=[]/\f'.defers=[])\/∀a b,¬H f.fn a b
 wide:(∀a b,¬H f.fn a b)\/∀fn,P.funcs[f.fn]?=some fn->fn.ntmps<=f.tmps.size
inductive FL:List Frame->List Frame->Prop
 |one {f f':Frame} (h:jX P S H p f f') (r:f.roundOf=.none/\∀c c',¬H f.fn c c'):FL [f] [f']
 |cons {f f':Frame} {l l':List Frame} (h:jX P S H p f f') (t:FL l l'):FL (f::l) (f'::l')
end
section
variable {P:Program} {F:Array Func} {S:Nat->Bool} {H:Code->Code->Prop} {p q:Pi}
theorem IR.mono (h:Le p q) {i i':Item} (x:IR P S H p i i'):IR P S H q i i':=by
 cases x with
 |code h=>exact .code h
 |inBlock i=>exact .inBlock i
 |inLoop h=>exact .inLoop h
 |inScope h hr=>exact .inScope h hr
 |inRegion l h=>exact .inRegion l h
 |mL g hr=>exact .mL (h _ _ g) hr
 |iX g hr=>exact .iX (h _ _ g) hr
 |begin=>exact .begin
theorem TL.mono (h:Le p q) {l:List Item} (x:TL P S H p l l'):TL P S H q l l':=by
 induction x with
 |nil=>exact .nil
 |cons g _ ih=>exact .cons (g.mono h) ih
theorem DL.mono (h:Le p q) {l l':List Deferred} (x:DL p l l'):DL q l l':=by
 induction x with
 |nil=>exact .nil
 |cons g _ ih=>exact .cons (h _ _ g) ih
theorem CL.mono (h:Le p q) {l l':List PanicEntry} (x:CL S p l l'):CL S q l l':=by
 induction x with
 |nil=>exact .nil
 |cons b c g _ ih=>exact .cons b c (g.mono h) ih
theorem MR.mono (h:Le p q) {l l':FrameMode} (x:MR S p l l'):MR S q l l':=by
 cases x with
 |run=>exact .run
 |returning=>exact .returning
 |panicking g=>exact .panicking (g.mono h)
theorem RR.mono (h:Le p q) {l l':Option Nat} (x:RR p l l'):RR q l l':=by
 cases x with
 |none=>exact .none
 |some g=>exact .some (h _ _ g)
end
section
variable {P:Program} {F:Array Func} {S:Nat->Bool} {H:FuncId->Code->Code->Prop} {p q:Pi}
theorem jX.mono (h:Le p q) (x:jX P S H p f f'):jX P S H q f f':=
 ⟨x.fn,x.K9,x.tmps.mono h,x.todo.mono h,x.defers.mono h,x.mode.mono h,x.kind,x.jO,x.round.mono h,x.tx,x.nd,x.wide⟩
theorem FL.mono (h:Le p q) {l l':List Frame} (x:FL P S H p l l'):FL P S H q l l':=by
 induction x with
 |one g r=>exact .one (g.mono h) r
 |cons g _ ih=>exact .cons (g.mono h) ih
theorem VR.undef:VR S p Go.undef Go.undef:=VR.plain 2 _ (by simp[au.plain,Go.undef])
theorem jX.eval (h:jX P S H p f f') (hg:gU P S p):pK P S p f.eval f'.eval where
 tmp t:=h.tmps.getD t VR.undef
 const v:=⟨rfl,rfl⟩
 global g hl hs:=.ptr 0 none (hg g hl hs)
 func f:=⟨rfl,rfl⟩
theorem jX.zr (h:jX P S H p f f') {l:List Item} (hl:TL P S (H f.fn) p l l'):jX P S H p {f with todo:=l} {f' with todo:=l'}:=
 ⟨h.fn,h.K9,h.tmps,hl,h.defers,h.mode,h.kind,h.jO,h.round,h.tx,h.nd,h.wide⟩
theorem jX.finish (h:jX P S H p f f') (hv:VR S p v v'):jX P S H p (f.finish v) (f'.finish v'):=by
 obtain⟨fn,tmps,todo,defers,mode,kind,ro⟩:=f;obtain⟨j8,qG,P1,IY,P2,jO,ro'⟩:=f';obtain⟨h1,h2,h3,h4,h5,h6,h7,h8,h9,sr,qd,wI⟩:=h;simp only at h1 h2 h3 h4 h5 h6 h7 h8 h9 sr qd wI;subst h1;cases h4 with
 |nil=>exact⟨rfl,h2,h3,.nil,h5,h6,h7,h8,h9,sr,qd,wI⟩
 |cons hi ht=>
  cases hi with
  |inRegion l ho=>
   cases l with
   |nil=>exact⟨rfl,h2,h3,.cons (.inRegion _ ho) ht,h5,h6,h7,h8,h9,sr,qd,wI⟩
   |cons i rest=>
    refine⟨rfl,h2,?_,.cons (.inRegion _ ho) ht,h5,h6,h7,h8,h9,sr,qd,wI.imp id fun h fn hf=>?_⟩
    .simp only[Frame.finish];split
     .exact h3.set _ hv
     .exact h3
    .simp only[Frame.finish];split
     .rw[Array.size_setIfInBounds];exact h fn hf
     .exact h fn hf
  |mL g hr=>exact⟨rfl,h2,h3,.cons (.iX g hr) ht,h5,h6,h7,h8,h9,sr,qd,wI⟩
  |begin=>exact⟨rfl,h2,h3,ht,h5,h6,h7,h8,h9,sr,qd,wI⟩
  |code g=>exact⟨rfl,h2,h3,.cons (.code g) ht,h5,h6,h7,h8,h9,sr,qd,wI⟩
  |inBlock i=>exact⟨rfl,h2,h3,.cons (.inBlock i) ht,h5,h6,h7,h8,h9,sr,qd,wI⟩
  |inLoop g=>exact⟨rfl,h2,h3,.cons (.inLoop g) ht,h5,h6,h7,h8,h9,sr,qd,wI⟩
  |inScope g hr=>exact⟨rfl,h2,h3,.cons (.inScope g hr) ht,h5,h6,h7,h8,h9,sr,qd,wI⟩
  |iX g hr=>exact⟨rfl,h2,h3,.cons (.iX g hr) ht,h5,h6,h7,h8,h9,sr,qd,wI⟩
theorem CL.append {l l' m m':List PanicEntry} (h:CL S p l l') (k:CL S p m m'):CL S p (l++m) (l'++m'):=by
 induction h with
 |nil=>exact k
 |cons b c g _ ih=>exact .cons b c g ih
theorem jX.raise (h:jX P S H p f f') {l l':List PanicEntry} (hl:CL S p l l'):jX P S H p (f.raise l) (f'.raise l'):=by
 obtain⟨fn,tmps,todo,defers,mode,kind,ro⟩:=f;obtain⟨j8,qG,P1,IY,P2,jO,ro'⟩:=f';obtain⟨h1,h2,h3,h4,h5,h6,h7,h8,h9,sr,qd,wI⟩:=h;simp only at h1 h2 h3 h4 h5 h6 h7 h8 h9 sr qd wI;cases h6 with
 |run=>exact⟨h1,h2,h3,h4,h5,.panicking hl,h7,h8,h9,sr,qd,wI⟩
 |returning=>exact⟨h1,h2,h3,h4,h5,.panicking hl,h7,h8,h9,sr,qd,wI⟩
 |panicking g=>exact⟨h1,h2,h3,h4,h5,.panicking (hl.append g),h7,h8,h9,sr,qd,wI⟩
theorem jX.enter (hc:Closed P F S H) {f:Nat} (hf:S f=true) {xs cB:Array Value} (h:AR S p xs cB) {k k':CallKind} (hk:k=.normal) (y7:k'=.normal):jX P S H p (Frame.enter P f xs k) (Frame.enter (ag P F) f cB k'):=by
 subst hk;subst y7;unfold Frame.enter;rcases hc.body f hf with⟨h1,h2⟩|⟨fn,j8,c,c',h1,h2,h3,h4,h5,_,_,h6,_⟩
 .have qC:(ag P F).funcs[f]?=none:=h2;simp only[h1,qC,Option.map_none,Option.getD_none,Option.bind_none];rw[h.1];exact⟨rfl,hf,h.append (AR.replicate _ VR.undef),.cons (.code (.same rfl (.inl rfl))) .nil,.nil,.run,rfl,rfl,.none,.inl rfl,.inl ⟨rfl,rfl⟩,.inr fun fn hf=>by simp only at hf;rw[h1]at hf;cases hf⟩
 .have qC:(ag P F).funcs[f]?=some j8:=h2;simp only[h1,qC,h3,h4,Option.map_some,Option.getD_some,Option.bind_some];rw[h.1,h6]
  exact⟨rfl,hf,h.append (AR.replicate _ VR.undef),.cons (.code h5) .nil,.nil,.run,rfl,rfl,.none,.inl rfl,.inl ⟨rfl,rfl⟩,.inr fun gn hg=>by
   simp only at hg;rw[h1]at hg;cases hg;simp only[Array.size_append,Array.size_replicate];have:=h.1;omega⟩
theorem jX.IZ {l' f:Nat} (hn:∀a b,¬H f a b) (hl:p l l') (hf:S f=true) (h:AR S p xs cB) {a b:Code} (ha:codeOk P S a=true) (hb:codeOk P S b=true):
 jX P S H p (Frame.round l f xs a b .normal) (Frame.round l' f cB a b .normal):=
 ⟨rfl,hf,h,.cons (.code (.same ha (.inr hn))) (.cons .begin (.cons (.code (.same hb (.inr hn))) .nil)),.nil,.run,rfl,rfl,.some hl,.inr hn,.inr hn,.inl hn⟩
theorem mM (l:Nat):∀(c:Code) {d:Code},cD c=true->findLabel c l=some d->cD d=true:=by
 intro c;induction c with
 |seq a b P5 P6=>
  intro d hc hd;simp only[cD,Bool.and_eq_true]at hc;simp only[findLabel]at hd;cases ha:findLabel a l with
  |some r=>rw[ha]at hd;simp only[Option.some.injEq]at hd;subst hd;simp only[cD,Bool.and_eq_true];exact⟨P5 hc.1 ha,hc.2⟩
  |none=>rw[ha]at hd;exact P6 hc.2 hd
 |label l'=>
  intro d hc hd;simp only[findLabel]at hd;split at hd
  .simp only[Option.some.injEq]at hd;subst hd;rfl
  .cases hd
 |_=>intro d _ hd;cases hd
theorem zs {H:Code->Code->Prop} (id:Nat) {l:List Item} (h:TL P S H p l l'):(exitTo id l=none/\exitTo id l'=none)\/∃k k',exitTo id l=some k/\exitTo id l'=some k'/\TL P S H p k k':=by
 induction h with
 |nil=>exact .inl ⟨rfl,rfl⟩
 |cons hi ht ih=>
  cases hi with
  |inBlock i=>
   simp only[exitTo];split
   .exact .inr ⟨_,_,rfl,rfl,ht⟩
   .exact ih
  |_=>exact ih
theorem uA (l:Nat):∀(c:Code) {d:Code},codeOk P S c=true->findLabel c l=some d->codeOk P S d=true:=by
 intro c;induction c with
 |seq a b P5 P6=>
  intro d hc hd;simp only[codeOk,Bool.and_eq_true]at hc;simp only[findLabel]at hd;cases ha:findLabel a l with
  |some r=>rw[ha]at hd;simp only[Option.some.injEq]at hd;subst hd;simp only[codeOk,Bool.and_eq_true];exact⟨P5 hc.1 ha,hc.2⟩
  |none=>rw[ha]at hd;exact P6 hc.2 hd
 |label l'=>
  intro d hc hd;simp only[findLabel]at hd;split at hd
  .simp only[Option.some.injEq]at hd;subst hd;rfl
  .cases hd
 |_=>intro d _ hd;cases hd
theorem zu {H:Code->Code->Prop} (id:Nat) {l:List Item} (h:TL P S H p l l'):(gotoIn id l=none/\gotoIn id l'=none)\/∃k k',gotoIn id l=some k/\gotoIn id l'=some k'/\TL P S H p k k':=by
 induction h with
 |nil=>exact .inl ⟨rfl,rfl⟩
 |cons hi ht ih=>
  cases hi with
  | @inScope c hc hr=>
    simp only[gotoIn];cases hd:findLabel c id with
    |some d=>exact .inr ⟨_,_,rfl,rfl,.cons (.code (.same (uA id c hc hd) (hr.imp (fun x=>mM id c x hd) fun x=>x))) (.cons (.inScope hc hr) ht)⟩
    |none=>exact ih
  |_=>exact ih
def nX (S:Nat->Bool) (f:Frame):Prop:=
 f.mode=.run/\∃o ops i is k,f.todo=.inRegion ops (i::is)::k/\ops[i]?=some o/\fh S o.op=true/\Region.wanted o (yielded ops f.tmps)=true
theorem oX (ops:Array Oper) (h:AR S p xs ys) (j:Nat):yielded ops xs j=yielded ops ys j:=by
 unfold yielded;cases((ops[j]?).bind (·.dst))with
 |none=>rfl
 |some d=>
  simp only[Option.bind_some];cases hx:xs[d]? with
  |none=>rw[h.none hx]
  |some v=>
   obtain⟨v',mC,hr⟩:=h.get hx;rw[mC];cases hr with
   |nO _ hj h=>cases v'<;>first|rfl|cases h
   |_=>rfl
theorem mem_seen {P:Program} {fn:FuncId} {es:Array Event} {e:Event} (h:e∈seen P fn es):e∈es:=by
 have key:∀(quiet:FuncId->Bool) (l:List Event) (q:Bool) (kept:Array Event),e∈(l.foldl (fun(x:Bool×Array Event) (e:Event)=>match x with
  |(q,kept)=>match e.loc with
   |.mark (.extern f)=>(quiet f,kept)
   |_=>(q,if q&&!e.sync then kept else kept.push e)) (q,kept)).2->e∈kept\/e∈l:=by
  intro quiet l;induction l with
  |nil=>intro q kept h;exact .inl h
  |cons x l ih=>
   intro q kept h;rw[List.foldl_cons]at h
   generalize hy:(match(q,kept)with
    |(q,kept)=>match x.loc with
     |.mark (.extern f)=>(quiet f,kept)
     |_=>(q,if q&&!x.sync then kept else kept.push x))=y at h
   obtain⟨q',k'⟩:=y
   have hk:e∈k'->e∈kept\/e=x:=by
    intro he;simp only at hy;split at hy
    .rw[Prod.mk.injEq]at hy;rw[hy.2];exact .inl he
    .rw[Prod.mk.injEq]at hy;rw[<-hy.2]at he;split at he
     .exact .inl he
     .exact Array.mem_push.1 he
   rcases ih q' k' h with h|h
   .exact(hk h).imp id fun h=>by simp[h]
   .exact .inr (by simp[h])
 unfold seen at h;dsimp only at h;rw[<-Array.foldl_toList]at h;have:=key _ _ _ _ h;simpa using this
end
end Go.au
