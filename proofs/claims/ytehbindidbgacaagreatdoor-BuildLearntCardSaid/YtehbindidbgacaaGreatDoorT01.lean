/- A part. Conditions: none. -/
import Derived.Test.YtehbindidbgacaaGreatDoorT00
import Derived.Laws.Sem
set_option linter.all false
namespace Go.aC
variable {BQ By hi lo mx qj:Option Value} {Uh ps:Array (Nat×Value)} {a a':Addr} {b b' i i' k k' v v' x x' y y':Value} {c l n:Nat} {cX xs ys z z':Array Value} {f f':Frame} {l':List Item} {r r':Operand->Value} {t:TypeId} {α β:Type}
section
variable {P:Program} {F:Array Func} {S:Nat->Bool} {K:Kz} {N:Nat} {p:Pi}
theorem SR.FB (f:α->Sem β) (h:∀x q,SR P F S K N (QE β) (f x) (f x) q) (xs:Array α):SR P F S K N (QE (Array β)) (xs.mapM f) (xs.mapM f) p:=by
 rw[zEF,<-zFE];generalize xs.toList=l;generalize(#[]:Array β)=acc;induction l generalizing acc p with
 |nil=>exact SR.pure rfl
 |cons x l ih=>
  simp only[zFU];refine SR.aD (α:=Array β) ?_ λq a hq=>ih a;exact(h x p).aD λq b hq=>SR.pure rfl
inductive PL (S:Nat->Bool) (p:Pi):List (Nat×Value)->List (Nat×Value)->Prop
 |nil:PL S p [] []
 |cons {i:Nat} {v v':Value} {l l':List (Nat×Value)} (h:VR S p v v') (t:PL S p l l'):PL S p ((i,v)::l) ((i,v')::l')
theorem PL.mono {q:Pi} (h:Le p q) {l l':List (Nat×Value)} (x:PL S p l l'):PL S q l l':=by
 induction x with
 |nil=>exact .nil
 |cons g _ ih=>exact .cons (g.mono h) ih
theorem PL.map (l:List (Nat×Operand)) (f g:Operand->Value) (h:∀x∈l,VR S p (f x.2) (g x.2)):PL S p (l.map λ(i,x)=>(i,f x)) (l.map λ(i,x)=>(i,g x)):=by
 induction l with
 |nil=>exact .nil
 |cons x l ih=>exact .cons (h x (by simp)) (ih λy hy=>h y (by simp[hy]))
theorem QG (h:AR S p xs ys) {cs j9:List (Value×Nat)} (off:Nat) (hc:∀(j:Nat) a b,cs[j]?=some a->j9[j]?=some b->VR S p a.1 b.1/\a.2=b.2) (hl:cs.length=j9.length):
 AR S p (cs.foldl (λacc (c,j)=>acc.setIfInBounds (off+j) c) xs) (j9.foldl (λacc (c,j)=>acc.setIfInBounds (off+j) c) ys):=by
 induction cs generalizing j9 xs ys with
 |nil=>cases j9 with
  |nil=>exact h
  |cons=>cases hl
 |cons c cs ih=>cases j9 with
  |nil=>cases hl
  |cons c' j9=>
   have h0:=hc 0 c c' rfl rfl;simp only[zFH];rw[h0.2];exact ih (h.set _ h0.1) (λj a b h1 h2=>hc (j+1) a b h1 h2) (by simpa using hl)
theorem rV (place:Nat->Option (Nat×Nat)):∀{l l':List (Nat×Value)} {xs ys:Array Value},PL S p l l'->AR S p xs ys->
 (Instr.fill place xs l=none/\Instr.fill place ys l'=none)\/∃a b,Instr.fill place xs l=some a/\Instr.fill place ys l'=some b/\AR S p a b:=by
 intro l l' xs ys hl;induction hl generalizing xs ys with
 |nil=>intro h;exact .inr ⟨_,_,rfl,rfl,h⟩
 | @cons i v v' l l' hv _ ih=>
   intro h;simp only[Instr.fill];cases place i with
   |none=>exact .inl ⟨rfl,rfl⟩
   |some x=>
    obtain⟨off,size⟩:=x;simp only;have hc:=hv.cells;rw[<-hc.1,<-h.1];split
    .exact .inl ⟨rfl,rfl⟩
    .refine ih ?_;rw[<-zEL,<-zEL];refine QG h off (λj a b h1 h2=>?_) (by simp[hc.1]);simp only[zDL,Array.getElem?_zipIdx]at h1 h2;cases hx:v.cells[j]? with
     |none=>rw[hx]at h1;cases h1
     |some u=>
      obtain⟨u',hu',hr⟩:=hc.get hx;rw[hx]at h1;rw[hu']at h2;simp only[zBJ,zAA]at h1 h2;subst h1;subst h2;exact⟨hr,rfl⟩
theorem SR.box (e:TypeId) (h:VR S p v v'):SR P F S K N (QV S) (Instr.box e v) (Instr.box e v') p:=
 (SR.newVar e h).bind λq a a' hq ha=>SR.pure ha.1.ptr
theorem SR.alloc (hz:be P) (e:TypeId):SR P F S K N (QV S) (Instr.alloc e true (.tuple #[])) (Instr.alloc e true (.tuple #[])) p:=by
 unfold Instr.alloc;refine(SR.zeroValue hz e).bind λq z z' hq Bx=>?_;obtain⟨rfl,hv⟩:=Bx;exact(SR.newVar e hv).bind λq a a' hq ha=>SR.pure ha.1.ptr
theorem SR.build (hz:be P) (t:TypeId) (h:PL S p ps.toList Uh.toList):SR P F S K N (QV S) (Instr.build t ps) (Instr.build t Uh) p:=by
 unfold Instr.build;refine(SR.zeroValue hz t).bind λq z z' hq Bx=>?_;obtain⟨rfl,hv⟩:=Bx;have h:=h.mono hq;refine SR.cP λd hd=>?_;cases d with
 |struct fields=>
  refine SR.aD (α:=Array (Nat×Nat)) (SR.FB _ (λf q=>(SR.sizeOf f.type).aD λq n hq=>SR.pure rfl) fields) λq places hq=>?_;rcases rV (λi=>places[i]?) (h.mono hq) (hv.mono hq).cells with⟨e1,e2⟩|⟨a,b,e1,e2,nW⟩
  .simp only[e1];exact SR.stuck
  .simp only[e1,e2];exact SR.pure nW.agg
 |array n e=>
  refine(SR.sizeOf e).aD λq size hq=>?_;rcases rV (λi=>some (i*size,size)) (h.mono hq) (hv.mono hq).cells with⟨e1,e2⟩|⟨a,b,e1,e2,nW⟩
  .simp only[e1];exact SR.stuck
  .simp only[e1,e2];exact SR.pure nW.agg
 |_=>exact SR.stuck
theorem rx (h:AR S p z z') (n:Nat):AR S p ((Array.range n).map (λi=>z[i%z.size]!)) ((Array.range n).map (λi=>z'[i%z'.size]!)):=by
 refine AR.ofFn n _ _ λi=>?_;rw[<-h.1];simp only[getElem!_def];cases hx:z[i%z.size]? with
 |none=>rw[h.none hx];exact VR.plain 1 _ (by simp[plain,default,instInhabitedValue.default])
 |some v=>obtain⟨v',nQ,hr⟩:=h.get hx;rw[nQ];exact hr
theorem SR.buildSlice (hz:be P) (t:TypeId) (len:Nat) (h:PL S p ps.toList Uh.toList):SR P F S K N (QV S) (Instr.buildSlice t len ps) (Instr.buildSlice t len Uh) p:=by
 unfold Instr.buildSlice;refine SR.cP λd hd=>?_;cases d with
 |slice e=>
  simp only;refine(SR.sizeOf e).aD λq size hq=>?_;have h:=h.mono hq;split
  .exact SR.unsupported
  .have key:∀(q':Pi) (z z':Array Value),Le q q'->AR S q' z z'->SR P F S K N (QV S)
    (match Instr.fill (λi=>some (i*size,size)) ((Array.range (len*size)).map (z[·%z.size]!)) ps.toList with
      |some cells=>(Go.newRow e cells>>=λa=>Pure.pure (Value.slice (some a) len len))
      |_=>Go.stuck "buildSlice: a part of the wrong size")
    (match Instr.fill (λi=>some (i*size,size)) ((Array.range (len*size)).map (z'[·%z'.size]!)) Uh.toList with
      |some cells=>(Go.newRow e cells>>=λa=>Pure.pure (Value.slice (some a) len len))
      |_=>Go.stuck "buildSlice: a part of the wrong size") q':=by
    intro q' z z' uT Bx;rcases rV (λi=>some (i*size,size)) (h.mono uT) (rx Bx (len*size))with⟨e1,e2⟩|⟨a,b,e1,e2,nW⟩
    .simp only[e1];exact SR.stuck
    .simp only[e1,e2];exact(SR.newRow e nW).bind λq a a' hq ha=>SR.pure (ha.1.sl (λ_=>ha.2.2) len len)
   split
   .exact key q #[] #[] (Le.refl _) AR.empty
   .refine(SR.zeroValue hz e).bind λq2 z z' cG Bx=>?_;obtain⟨rfl,hv⟩:=Bx;exact key q2 _ _ cG hv.cells
 |_=>exact SR.stuck
theorem SR.loadAt (t:TypeId) (h:VR S p v v'):SR P F S K N (QV S) (Instr.loadAt t v) (Instr.loadAt t v') p:=
 (SR.sureAddr h).bind λq a a' hq ha=>SR.loadVar t ha
theorem SR.storeAt (t:TypeId) (h:VR S p v v') (hx:VR S p x x'):SR P F S K N (QE Unit) (Instr.storeAt t v x) (Instr.storeAt t v' x') p:=
 (SR.sureAddr h).bind λq a a' hq ha=>SR.storeVar t ha (hx.mono hq)
theorem SR.fieldAt (s:TypeId) (f:Nat) (hf:∀fs g i,P.underlying s=some (.struct fs)->fs[f]?=some g->P.info? g.type=some i->i.size≠0) (h:VR S p v v'):
 SR P F S K N (QV S) (Instr.fieldAt s v f) (Instr.fieldAt s v' f) p:=by
 unfold Instr.fieldAt;refine SR.cP λd hd=>?_;cases d with
 |struct fields=>
  simp only;cases hg:fields[f]? with
  |none=>exact SR.stuck
  |some g=>
   simp only;refine(SR.sureAddr h).bind λq a a' hq ha=>?_;unfold Go.fieldPlace Go.sizeOf;refine SR.bind (Q:=QD) ?_ λq b b' hq hb=>SR.pure hb.ptr;show SR P F S K N QD ((Go.typeInfo g.type>>=λi=>Pure.pure i.size)>>=_) ((Go.typeInfo g.type>>=λi=>Pure.pure i.size)>>=_) q;refine SR.bind (Q:=λ_ (a b:Nat)=>a=b/\a≠0) (SR.nV λi hi=>SR.pure ⟨rfl,hf fields g i hd hg hi⟩) λq n n' hq hn=>?_;obtain⟨rfl,hn⟩:=hn;simp only[hn,zBG];exact SR.pure ((ha.mono hq).add _)
 |_=>exact SR.stuck
theorem SR.field (t:TypeId) (f:Nat) (h:VR S p v v'):SR P F S K N (QV S) (Instr.field t v f) (Instr.field t v' f) p:=by
 unfold Instr.field;refine SR.cP λd hd=>?_;cases d with
 |struct fields=>
  simp only;cases hg:fields[f]? with
  |none=>exact SR.stuck
  |some g=>exact(SR.asAgg h).bind λq a a' hq ha=>SR.part _ ha _
 |_=>exact SR.stuck
theorem SR.index (t:TypeId) (h:VR S p v v') (hi:VR S p i i'):SR P F S K N (QV S) (Instr.index t v i) (Instr.index t v' i') p:=by
 unfold Instr.index;refine(SR.asIntOf hi).aD λq ki hq=>?_;obtain⟨k,n⟩:=ki;have h:=h.mono hq;refine SR.cP λd hd=>?_;cases d with
 |array len elem=>
  cases h with
  |agg hx gx=>
   simp only;split
   .exact(SR.sizeOf elem).aD λq m hq=>SR.part elem (AR.mono hq ⟨hx,gx⟩) _
   .exact SR.boundsPanic _ _ _ _
  |_=>exact SR.stuck
 |string=>
  cases h with
  |string s=>
   simp only;split
   .exact SR.pure (.int _ _)
   .exact SR.boundsPanic _ _ _ _
  |_=>exact SR.stuck
 |_=>cases h<;>exact SR.stuck
theorem SR.sliceBound (x x':Value) (h:VR S p x x') (y:Nat) (c:BoundsCode):SR P F S K N (QE Nat) (Instr.sliceBound x y c) (Instr.sliceBound x' y c) p:=by
 unfold Instr.sliceBound;refine(SR.asIntOf h).aD λq ki hq=>?_;obtain⟨k,n⟩:=ki;simp only;split
 .exact SR.pure rfl
 .exact SR.boundsPanic _ _ _ _
def OV (S:Nat->Bool) (p:Pi):Option Value->Option Value->Prop
 |none,none=>True
 |some v,some v'=>VR S p v v'
 |_,_=>False
theorem OV.mono {q:Pi} (h:Le p q) {a b:Option Value} (x:OV S p a b):OV S q a b:=by
 cases a<;>cases b<;>first|trivial|exact x.elim|exact VR.mono h x
theorem SR.sliceBounds (b:Bool) (len cap:Nat) (h1:OV S p lo BQ) (h2:OV S p hi qj) (h3:OV S p mx By):
 SR P F S K N (QE (Nat×Nat×Nat)) (Instr.sliceBounds b len cap lo hi mx) (Instr.sliceBounds b len cap BQ qj By) p:=by
 have hb:∀(q:Pi) (x x':Value) (y:Nat) (c:BoundsCode) (f f':Nat->Sem (Nat×Nat×Nat)),Le p q->VR S p x x'->(∀q' n,Le p q'->SR P F S K N (QE (Nat×Nat×Nat)) (f n) (f' n) q')->SR P F S K N (QE (Nat×Nat×Nat)) (Instr.sliceBound x y c>>=f) (Instr.sliceBound x' y c>>=f') q:=
  λq x x' y c f f' hq hx hf=>(SR.sliceBound x x' (hx.mono hq) y c).aD λq' n uT=>hf q' n (hq.trans uT)
 cases mx<;>cases By<;>(try exact h3.elim)<;>cases hi<;>cases qj<;>(try exact h2.elim)<;>cases lo<;>cases BQ<;>(try exact h1.elim)
 .exact SR.pure rfl
 .exact hb p _ _ _ _ _ _ (Le.refl _) h1 λq n hq=>SR.pure rfl
 .exact hb p _ _ _ _ _ _ (Le.refl _) h2 λq n hq=>SR.pure rfl
 .exact hb p _ _ _ _ _ _ (Le.refl _) h2 λq n hq=>hb q _ _ _ _ _ _ hq h1 λq n hq=>SR.pure rfl
 .exact hb p _ _ _ _ _ _ (Le.refl _) h3 λq n hq=>SR.stuck
 .exact hb p _ _ _ _ _ _ (Le.refl _) h3 λq n hq=>SR.stuck
 .exact hb p _ _ _ _ _ _ (Le.refl _) h3 λq n hq=>hb q _ _ _ _ _ _ hq h2 λq n hq=>SR.pure rfl
 .exact hb p _ _ _ _ _ _ (Le.refl _) h3 λq n hq=>hb q _ _ _ _ _ _ hq h2 λq n hq=>hb q _ _ _ _ _ _ hq h1 λq n hq=>SR.pure rfl
theorem SR.wG (hl:p.l=true) (x x':Value) (h:VR S p x x') {y y':Nat} (hy:y<=y') (c:BoundsCode):SR P F S K N (QE Nat) (Instr.sliceBound x y c) (Instr.sliceBound x' y' c) p:=by
 unfold Instr.sliceBound;refine(SR.asIntOf h).aD λq ki hq=>?_;obtain⟨k,n⟩:=ki;simp only;by_cases h1:0<=n/\n<=(y:Int)
 .have h2:0<=n/\n<=(y':Int):=⟨h1.1,by omega⟩
  rw[zAI h1,zAI h2];exact SR.pure rfl
 .rw[zAH h1];unfold Go.boundsPanic;simp only;split
  .exact λ_=>.inl (hq.l.trans hl)
  .exact λ_=>.inl (.inl ⟨hq.l.trans hl,trivial⟩)
theorem SR.ul (hl:p.l=true) (len:Nat) {cap jO:Nat} (hc:cap<=jO) (h1:OV S p lo BQ) (h2:OV S p hi qj) (h3:OV S p mx By):
 SR P F S K N (λ_ a b=>a.1=b.1/\a.2.1=b.2.1/\(a.2.2=b.2.2\/(a.2.2=cap/\b.2.2=jO/\mx=none))) (Instr.sliceBounds true len cap lo hi mx) (Instr.sliceBounds true len jO BQ qj By) p:=by
 have hb:∀(mx:Option Value) (q:Pi) (x x':Value) (y y':Nat) (c:BoundsCode) (f f':Nat->Sem (Nat×Nat×Nat)),y<=y'->Le p q->VR S p x x'->(∀q' n,Le p q'->SR P F S K N (λ_ a b=>a.1=b.1/\a.2.1=b.2.1/\(a.2.2=b.2.2\/(a.2.2=cap/\b.2.2=jO/\mx=none))) (f n) (f' n) q')->SR P F S K N (λ_ a b=>a.1=b.1/\a.2.1=b.2.1/\(a.2.2=b.2.2\/(a.2.2=cap/\b.2.2=jO/\mx=none))) (Instr.sliceBound x y c>>=f) (Instr.sliceBound x' y' c>>=f') q:=
  λmx q x x' y y' c f f' hy hq hx hf=>(SR.wG (hq.l.trans hl) x x' (hx.mono hq) hy c).aD λq' n uT=>hf q' n (hq.trans uT)
 have l0:∀n:Nat,n<=n:=λn=>zAC n;cases mx<;>cases By<;>(try exact h3.elim)<;>cases hi<;>cases qj<;>(try exact h2.elim)<;>cases lo<;>cases BQ<;>(try exact h1.elim)
 .exact SR.pure ⟨rfl,rfl,.inr ⟨rfl,rfl,rfl⟩⟩
 .exact hb _ p _ _ _ _ _ _ _ (l0 _) (Le.refl _) h1 λq n hq=>SR.pure ⟨rfl,rfl,.inr ⟨rfl,rfl,rfl⟩⟩
 .exact hb _ p _ _ _ _ _ _ _ hc (Le.refl _) h2 λq n hq=>SR.pure ⟨rfl,rfl,.inr ⟨rfl,rfl,rfl⟩⟩
 .exact hb _ p _ _ _ _ _ _ _ hc (Le.refl _) h2 λq n hq=>hb _ q _ _ _ _ _ _ _ (l0 _) hq h1 λq n hq=>SR.pure ⟨rfl,rfl,.inr ⟨rfl,rfl,rfl⟩⟩
 .exact hb _ p _ _ _ _ _ _ _ hc (Le.refl _) h3 λq n hq=>SR.stuck
 .exact hb _ p _ _ _ _ _ _ _ hc (Le.refl _) h3 λq n hq=>SR.stuck
 .exact hb _ p _ _ _ _ _ _ _ hc (Le.refl _) h3 λq n hq=>hb _ q _ _ _ _ _ _ _ (l0 _) hq h2 λq n hq=>SR.pure ⟨rfl,rfl,.inl rfl⟩
 .exact hb _ p _ _ _ _ _ _ _ hc (Le.refl _) h3 λq n hq=>hb _ q _ _ _ _ _ _ _ (l0 _) hq h2 λq n hq=>hb _ q _ _ _ _ _ _ _ (l0 _) hq h1 λq n hq=>SR.pure ⟨rfl,rfl,.inl rfl⟩
theorem SR.y8 (x x':Value) (h:VR S p x x') (c:BoundsCode):SR P F S K N (λ_ a b=>a=0/\b=0) (Instr.sliceBound x 0 c) (Instr.sliceBound x' 0 c) p:=by
 unfold Instr.sliceBound;refine(SR.asIntOf h).aD λq ki hq=>?_;obtain⟨k,n⟩:=ki;simp only;split
 .exact SR.pure ⟨by omega,by omega⟩
 .exact SR.boundsPanic _ _ _ _
theorem SR.wH (b:Bool) (h1:OV S p lo BQ) (h2:OV S p hi qj) (h3:OV S p mx By):
 SR P F S K N (λ_ a b=>a=(0,0,0)/\b=(0,0,0)) (Instr.sliceBounds b 0 0 lo hi mx) (Instr.sliceBounds b 0 0 BQ qj By) p:=by
 have hb:∀(q:Pi) (x x':Value) (c:BoundsCode) (f f':Nat->Sem (Nat×Nat×Nat)),Le p q->VR S p x x'->(∀q',Le p q'->SR P F S K N (λ_ a b=>a=(0,0,0)/\b=(0,0,0)) (f 0) (f' 0) q')->SR P F S K N (λ_ a b=>a=(0,0,0)/\b=(0,0,0)) (Instr.sliceBound x 0 c>>=f) (Instr.sliceBound x' 0 c>>=f') q:=
  λq x x' c f f' hq hx hf=>(SR.y8 x x' (hx.mono hq) c).bind λq' n n' uT hn=>by
   obtain⟨rfl,rfl⟩:=hn;exact hf q' (hq.trans uT)
 cases mx<;>cases By<;>(try exact h3.elim)<;>cases hi<;>cases qj<;>(try exact h2.elim)<;>cases lo<;>cases BQ<;>(try exact h1.elim)
 .exact SR.pure ⟨rfl,rfl⟩
 .exact hb p _ _ _ _ _ (Le.refl _) h1 λq hq=>SR.pure ⟨rfl,rfl⟩
 .exact hb p _ _ _ _ _ (Le.refl _) h2 λq hq=>SR.pure ⟨rfl,rfl⟩
 .exact hb p _ _ _ _ _ (Le.refl _) h2 λq hq=>hb q _ _ _ _ _ hq h1 λq hq=>SR.pure ⟨rfl,rfl⟩
 .exact hb p _ _ _ _ _ (Le.refl _) h3 λq hq=>SR.stuck
 .exact hb p _ _ _ _ _ (Le.refl _) h3 λq hq=>SR.stuck
 .exact hb p _ _ _ _ _ (Le.refl _) h3 λq hq=>hb q _ _ _ _ _ hq h2 λq hq=>SR.pure ⟨rfl,rfl⟩
 .exact hb p _ _ _ _ _ (Le.refl _) h3 λq hq=>hb q _ _ _ _ _ hq h2 λq hq=>hb q _ _ _ _ _ hq h1 λq hq=>SR.pure ⟨rfl,rfl⟩
theorem lq {a a':Option Addr} {l' c':Nat} (h:VR S p (.slice a l c) (.slice a' l' c')):l=l'/\((a=none/\a'=none/\c=c')\/(∃b b',a=some b/\a'=some b'/\im p b b'/\((c=c'/\(S 999999=true->∀k,¬p.x b.block k))\/(p.l=true/\0<c/\b.spot=none/\∃k,p.x b.block k/\c'=c+k)))\/(l=0/\c=0/\∃b b',a=some b/\a'=some b'/\((p.l=true/\b.spot=some 0)\/(p.l=false/\c'=0)))):=by
 cases h with
 |de=>exact⟨rfl,.inl ⟨rfl,rfl,rfl⟩⟩
 |slice o sp l c g hX=>exact⟨rfl,.inr (.inl ⟨_,_,rfl,rfl,⟨g,rfl,rfl⟩,.inl ⟨rfl,hX⟩⟩)⟩
 |df o l hl g h0 hx=>exact⟨rfl,.inr (.inl ⟨_,_,rfl,rfl,⟨g,rfl,rfl⟩,.inr ⟨hl,h0,rfl,_,hx,rfl⟩⟩)⟩
 |fB o o' c' hl g=>exact⟨rfl,.inr (.inr ⟨rfl,rfl,_,_,rfl,rfl,.inl ⟨hl,rfl⟩⟩)⟩
 |dP hl a a'=>exact⟨rfl,.inr (.inr ⟨rfl,rfl,_,_,rfl,rfl,.inr ⟨hl,rfl⟩⟩)⟩
theorem SR.ok {Q:Pi->α->β->Prop} {s:Sem α} {s':Sem β} (h:pq P p->SR P F S K N Q s s' p):SR P F S K N Q s s' p:=λhp=>h hp hp
theorem noX (Ea:p.l=true->S 999999=false) (ho:pq P p) (r:Nat):S 999999=true->∀k,¬p.x r k:=λh=>by
 cases hl:p.l with
 |true=>rw[Ea hl]at h;cases h
 |false=>exact ho.uk hl r
theorem im.slX {p:Pi} (x:im p a a') (hl:p.l=true) (hs:a.spot=none) (l:Nat) {k:Nat} (h0:0<c) (hx:p.x a.block k):VR S p (.slice (some a) l c) (.slice (some a') l (c+k)):=by
 obtain⟨b,o,sp⟩:=a;obtain⟨b',o',LM⟩:=a';obtain⟨h1,h2,h3⟩:=x;simp only at h1 h2 h3 hs;subst h2;subst h3;subst hs;exact .df o l hl h1 h0 hx
theorem fI (a:Addr) (n:Nat):(a.add n).block=a.block:=by unfold Addr.add;split<;>rfl
theorem nX (a:Addr) (n:Nat) (h:a.spot=none):(a.add n).spot=none:=by unfold Addr.add;split<;>simp_all
def Mf (q:Pi) (x v v':Value):Prop:=(∃b l c,x=.slice b l c)/\∃a a' l c',v=.slice (some a) l 0/\v'=.slice (some a') l c'/\q a.block a'.block/\a'.spot=none
theorem SR.slice (Ea:p.l=true->S 999999=false) (t:TypeId) {x x':Value} {lo BQ hi qj mx By:Option Value} (hx:VR S p x x') (hE:p.l=true->∀b l c,x=.slice (some b) l c->b.spot=none) (h1:OV S p lo BQ) (h2:OV S p hi qj) (h3:OV S p mx By):
 SR P F S K N (λq v v'=>VR S q v v'\/(p.l=true/\mx=none/\Mf q x v v')) (Instr.slice t x lo hi mx) (Instr.slice t x' BQ qj By) p:=by
 unfold Instr.slice;refine SR.cP λd hd=>?_
 have FC:∀arr,SR P F S K N (λq v v'=>VR S q v v'\/(p.l=true/\mx=none/\Mf q x v v')) (do
  let a<-Go.asAddr x
  let .array n elem<-Go.underlying arr|Go.stuck "Slice: array type expected"
  let(l,h,m)<-Instr.sliceBounds false n n lo hi mx
  let size<-Go.sizeOf elem
  Pure.pure (Value.slice (some (if m=l then a else a.add (l*size))) (h-l) (m-l))) (do
  let a<-Go.asAddr x'
  let .array n elem<-Go.underlying arr|Go.stuck "Slice: array type expected"
  let(l,h,m)<-Instr.sliceBounds false n n BQ qj By
  let size<-Go.sizeOf elem
  Pure.pure (Value.slice (some (if m=l then a else a.add (l*size))) (h-l) (m-l))) p:=by
  intro arr;refine(SR.asAddr hx).bind λq a a' hq ha=>?_;refine SR.cP λd hd=>?_;cases d with
  |array n elem=>
   simp only;refine(SR.sliceBounds false n n (h1.mono hq) (h2.mono hq) (h3.mono hq)).aD λq2 b cG=>?_;obtain⟨l,h,m⟩:=b;simp only;refine(SR.sizeOf elem).aD λq3 s gK=>?_;have ha:=(ha.mono cG).mono gK;refine SR.ok λho=>?_;have i6:=λr=>noX (λx=>Ea (((hq.trans cG).trans gK).l.symm.trans x)) ho r;split
   .exact SR.pure (.inl (ha.sl (i6 _) _ _))
   .exact SR.pure (.inl ((ha.add _).sl (i6 _) _ _))
  |_=>exact SR.stuck
 cases d with
 |string=>
  cases hx with
  |string s=>
   simp only;cases mx<;>cases By<;>first|exact h3.elim|skip
   .simp only[Option.isSome_none,zAN,zBG];refine(SR.sliceBounds false _ _ h1 h2 h3).aD λq2 b cG=>?_;exact SR.pure (.inl (.string _))
   .simp only[Option.isSome_some,zBV];exact SR.stuck
  |_=>exact SR.stuck
 |slice elem=>
  cases x<;>cases x'<;>first|(cases hx;done)|exact SR.stuck|skip
  rename_i a len cap a' zaP jO;obtain⟨rfl,hs⟩:=lq hx;simp only;have i6:∀{q:Pi},Le p q->pq P q->∀r,S 999999=true->∀k,¬q.x r k:=λhq ho r=>noX (λx=>Ea (hq.l.symm.trans x)) ho r;rcases hs with⟨rfl,rfl,rfl⟩|⟨b,b',rfl,rfl,hb,⟨rfl,_⟩|⟨wI,h0,kJ,k,QH,rfl⟩⟩|⟨rfl,rfl,b,b',rfl,rfl,⟨wI,kJ⟩|⟨wI,rfl⟩⟩
  .refine(SR.sliceBounds true len cap h1 h2 h3).aD λq2 b cG=>?_;obtain⟨l,h,m⟩:=b;simp only;refine(SR.sizeOf elem).aD λq3 s gK=>?_;split<;>exact SR.pure (.inl (.de _ _))
  .refine(SR.sliceBounds true len cap h1 h2 h3).aD λq2 b cG=>?_;obtain⟨l,h,m⟩:=b;simp only;refine(SR.sizeOf elem).aD λq3 s gK=>?_;have hb:=(hb.mono cG).mono gK;refine SR.ok λho=>?_;split
   .exact SR.pure (.inl (hb.sl (i6 (cG.trans gK) ho _) _ _))
   .exact SR.pure (.inl ((hb.add _).sl (i6 (cG.trans gK) ho _) _ _))
  .refine(SR.ul wI len (zEX cap k) h1 h2 h3).bind λq2 x y cG LO=>?_;obtain⟨l,h,m⟩:=x;obtain⟨l',h',m'⟩:=y;obtain⟨e1,e2,e3⟩:=LO;simp only at e1 e2 e3;subst e1;subst e2;simp only;refine(SR.sizeOf elem).aD λq3 s gK=>?_;have hb:=(hb.mono cG).mono gK;have QH:=gK.x _ _ (cG.x _ _ QH);rcases e3 with e3|⟨e3,e4,e5⟩
   .subst e3;refine SR.ok λho=>?_;split
    .exact SR.pure (.inl (hb.sl (i6 (cG.trans gK) ho _) _ _))
    .exact SR.pure (.inl ((hb.add _).sl (i6 (cG.trans gK) ho _) _ _))
   .subst e3;subst e4;rcases zCS l m with hl|hl
    .have n1:¬m=l:=by omega
     have n2:¬m+k=l:=by omega
     rw[zAH n1,zAH n2];have e:m+k-l=(m-l)+k:=by omega
     rw[e];exact SR.pure (.inl ((hb.add _).slX ((cG.trans gK).l.trans wI) (nX _ _ kJ) _ (by omega) (by rw[fI];exact QH)))
    .have:m-l=0:=by omega
     have FE:b'.spot=none:=hb.2.2.symm.trans kJ;refine SR.pure (.inr ⟨wI,e5,⟨_,_,_,rfl⟩,?_⟩);rw[this];refine⟨if m=l then b else b.add (l*s),if m+k=l then b' else b'.add (l*s),h-l,m+k-l,?_,?_,?_,?_⟩
     .split<;>rfl
     .split<;>rfl
     .have h1:(if m=l then b else b.add (l*s)).block=b.block:=by split<;>simp only[fI]
      have h2:(if m+k=l then b' else b'.add (l*s)).block=b'.block:=by split<;>simp only[fI]
      rw[h1,h2];exact hb.1
     .split
      .exact FE
      .exact nX _ _ FE
  .have:=hE wI _ _ _ rfl;rw[kJ]at this;cases this
  .refine(SR.wH true h1 h2 h3).bind λq2 c c' cG ry=>?_;obtain⟨rfl,rfl⟩:=ry;exact(SR.sizeOf elem).aD λq3 s gK=>SR.pure (.inl (.dP ((cG.trans gK).l.trans wI) _ _))
 |pointer arr=>exact FC arr
 |_=>cases hx<;>exact SR.stuck
end
def cH (P:Program):Nat->TypeId->Bool
 |0,_=>false
 |n+1,t=>match P.underlying t with
  |some .bool|some (.int _)|some .string=>true
  |some (.slice _)=>true
  |some (.struct fs)=>!P.stoodInHeld t&&fs.all λf=>cH P n f.type
  |some (.array _ e)=>cH P n e
  |_=>false
def aK (P:Program):Prop:=∀t i u,P.info? t=some i->i.desc≠ .named "sync.copyChecker" u
section
variable {P:Program} {F:Array Func} {S:Nat->Bool} {K:Kz} {N:Nat} {p:Pi}
theorem SR.rW (f f':α->β->Sem (ForInStep β)):∀(l:List α),(∀x,x∈l->∀b q,Le p q->SR P F S K N (QE (ForInStep β)) (f x b) (f' x b) q)->∀(b:β) (q:Pi),Le p q->SR P F S K N (QE β) (forIn l b f) (forIn l b f') q
 | [],_,b,q,hq=>SR.pure rfl
 |x::l,h,b,q,hq=>by
  simp only[List.forIn_cons];refine(h x (by simp) b q hq).aD λq' r uT=>?_;cases r with
  |done b=>exact SR.pure rfl
  |yield b=>exact SR.rW f f' l (λy hy=>h y (by simp[hy])) b q' (hq.trans uT)
def NR (p:Pi):Option (Addr×Bool)->Option (Addr×Bool)->Prop
 |none,none=>True
 |some x,some y=>im p x.1 y.1/\x.2=y.2
 |_,_=>False
theorem SR.numberAt {r r':Nat} (h:p r r'):SR P F S K N (λq a b=>NR q a b) (Go.numberAt r) (Go.numberAt r') p:=by
 unfold Go.numberAt;refine(SR.shape h).aD λq x hq=>?_;cases x with
 |some y=>exact SR.pure trivial
 |none=>
  refine(SR.getObj (hq _ _ h)).bind λq o o' hq ho=>?_;cases ho with
  |number l h=>exact SR.pure ⟨h,rfl⟩
  |_=>exact SR.pure trivial
theorem SR.viewAt {r r':Nat} (h:p r r'):SR P F S K N (λ_ a b=>a=none/\b=none) (Go.viewAt r) (Go.viewAt r') p:=by
 unfold Go.viewAt;refine(SR.shape h).aD λq x hq=>?_;cases x with
 |some y=>exact SR.pure ⟨rfl,rfl⟩
 |none=>
  refine(SR.getObj (hq _ _ h)).bind λq o o' hq ho=>?_;cases ho<;>exact SR.pure ⟨rfl,rfl⟩
theorem SR.behindNumber (h:im p a a'):SR P F S K N (λq x y=>im q x.1 y.1/\x.2=y.2) (Go.behindNumber a) (Go.behindNumber a') p:=by
 unfold Go.behindNumber;refine(SR.numberAt h.1).bind λq x y hq LO=>SR.pure ?_;cases x<;>cases y<;>first|exact LO.elim|exact⟨h.mono hq,rfl⟩|exact LO
theorem SR.byteOf (h:im p a a'):SR P F S K N (QE Nat) (Go.byteOf a) (Go.byteOf a') p:=by
 unfold Go.byteOf;rw[<-h.2.2];cases hs:a.spot with
 |some s=>exact SR.pure rfl
 |none=>
  refine SR.nU ?_;try simp only[kc,du,jN,dv,eI,eG,eH,jM]
  unfold Go.noView;refine SR.bind (Q:=QE Unit) ?_ λq _ _ hq _=>?_
  .exact(SR.viewAt h.1).bind λq x y hq LO=>by rw[LO.1,LO.2];exact SR.pure rfl
  .refine(SR.shape (hq _ _ h.1)).aD λq x hq=>?_;cases x with
   |none=>exact SR.stuck
   |some x=>
    obtain⟨e,n⟩:=x;simp only;rw[<-h.2.1];split
    .exact SR.pure rfl
    .split
     .exact SR.pure rfl
     .exact SR.stuck
theorem SR.equalIn (hc:aK P):∀(d n:Nat) (t:TypeId) {p:Pi} {x x' y y':Value},cH P n t=true->VR S p x x'->VR S p y y'->SR P F S K N (QE Bool) (Op.equalIn d t x y) (Op.equalIn d t x' y') p
 |0,_,_,_,_,_,_,_,_,_,_=>SR.unsupported
 |d+1,0,_,_,_,_,_,_,h,_,_=>by simp[cH]at h
 |d+1,n+1,t,p,x,x',y,y',ht,hx,hy=>by
  simp only[Op.equalIn];refine SR.cP λu hu=>?_;simp only[cH,hu]at ht;cases u with
  |bool=>cases hx<;>cases hy<;>first|exact SR.pure rfl|exact SR.stuck
  |string=>cases hx<;>cases hy<;>first|exact SR.pure rfl|exact SR.stuck
  |int k=>
   cases hx<;>first|exact SR.stuck|(cases hy<;>first|exact SR.stuck|exact SR.unsupported|skip)
   .rename_i k1 a k2 b;simp only;split
    .exact SR.pure rfl
    .exact SR.stuck
   .rename_i k1 a r r' o sp h;rcases a with(_|a)|a<;>first|exact SR.pure rfl|exact SR.unsupported
   .rename_i r r' o sp h k1 a;rcases a with(_|a)|a<;>first|exact SR.pure rfl|exact SR.unsupported
   .rename_i r r' o sp h r2 FF o2 qW h2;intro hp;refine(SR.behindNumber (a:=⟨r,o,sp⟩) (a':=⟨r',o,sp⟩) ⟨h,rfl,rfl⟩).bind (λq a a' hq ha=>?_) hp;refine(SR.behindNumber (a:=⟨r2,o2,qW⟩) (a':=⟨FF,o2,qW⟩) ⟨hq _ _ h2,rfl,rfl⟩).bind λq2 b b' cG hb=>?_;have ha:=ha.1.mono cG;have hb:=hb.1;refine SR.nU ?_;try simp only[kc,du,jN,dv,eI,eG,eH,jM]
    intro FG;by_cases hg:(a.1.block==b.1.block&&decide (a.1.block<P.globals.size))=true
    .have FH:(a'.1.block==b'.1.block&&decide (a'.1.block<P.globals.size))=true:=by
      simp only[zAE,beq_iff_eq,zBZ]at hg⊢;exact⟨(FG.inj _ _ _ _ ha.1 hb.1 λ_=>hg.2).1 hg.1,(FG.fix _ _ ha.1).1 hg.2⟩
     simp only[hg,FH,zBV];exact(SR.byteOf ha).aD (λq x hq=>(SR.byteOf (hb.mono hq)).aD λq y hq=>SR.pure rfl) FG
    .simp only[hg,zBG,zAN];by_cases FH:(a'.1.block==b'.1.block&&decide (a'.1.block<P.globals.size))=true
     .refine absurd ?_ hg;simp only[zAE,beq_iff_eq,zBZ]at FH⊢;exact⟨(FG.inj _ _ _ _ ha.1 hb.1 λ_=>(FG.fix _ _ ha.1).2 FH.2).2 FH.1,(FG.fix _ _ ha.1).2 FH.2⟩
     .simp only[FH,zBG,zAN];refine SR.nV (λi hi=>?_) FG;have bE:=λu=>hc t i u hi;generalize i.desc=ds at bE;cases ds<;>first|exact SR.unsupported|skip
      rename_i nm u;by_cases LP:nm= "sync.copyChecker"
      .subst LP;exact absurd rfl (bE u)
      .split
       .rename_i h3;exact absurd (by simpa using h3) (bE _)
       .exact SR.unsupported
  |slice e=>cases hx<;>cases hy<;>first|exact SR.pure rfl|exact SR.stuck
  |struct fs=>
   simp only[zAE,zCF]at ht;cases hx<;>first|exact SR.stuck|(cases hy<;>first|exact SR.stuck|skip)
   rename_i xs cX Eb QI ys LL hys gys;have ax:AR S p xs cX:=⟨Eb,QI⟩
   have ay:AR S p ys LL:=⟨hys,gys⟩
   simp only;refine SR.nU ?_;try simp only[kc,du,jN,dv,eI,eG,eH,jM]
   simp only[ht.1,zAN,zBG]
   refine SR.aD (α:=Option Bool×Unit) ?_ λq r hq=>by
    split<;>exact SR.pure rfl
   rw[<-zDX,<-zDX]
   have bT:∀f∈fs.toList,cH P n f.type=true:=λf hf=>by
    obtain⟨i,hi,he⟩:=zCI hf;have:=zBO.1 ht.2 i (by simpa using hi);rw[<-he];simpa using this
   refine SR.rW (p:=p) _ _ fs.toList (λf hf b q2 cG=>?_) _ p (Le.refl _);have ax:=ax.mono cG;have ay:=ay.mono cG;split
   .refine(SR.part f.type ax _).bind λq3 u u' gK hu3=>?_;refine(SR.part f.type (ay.mono gK) _).bind λq4 v v' Is hv4=>?_;refine(SR.equalIn hc d n f.type (bT f hf) (hu3.mono Is) hv4).aD λq5 c Ui=>?_;split<;>exact SR.pure rfl
   .exact SR.pure rfl
  |array len e=>
   cases hx<;>first|exact SR.stuck|(cases hy<;>first|exact SR.stuck|skip)
   rename_i xs cX Eb QI ys LL hys gys;have ax:AR S p xs cX:=⟨Eb,QI⟩
   have ay:AR S p ys LL:=⟨hys,gys⟩
   simp only;refine(SR.sizeOf e).aD λq m hq=>?_
   refine SR.aD (α:=Option Bool×Unit) ?_ λq r hq=>by
    split<;>exact SR.pure rfl
   simp only[Std.Legacy.Range.forIn_eq_forIn_range'];refine SR.rW (p:=q) _ _ _ (λi hi b q2 cG=>?_) _ q (Le.refl _);have ax:=(ax.mono hq).mono cG;have ay:=(ay.mono hq).mono cG;refine(SR.part e ax _).bind λq3 u u' gK hu3=>?_;refine(SR.part e (ay.mono gK) _).bind λq4 v v' Is hv4=>?_;refine(SR.equalIn hc d n e ht (hu3.mono Is) hv4).aD λq5 c Ui=>?_;split<;>exact SR.pure rfl
  |_=>cases ht
end
section
variable {P:Program} {F:Array Func} {S:Nat->Bool} {K:Kz} {N:Nat} {p:Pi}
theorem SR.intArith (op:BinOp) (k:IntKind) (x y:Int):SR P F S K N (QV S) (Op.intArith op k x y) (Op.intArith op k x y) p:=by
 cases op<;>first|exact SR.pure (.int _ _)|exact SR.stuck
theorem SR.intDiv (op:BinOp) (k:IntKind) (x y:Int):SR P F S K N (QV S) (Op.intDiv op k x y) (Op.intDiv op k x y) p:=by
 unfold Op.intDiv;split
 .exact SR.err _
 .cases op<;>first|exact SR.pure (.int _ _)|exact SR.stuck
theorem SR.intBits (op:BinOp) (k:IntKind) (x y:Int):SR P F S K N (QV S) (Op.intBits op k x y) (Op.intBits op k x y) p:=by
 cases op<;>first|exact SR.pure (.int _ _)|exact SR.stuck
theorem SR.intCmp (op:BinOp) (x y:Int):SR P F S K N (QV S) (Op.intCmp op x y) (Op.intCmp op x y) p:=by
 cases op<;>first|exact SR.pure (.bool _)|exact SR.stuck
theorem SR.shift (op:BinOp) (k:IntKind) (x:Int) (k':IntKind) (y:Int):SR P F S K N (QV S) (Op.shift op k x k' y) (Op.shift op k x k' y) p:=by
 unfold Op.shift;split
 .exact SR.err _
 .cases op<;>first|exact SR.pure (.int _ _)|exact SR.stuck
theorem SR.stringOp (op:BinOp) (x y:ByteArray):SR P F S K N (QV S) (Op.stringOp op x y) (Op.stringOp op x y) p:=by
 cases op<;>first|exact SR.pure (.bool _)|exact SR.stuck|skip
 unfold Op.stringOp;simp only;split
 .exact SR.unsupported
 .exact SR.pure (.string _)
theorem SR.unary (op:UnOp) (h:VR S p x x'):SR P F S K N (QV S) (Op.unary op x) (Op.unary op x') p:=by
 cases op<;>cases h<;>first|exact SR.pure (.bool _)|exact SR.unsupported|exact SR.stuck|skip
 .rename_i k n;exact SR.intArith .sub k 0 n
 .rename_i k n;exact SR.intBits .xor k (if k.signed then-1 else k.max) n
theorem ls (ts:Array TypeId) (t:TypeId) (a:Addr) (y:Value):Builtin.unsafeAdd_ ts t #[.pointer (some a),y]=(Go.asInt y>>=λn=>
 if n=0 then(Go.viewAt a.block>>=fun v=>if v.isSome then Go.unsupported (.unsafePointer "Add: at a place where no cell lies")else Pure.pure (.pointer (some a)))
 else if n<0 then Go.unsupported (.unsafePointer "Add: a move by a count below zero")
 else Go.shape a.block>>=λs=>match s with
  |some (e,cells)=>Go.program>>=λp=>match cellAtBytes p p.depth e (cells/p.cellsOf e) a.off n with
   |some off=>Pure.pure (.pointer (some {a with off}))
   |none=>Go.unsupported (.unsafePointer "Add")
  |none=>Go.unsupported (.unsafePointer "Add")):=by
 unfold Builtin.unsafeAdd_;show(Go.asInt y>>=_)=_;congr 1;funext n;by_cases h0:n=0
 .simp only[h0,zBV];congr 1
 .by_cases h1:n<0
  .simp only[h0,h1,zBV,zBG];rfl
  .simp only[h0,h1,zBG];congr 1;funext s;cases s<;>rfl
theorem SR.unsafeAdd {ts ts':Array TypeId} {t':TypeId} (h:im p a a') (hy:VR S p y y'):SR P F S K N (λq v v'=>∃b b',v=.pointer (some b)/\v'=.pointer (some b')/\im q b b') (Builtin.unsafeAdd_ ts t #[.pointer (some a),y]) (Builtin.unsafeAdd_ ts' t' #[.pointer (some a'),y']) p:=by
 rw[ls,ls];refine(SR.asInt hy).aD λq n hq=>?_;have h:=h.mono hq;refine SR.ite (λ_=>?_) λ_=>SR.ite (λ_=>SR.unsupported) λ_=>?_
 .exact(SR.viewAt h.1).bind λq x y hq LO=>by
   rw[LO.1,LO.2];exact SR.pure ⟨_,_,rfl,rfl,h.mono hq⟩
 .refine(SR.shape h.1).aD λq x hq=>?_;cases x with
  |none=>exact SR.unsupported
  |some x=>
   obtain⟨e,cells⟩:=x;refine SR.nU ?_;try simp only[kc,du,jN,dv,eI,eG,eH,jM]
   simp only[<-h.2.1];split
   .rename_i off _;exact SR.pure ⟨{a with off},{a' with off},rfl,rfl,hq _ _ h.1,rfl,h.2.2⟩
   .exact SR.unsupported
theorem SR.asNumber (h:im p a a') (l:Bool):SR P F S K N (QV S) (Go.asNumber a l) (Go.asNumber a' l) p:=by
 unfold Go.asNumber;exact(SR.newObj (.number l h) λ_ _ _ _ _ _ _ a=>by cases a).bind λq r r' hq hr=>SR.pure (.ptr 0 none hr.1)
theorem SR.movedNumber (t:TypeId) (hx:VR S p x x') (hy:VR S p y y'):SR P F S K N (QV S) (Go.movedNumber t x y) (Go.movedNumber t x' y') p:=by
 unfold Go.movedNumber;refine SR.cP λd hd=>?_;dsimp only;refine SR.ite (λ_=>SR.unsupported) λ_=>?_;cases x with
 |pointer a=>
  cases a with
  |none=>
   cases hx;show SR P F S K N (QV S) (Builtin.unsafeAdd_ #[] t #[.pointer none,y]) (Builtin.unsafeAdd_ #[] t #[.pointer none,y']) p;show SR P F S K N (QV S) (Go.asInt y>>=_) (Go.asInt y'>>=_) p;refine(SR.asInt hy).aD λq n hq=>?_;dsimp only;refine SR.ite (λ_=>SR.unsupported) λ_=>SR.ite (λ_=>SR.unsupported) λ_=>SR.unsupported
  |some a=>
   obtain⟨r,o,sp⟩:=a;cases hx with
   |ptr _ _ h=>
   rename_i r';refine(SR.behindNumber (a:=⟨r,o,sp⟩) (a':=⟨r',o,sp⟩) ⟨h,rfl,rfl⟩).bind λq a a' hq ha=>?_;obtain⟨a,l⟩:=a;obtain⟨a',l'⟩:=a';obtain⟨ha,hl⟩:=ha;simp only at hl ha;subst hl;simp only;refine(SR.unsafeAdd ha (hy.mono hq)).bind λq v v' hq hv=>?_;obtain⟨b,b',rfl,rfl,h⟩:=hv;exact SR.asNumber h l
 |_=>
  cases hx<;>exact(SR.stuck:SR P F S K N (QV S) (Go.stuck "unsafe.Add: a pointer and an integer expected") _ p)
theorem SR.twoPlaces {b b':Addr} (ha:im p a a') (hb:im p b b'):SR P F S K N (QE (Nat×Nat)) (Op.twoPlaces a b) (Op.twoPlaces a' b') p:=by
 unfold Op.twoPlaces;refine SR.nU ?_;try simp only[kc,du,jN,dv,eI,eG,eH,jM]
 intro hp
 have e:(a.block !=b.block||decide (a.block>=P.globals.size))=(a'.block !=b'.block||decide (a'.block>=P.globals.size)):=by
  have h1:=hp.inj _ _ _ _ ha.1 hb.1;have h2:=hp.fix _ _ ha.1;rw[zDQ];simp only[zBN,bne_iff_ne,zBZ,ne_eq];by_cases hg:a.block<P.globals.size
  .have h1:=h1 λ_=>hg;omega
  .omega
 rw[e];revert hp;show SR P F S K N (QE (Nat×Nat)) _ _ p;try dsimp only
 refine SR.ite (λ_=>SR.unsupported) λ_=>?_;exact(SR.byteOf ha).aD λq x hq=>(SR.byteOf (hb.mono hq)).aD λq y hq=>SR.pure rfl
theorem SR.addrSub (k:IntKind) {b b':Addr} (ha:im p a a') (hb:im p b b'):SR P F S K N (QV S) (Op.addrSub k a b) (Op.addrSub k a' b') p:=
 (SR.twoPlaces ha hb).aD λq x hq=>SR.pure (.int _ _)
theorem SR.addrCmp (op:BinOp) {b b':Addr} (ha:im p a a') (hb:im p b b'):SR P F S K N (QV S) (Op.addrCmp op a b) (Op.addrCmp op a' b') p:=by
 refine(SR.twoPlaces ha hb).aD λq x hq=>?_;cases op<;>first|exact SR.pure (.bool _)|exact SR.unsupported
theorem SR.addrMod (k:IntKind) (ha:im p a a') (n:Int):SR P F S K N (QV S) (Op.addrMod k a n) (Op.addrMod k a' n) p:=by
 unfold Op.addrMod;refine(SR.shape ha.1).aD λq x hq=>?_;cases x with
 |none=>exact SR.unsupported
 |some x=>
  obtain⟨e,m⟩:=x;simp only;refine SR.nV λi hi=>?_;refine SR.ite (λ_=>SR.unsupported) λ_=>?_;exact(SR.byteOf (ha.mono hq)).aD λq x hq=>SR.pure (.int _ _)
theorem SR.equal (hc:aK P) (ht:cH P n t=true) (hx:VR S p x x') (hy:VR S p y y'):SR P F S K N (QE Bool) (Op.equal t x y) (Op.equal t x' y') p:=
 SR.equalIn hc _ n t ht hx hy
def mS (P:Program) (op:BinOp) (t:TypeId):Bool:=
 match op with
 |.eql|.neq=>cH P 10 t&&!P.eqGuardType P.depth t
 |.add|.sub=>match P.underlying t with|some .unsafePointer=>false|_=>true
 |_=>true
end
section
variable {P:Program} {F:Array Func} {S:Nat->Bool} {K:Kz} {N:Nat} {p:Pi}
theorem SR.QJ (op:BinOp) (t:TypeId) (k k':IntKind) (a b:Int):SR P F S K N (QV S) (Go.binOp op t (.int k a) (.int k' b)) (Go.binOp op t (.int k a) (.int k' b)) p:=by
 have key:∀(s:Sem Value),SR P F S K N (QV S) s s p->SR P F S K N (QV S) (if k≠k' then Go.stuck "BinOp: operands of different kinds" else s) (if k≠k' then Go.stuck "BinOp: operands of different kinds" else s) p:=fun s h=>SR.ite (fun _=>SR.stuck) fun _=>h;cases op;case shl=>exact SR.shift .shl k a k' b
 case shr=>exact SR.shift .shr k a k' b
 case quo=>exact key _ (SR.intDiv .quo k a b)
 case rem=>exact key _ (SR.intDiv .rem k a b)
 case add=>exact key _ (SR.intArith .add k a b)
 case sub=>exact key _ (SR.intArith .sub k a b)
 case mul=>exact key _ (SR.intArith .mul k a b)
 case and=>exact key _ (SR.intBits .and k a b)
 case or=>exact key _ (SR.intBits .or k a b)
 case xor=>exact key _ (SR.intBits .xor k a b)
 case andNot=>exact key _ (SR.intBits .andNot k a b)
 all_goals exact key _ (SR.intCmp _ a b)
theorem SR.QK (op:BinOp) (t:TypeId) (a b:ByteArray):SR P F S K N (QV S) (Go.binOp op t (.string a) (.string b)) (Go.binOp op t (.string a) (.string b)) p:=by
 cases op;case add=>exact SR.stringOp .add a b
 case sub=>exact SR.stringOp .sub a b
 case mul=>exact SR.stringOp .mul a b
 case quo=>exact SR.stringOp .quo a b
 case rem=>exact SR.stringOp .rem a b
 case and=>exact SR.stringOp .and a b
 case or=>exact SR.stringOp .or a b
 case xor=>exact SR.stringOp .xor a b
 case andNot=>exact SR.stringOp .andNot a b
 case shl=>exact SR.stringOp .shl a b
 case shr=>exact SR.stringOp .shr a b
 case eql=>exact SR.stringOp .eql a b
 case neq=>exact SR.stringOp .neq a b
 case lss=>exact SR.stringOp .lss a b
 case leq=>exact SR.stringOp .leq a b
 case gtr=>exact SR.stringOp .gtr a b
 case geq=>exact SR.stringOp .geq a b
def fg:Value->Value->Bool
 |.int _ _,.int _ _|.string _,.string _=>true
 |_,_=>false
theorem SR.Mg (hc:aK P) (t:TypeId) (hx:VR S p x x') (hy:VR S p y y') (h:fg x y=false):SR P F S K N (QV S) (Go.binOp .mul t x y) (Go.binOp .mul t x' y') p:=by
 cases hx<;>cases hy<;>first|exact SR.stuck|exact SR.unsupported|(cases h;done)|skip
theorem SR.Mh (hc:aK P) (t:TypeId) (hx:VR S p x x') (hy:VR S p y y') (h:fg x y=false):SR P F S K N (QV S) (Go.binOp .quo t x y) (Go.binOp .quo t x' y') p:=by
 cases hx<;>cases hy<;>first|exact SR.stuck|exact SR.unsupported|(cases h;done)|skip
theorem SR.Mi (hc:aK P) (t:TypeId) (hx:VR S p x x') (hy:VR S p y y') (h:fg x y=false):SR P F S K N (QV S) (Go.binOp .rem t x y) (Go.binOp .rem t x' y') p:=by
 cases hx<;>cases hy<;>first|exact SR.stuck|exact SR.unsupported|(cases h;done)|skip
 all_goals
  rename_i r r' o sp g k n;exact SR.bind (SR.behindNumber (a:=⟨r,o,sp⟩) (a':=⟨r',o,sp⟩) ⟨g,rfl,rfl⟩) λq a a' hq ha=>(SR.addrMod k ha.1 n)
theorem SR.Mj (hc:aK P) (t:TypeId) (hx:VR S p x x') (hy:VR S p y y') (h:fg x y=false):SR P F S K N (QV S) (Go.binOp .and t x y) (Go.binOp .and t x' y') p:=by
 cases hx<;>cases hy<;>first|exact SR.stuck|exact SR.unsupported|(cases h;done)|skip
 .rename_i k n r r' o sp g;exact SR.bind (SR.behindNumber (a:=⟨r,o,sp⟩) (a':=⟨r',o,sp⟩) ⟨g,rfl,rfl⟩) λq a a' hq ha=>SR.addrMod k ha.1 (n+1)
 .rename_i r r' o sp g k n;exact SR.bind (SR.behindNumber (a:=⟨r,o,sp⟩) (a':=⟨r',o,sp⟩) ⟨g,rfl,rfl⟩) λq a a' hq ha=>SR.addrMod k ha.1 (n+1)
theorem SR.QL (hc:aK P) (t:TypeId) (hx:VR S p x x') (hy:VR S p y y') (h:fg x y=false):SR P F S K N (QV S) (Go.binOp .or t x y) (Go.binOp .or t x' y') p:=by
 cases hx<;>cases hy<;>first|exact SR.stuck|exact SR.unsupported|(cases h;done)|skip
theorem SR.Ml (hc:aK P) (t:TypeId) (hx:VR S p x x') (hy:VR S p y y') (h:fg x y=false):SR P F S K N (QV S) (Go.binOp .xor t x y) (Go.binOp .xor t x' y') p:=by
 cases hx<;>cases hy<;>first|exact SR.stuck|exact SR.unsupported|(cases h;done)|skip
theorem SR.BT (hc:aK P) (t:TypeId) (hx:VR S p x x') (hy:VR S p y y') (h:fg x y=false):SR P F S K N (QV S) (Go.binOp .andNot t x y) (Go.binOp .andNot t x' y') p:=by
 cases hx<;>cases hy<;>first|exact SR.stuck|exact SR.unsupported|(cases h;done)|skip
theorem SR.Mm (hc:aK P) (t:TypeId) (hx:VR S p x x') (hy:VR S p y y') (h:fg x y=false):SR P F S K N (QV S) (Go.binOp .shl t x y) (Go.binOp .shl t x' y') p:=by
 cases hx<;>cases hy<;>first|exact SR.stuck|exact SR.unsupported|(cases h;done)|skip
theorem SR.Mo (hc:aK P) (t:TypeId) (hx:VR S p x x') (hy:VR S p y y') (h:fg x y=false):SR P F S K N (QV S) (Go.binOp .shr t x y) (Go.binOp .shr t x' y') p:=by
 cases hx<;>cases hy<;>first|exact SR.stuck|exact SR.unsupported|(cases h;done)|skip
theorem SR.Mp (hc:aK P) (t:TypeId) (hx:VR S p x x') (hy:VR S p y y') (h:fg x y=false):SR P F S K N (QV S) (Go.binOp .lss t x y) (Go.binOp .lss t x' y') p:=by
 cases hx<;>cases hy<;>first|exact SR.stuck|exact SR.unsupported|(cases h;done)|skip
 .rename_i r r' o sp g r2 FF o2 qW g2
  exact SR.bind (SR.behindNumber (a:=⟨r,o,sp⟩) (a':=⟨r',o,sp⟩) ⟨g,rfl,rfl⟩) λq a a' hq ha=>
   SR.bind (SR.behindNumber (a:=⟨r2,o2,qW⟩) (a':=⟨FF,o2,qW⟩) ⟨hq _ _ g2,rfl,rfl⟩) λq2 b b' cG hb=>SR.addrCmp .lss (ha.1.mono cG) hb.1
theorem SR.Mq (hc:aK P) (t:TypeId) (hx:VR S p x x') (hy:VR S p y y') (h:fg x y=false):SR P F S K N (QV S) (Go.binOp .leq t x y) (Go.binOp .leq t x' y') p:=by
 cases hx<;>cases hy<;>first|exact SR.stuck|exact SR.unsupported|(cases h;done)|skip
 .rename_i r r' o sp g r2 FF o2 qW g2
  exact SR.bind (SR.behindNumber (a:=⟨r,o,sp⟩) (a':=⟨r',o,sp⟩) ⟨g,rfl,rfl⟩) λq a a' hq ha=>
   SR.bind (SR.behindNumber (a:=⟨r2,o2,qW⟩) (a':=⟨FF,o2,qW⟩) ⟨hq _ _ g2,rfl,rfl⟩) λq2 b b' cG hb=>SR.addrCmp .leq (ha.1.mono cG) hb.1
theorem SR.Mr (hc:aK P) (t:TypeId) (hx:VR S p x x') (hy:VR S p y y') (h:fg x y=false):SR P F S K N (QV S) (Go.binOp .gtr t x y) (Go.binOp .gtr t x' y') p:=by
 cases hx<;>cases hy<;>first|exact SR.stuck|exact SR.unsupported|(cases h;done)|skip
 .rename_i r r' o sp g r2 FF o2 qW g2
  exact SR.bind (SR.behindNumber (a:=⟨r,o,sp⟩) (a':=⟨r',o,sp⟩) ⟨g,rfl,rfl⟩) λq a a' hq ha=>
   SR.bind (SR.behindNumber (a:=⟨r2,o2,qW⟩) (a':=⟨FF,o2,qW⟩) ⟨hq _ _ g2,rfl,rfl⟩) λq2 b b' cG hb=>SR.addrCmp .gtr (ha.1.mono cG) hb.1
theorem SR.Ms (hc:aK P) (t:TypeId) (hx:VR S p x x') (hy:VR S p y y') (h:fg x y=false):SR P F S K N (QV S) (Go.binOp .geq t x y) (Go.binOp .geq t x' y') p:=by
 cases hx<;>cases hy<;>first|exact SR.stuck|exact SR.unsupported|(cases h;done)|skip
 .rename_i r r' o sp g r2 FF o2 qW g2
  exact SR.bind (SR.behindNumber (a:=⟨r,o,sp⟩) (a':=⟨r',o,sp⟩) ⟨g,rfl,rfl⟩) λq a a' hq ha=>
   SR.bind (SR.behindNumber (a:=⟨r2,o2,qW⟩) (a':=⟨FF,o2,qW⟩) ⟨hq _ _ g2,rfl,rfl⟩) λq2 b b' cG hb=>SR.addrCmp .geq (ha.1.mono cG) hb.1
theorem SR.Mt (hc:aK P) (t:TypeId) (hu:P.underlying t≠some .unsafePointer) (hx:VR S p x x') (hy:VR S p y y') (h:fg x y=false):SR P F S K N (QV S) (Go.binOp .add t x y) (Go.binOp .add t x' y') p:=by
 have key:∀{a a' b b':Value},VR S p a a'->VR S p b b'->SR P F S K N (QV S) (Go.underlying t>>=λu=>if(match u with|.unsafePointer=>true|_=>false)=true then Go.movedPointer t a b else Go.movedNumber t a b) (Go.underlying t>>=λu=>if(match u with|.unsafePointer=>true|_=>false)=true then Go.movedPointer t a' b' else Go.movedNumber t a' b') p:=by
  intro a a' b b' ha hb;refine SR.cP λd hd=>?_;have bE:d≠ .unsafePointer:=λe=>hu (e▸hd);cases d<;>first|exact absurd rfl bE|exact SR.movedNumber t ha hb
 have rz:=hx;have hy0:=hy;cases hx<;>cases hy<;>first|exact SR.stuck|exact SR.unsupported|(cases h;done)|exact key rz hy0|exact SR.movedNumber t hy0 rz
theorem SR.Mw (hc:aK P) (t:TypeId) (hx:VR S p x x') (hy:VR S p y y') (h:fg x y=false):SR P F S K N (QV S) (Go.binOp .sub t x y) (Go.binOp .sub t x' y') p:=by
 have rz:=hx;cases hx<;>cases hy<;>first|exact SR.stuck|exact SR.unsupported|(cases h;done)|skip
 .rename_i k n;exact SR.movedNumber t rz (.int k (-n))
 .rename_i r r' o sp g k n;exact SR.movedNumber t rz (.int k (-n))
 .rename_i r r' o sp g r2 FF o2 qW g2
  exact SR.bind (SR.behindNumber (a:=⟨r,o,sp⟩) (a':=⟨r',o,sp⟩) ⟨g,rfl,rfl⟩) λq a a' hq ha=>
   SR.bind (SR.behindNumber (a:=⟨r2,o2,qW⟩) (a':=⟨FF,o2,qW⟩) ⟨hq _ _ g2,rfl,rfl⟩) λq2 b b' cG hb=>SR.addrSub .u64 (ha.1.mono cG) hb.1
theorem av.Va {k:Program->Sem α} (h:av P (k P)):av P (Sem.program k):=λw es=>h w es
theorem av.stuck (x:String):av P (Go.stuck x:Sem α):=λw es=>⟨_,w,es,rfl,trivial⟩
theorem kd (ht:cH P n t=true) (h:x=.tuple #[]\/y=.tuple #[]):av P (Op.equal t x y):=by
 obtain⟨d,hd⟩:∃d,Op.maxDepth=d+1:=⟨_,rfl⟩
 unfold Op.equal;rw[hd];simp only[Op.equalIn];unfold Go.underlying;refine av.Va (k:=fun P=>Sem.bind (match P.underlying t with|some i=>Pure.pure i|none=>Go.stuck "no such type") _) ?_;cases n with
 |zero=>simp[cH]at ht
 |succ n=>
 cases hu:P.underlying t with
 |none=>exact av.bind (av.stuck _) _
 |some u=>
  simp only[cH,hu]at ht;cases u<;>first|(cases ht;done)|skip
  all_goals rcases h with rfl|rfl
  all_goals first
   |exact λw es=>⟨_,w,es,rfl,trivial⟩
   |(cases y<;>exact λw es=>⟨_,w,es,rfl,trivial⟩)
   |(cases x<;>first|exact λw es=>⟨_,w,es,rfl,trivial⟩|(rename_i a;cases a<;>exact λw es=>⟨_,w,es,rfl,trivial⟩)|(rename_i a l c;cases a<;>cases l<;>cases c<;>exact λw es=>⟨_,w,es,rfl,trivial⟩))
theorem iG (f:Bool->Sem β):wE (Op.equal t x y>>=f)=true:=by
 obtain⟨d,hd⟩:∃d,Op.maxDepth=d+1:=⟨_,rfl⟩
 unfold Op.equal;rw[hd];rfl
theorem rA (t:TypeId) (h:fg x y=false) (hj:x=.tuple #[]\/y=.tuple #[]):Go.binOp .eql t x y=(Op.equal t x y>>=λb=>Pure.pure (.bool b)):=by
 rcases hj with rfl|rfl
 .cases y<;>rfl
 .cases x<;>rfl
theorem rB (t:TypeId) (h:fg x y=false) (hj:x=.tuple #[]\/y=.tuple #[]):Go.binOp .neq t x y=(Op.equal t x y>>=λb=>Pure.pure (.bool !b)):=by
 rcases hj with rfl|rfl
 .cases y<;>rfl
 .cases x<;>rfl
theorem SR.rA (hc:aK P) (t:TypeId) (ht:cH P n t=true) (hx:VR S p x x') (hy:VR S p y y') (h:fg x y=false):SR P F S K N (QV S) (Go.binOp .eql t x y) (Go.binOp .eql t x' y') p:=by
 by_cases hj:p.l=false/\(x=.tuple #[]\/y=.tuple #[])
 .rw[aC.rA t h hj.2];exact SR.jy (.inr ⟨hj.1,av.bind (kd ht hj.2) _⟩) (iG _)
 have key:SR P F S K N (QV S) (Op.equal t x y>>=λb=>Pure.pure (.bool b)) (Op.equal t x' y'>>=λb=>Pure.pure (.bool b)) p:=(SR.equal hc ht hx hy).aD λq b hq=>SR.pure (.bool b);cases hx<;>cases hy<;>first|exact key|(cases h;done)|exact absurd ⟨by assumption,.inl rfl⟩ hj|exact absurd ⟨by assumption,.inr rfl⟩ hj
theorem SR.rB (hc:aK P) (t:TypeId) (ht:cH P n t=true) (hx:VR S p x x') (hy:VR S p y y') (h:fg x y=false):SR P F S K N (QV S) (Go.binOp .neq t x y) (Go.binOp .neq t x' y') p:=by
 by_cases hj:p.l=false/\(x=.tuple #[]\/y=.tuple #[])
 .rw[aC.rB t h hj.2];exact SR.jy (.inr ⟨hj.1,av.bind (kd ht hj.2) _⟩) (iG _)
 have key:SR P F S K N (QV S) (Op.equal t x y>>=λb=>Pure.pure (.bool !b)) (Op.equal t x' y'>>=λb=>Pure.pure (.bool !b)) p:=(SR.equal hc ht hx hy).aD λq b hq=>SR.pure (.bool !b);cases hx<;>cases hy<;>first|exact key|(cases h;done)|exact absurd ⟨by assumption,.inl rfl⟩ hj|exact absurd ⟨by assumption,.inr rfl⟩ hj
theorem SR.binOp (hc:aK P) (op:BinOp) (t:TypeId) (ho:mS P op t=true) (hx:VR S p x x') (hy:VR S p y y'):SR P F S K N (QV S) (Go.binOp op t x y) (Go.binOp op t x' y') p:=by
 cases hp:fg x y with
 |true=>
  cases hx<;>first|(cases hp;done)|(cases hy<;>first|(cases hp;done)|exact SR.QJ op t _ _ _ _|exact SR.QK op t _ _)
 |false=>
  cases op;case add=>exact SR.Mt hc t (λe=>by simp[mS,e]at ho) hx hy hp
  case sub=>exact SR.Mw hc t hx hy hp
  case mul=>exact SR.Mg hc t hx hy hp
  case quo=>exact SR.Mh hc t hx hy hp
  case rem=>exact SR.Mi hc t hx hy hp
  case and=>exact SR.Mj hc t hx hy hp
  case or=>exact SR.QL hc t hx hy hp
  case xor=>exact SR.Ml hc t hx hy hp
  case andNot=>exact SR.BT hc t hx hy hp
  case shl=>exact SR.Mm hc t hx hy hp
  case shr=>exact SR.Mo hc t hx hy hp
  case lss=>exact SR.Mp hc t hx hy hp
  case leq=>exact SR.Mq hc t hx hy hp
  case gtr=>exact SR.Mr hc t hx hy hp
  case geq=>exact SR.Ms hc t hx hy hp
  case eql=>exact SR.rA hc t (by simp only[mS,zAE]at ho;exact ho.1) hx hy hp
  case neq=>exact SR.rB hc t (by simp only[mS,zAE]at ho;exact ho.1) hx hy hp
end
section
variable {P:Program} {F:Array Func} {S:Nat->Bool} {K:Kz} {N:Nat} {p:Pi}
theorem SR.BU (t:TypeId) (ht:cH P n t=true):∀d,SR P F S K N (QE Bool) (Op.eqGuardIn d t .nilIface .nilIface) (Op.eqGuardIn d t .nilIface .nilIface) p
 |0=>SR.unsupported
 |d+1=>by
  simp only[Op.eqGuardIn];refine SR.cP λu hu=>?_;cases n with
  |zero=>simp[cH]at ht
  |succ n=>
   simp only[cH,hu]at ht;cases u<;>first|exact SR.pure rfl|(cases ht;done)
def gv (t:TypeId) (x y:Operand) (a b:Value):Sem Unit:=
 match a,b with
 |.nilIface,.nilIface=>
  if((x matches .const _)||(y matches .const _))=true then Pure.pure ()
  else Op.eqGuardIn Op.maxDepth t .nilIface .nilIface>>=fun g=>if g=true then Go.unsupported (.noEntry "binop/eql: two nil values of an interface type with methods, neither of them the literal nil")else Pure.pure ()
 |.agg xs,.agg ys=>Go.program>>=λq=>Go.program>>=λr=>
  if(!q.eqGuardType r.depth t)=true then Pure.pure ()
  else Op.eqGuardIn Op.maxDepth t (.agg xs) (.agg ys)>>=fun g=>if g=true then Go.unsupported (.noEntry "binop/eql: two nil values of an interface type with methods, in a part of a struct or an array")else Pure.pure ()
 |_,_=>Pure.pure ()
theorem pr (t:TypeId) (x y:Operand) (a b:Value):Go.eqGuard .eql t x y a b=gv t x y a b:=by
 cases a<;>cases b<;>rfl
theorem pu (t:TypeId) (x y:Operand) (a b:Value):Go.eqGuard .neq t x y a b=gv t x y a b:=by
 cases a<;>cases b<;>rfl
theorem SR.gv (t:TypeId) (ht:cH P 10 t=true) (hg:P.eqGuardType P.depth t=false) (x y:Operand) {a a':Value} (ha:VR S p a a') (hb:VR S p b b') (hja:p.l=false->a≠ .tuple #[]) (wJ:p.l=false->b≠ .tuple #[]):SR P F S K N (QE Unit) (gv t x y a b) (gv t x y a' b') p:=by
 cases ha<;>first|exact SR.pure rfl|exact absurd rfl (hja (by assumption))|(cases hb<;>first|exact SR.pure rfl|exact absurd rfl (wJ (by assumption))|skip)
 .refine SR.ite (λ_=>SR.pure rfl) λ_=>?_;exact(SR.BU t ht Op.maxDepth).aD λq g hq=>SR.ite (λ_=>SR.unsupported) λ_=>SR.pure rfl
 .refine SR.nU (SR.nU ?_);have FH:(ae P F).eqGuardType (ae P F).depth t=false:=by rw[jM,lp,hg]
  rw[hg,FH];exact SR.pure rfl
theorem SR.eqGuard (op:BinOp) (t:TypeId) (ho:mS P op t=true) (x y:Operand) {a a':Value} (ha:VR S p a a') (hb:VR S p b b') (hj:p.l=false->¬((op=.eql\/op=.neq)/\(a=.tuple #[]\/b=.tuple #[]))):SR P F S K N (QE Unit) (Go.eqGuard op t x y a b) (Go.eqGuard op t x y a' b') p:=by
 cases op
 case eql=>
  simp only[mS,zAE,zCF]at ho;rw[pr,pr];exact SR.gv t ho.1 ho.2 x y ha hb (λx e=>hj x ⟨.inl rfl,.inl e⟩) λx e=>hj x ⟨.inl rfl,.inr e⟩
 case neq=>
  simp only[mS,zAE,zCF]at ho;rw[pu,pu];exact SR.gv t ho.1 ho.2 x y ha hb (λx e=>hj x ⟨.inr rfl,.inl e⟩) λx e=>hj x ⟨.inr rfl,.inr e⟩
 all_goals exact SR.pure rfl
inductive EL (S:Nat->Bool) (p:Pi):List MapEntry->List MapEntry->Prop
 |nil:EL S p [] []
 |cons {e e':MapEntry} {l l':List MapEntry} (h:ER S p e e') (t:EL S p l l'):EL S p (e::l) (e'::l')
theorem EL.mono {q:Pi} (h:Le p q) {l l':List MapEntry} (x:EL S p l l'):EL S q l l':=by
 induction x with
 |nil=>exact .nil
 |cons g _ ih=>exact .cons (g.mono h) ih
theorem EL.of:∀{l l':List MapEntry},l.length=l'.length->(∀(i:Nat) e e',l[i]?=some e->l'[i]?=some e'->ER S p e e')->EL S p l l'
 | [],[],_,_=>.nil
 | [],_::_,h,_=>by cases h
 |_::_,[],h,_=>by cases h
 |e::l,e'::l',h,g=>.cons (g 0 e e' rfl rfl) (EL.of (by simpa using h) λi a b h1 h2=>g (i+1) a b h1 h2)
theorem pv {S:Nat->Bool} (hJ:S JK=false) (h:S JK=true):False:=by rw[hJ]at h;cases h
theorem qk (d:TypeDesc) {a a':Value} (ha:VR S p a a') (hb:VR S p b b'):Instr.sameNow d a b=Instr.sameNow d a' b':=by
 cases ha with
 |pn _ hj hv=>cases d<;>cases a'<;>first|(cases hv;done)|rfl
 |_=>
  cases hb with
  |pn _ hj hv=>cases d<;>cases b'<;>first|(cases hv;done)|rfl
  |_=>cases d<;>rfl
def io:Value->Bool
 |.bool _|.int _ _|.string _|.pointer _=>true
 |_=>false
def y9 (P:Program) (t:TypeId):Bool:=match P.underlying t with
 |some .bool|some (.int _)|some .string=>true
 |_=>false
theorem wK {d:TypeDesc} {a:Value} {c:Bool} (h:Instr.sameNow d a b=some c):io a=true/\io b=true:=by
 cases d<;>cases a<;>first|(cases h;done)|(cases b<;>first|(cases h;done)|exact⟨rfl,rfl⟩)
theorem qX (ht:y9 P t=true) (h:¬(io x=true/\io y=true)):av P (Op.equal t x y):=by
 obtain⟨d,hd⟩:∃d,Op.maxDepth=d+1:=⟨_,rfl⟩
 unfold Op.equal;rw[hd];simp only[Op.equalIn];unfold Go.underlying;refine av.Va (k:=fun P=>Sem.bind (match P.underlying t with|some i=>Pure.pure i|none=>Go.stuck "no such type") _) ?_;cases hu:P.underlying t with
 |none=>exact av.bind (av.stuck _) _
 |some u=>
  simp only[y9,hu]at ht;cases u<;>first|(cases ht;done)|skip
  all_goals
   cases x<;>first
    |exact λw es=>⟨_,w,es,rfl,trivial⟩
    |(cases y<;>first
       |exact absurd ⟨rfl,rfl⟩ h
       |exact λw es=>⟨_,w,es,rfl,trivial⟩)
    |(rename_i o;cases o<;>cases y<;>first
       |exact absurd ⟨rfl,rfl⟩ h
       |exact λw es=>⟨_,w,es,rfl,trivial⟩)
theorem za (d:TypeDesc) (hk:VR S p k k'):∀{l l':List MapEntry},EL S p l l'->∀i,
 (Instr.findNow d k l i=none/\Instr.findNow d k' l' i=none)\/(Instr.findNow d k l i=some none/\Instr.findNow d k' l' i=some none)\/
   ∃j v v',Instr.findNow d k l i=some (some (i+j,v))/\Instr.findNow d k' l' i=some (some (i+j,v'))/\VR S p v v'/\∃e,l[j]?=some e/\io k=true/\io e.key=true:=by
 intro l l' h;induction h with
 |nil=>intro i;exact .inr (.inl ⟨rfl,rfl⟩)
 | @cons e e' l l' he _ ih=>
   intro i;simp only[Instr.findNow];rw[qk d hk he.1];cases hs:Instr.sameNow d k' e'.key with
   |none=>exact .inl ⟨rfl,rfl⟩
   |some b=>
    have hl:=wK ((qk d hk he.1).trans hs);cases b with
    |true=>exact .inr (.inr ⟨0,_,_,rfl,rfl,he.2.1,e,rfl,hl.1,hl.2⟩)
    |false=>
     rcases ih (i+1)with h|h|⟨j,v,v',h1,h2,h3,e2,h4,h5,h6⟩
     .exact .inl h
     .exact .inr (.inl h)
     .refine .inr (.inr ⟨j+1,v,v',?_,?_,h3,e2,by simpa using h4,h5,h6⟩)
      .rw[show i+(j+1)=i+1+j by omega];exact h1
      .rw[show i+(j+1)=i+1+j by omega];exact h2
def FR (S:Nat->Bool) (p:Pi) (G:Nat->Prop):Option (Nat×Value)->Option (Nat×Value)->Prop
 |none,none=>True
 |some x,some y=>x.1=y.1/\VR S p x.2 y.2/\G x.1
 |_,_=>False
theorem SR.findAsking (hc:aK P) (ht:cH P n t=true) (hJ:S JK=true->y9 P t=true) (G:Nat->Prop):∀{l l':List MapEntry} {p:Pi} {k k':Value} (i:Nat),(p.l=true->S JK=false)->(∀j e,l[j]?=some e->(S JK=true->io k=true/\io e.key=true)->G (i+j))->VR S p k k'->EL S p l l'->
 SR P F S K N (λq a b=>FR S q G a b) (Instr.findAsking t k l i) (Instr.findAsking t k' l' i) p
 | [],_,p,k,k',i,zb,hG,hk,h=>by cases h;exact SR.pure trivial
 |e::l,_,p,k,k',i,zb,hG,hk,h=>by
  cases h with
  | @cons _ e' _ l' he hl=>
  simp only[Instr.findAsking];by_cases hj:S JK=true->io k=true/\io e.key=true
  .refine(SR.equal hc ht hk he.1).aD λq b hq=>?_;refine SR.ite (λ_=>SR.pure ⟨rfl,he.2.1.mono hq,hG 0 e rfl hj⟩) λ_=>SR.findAsking hc ht hJ G (i+1) (λx=>zb (hq.l.symm.trans x)) (λj e2 h1 h2=>?_) (hk.mono hq) (hl.mono hq);have:=hG (j+1) e2 (by simpa using h1) h2;rwa [show i+(j+1)=i+1+j by omega]at this
  .have h1:S JK=true:=zBF λh=>hj λh2=>absurd h2 h;exact SR.jy (.inr ⟨(by cases hl:p.l with|false=>rfl|true=>rw[zb hl]at h1;cases h1),av.bind (qX (hJ h1) λh2=>hj λ_=>h2) _⟩) (iG _)
theorem SR.findKey (zb:p.l=true->S JK=false) (hc:aK P) (ht:cH P n t=true) (hJ:S JK=true->y9 P t=true) {l l':List MapEntry} (hk:VR S p k k') (h:EL S p l l'):
 SR P F S K N (λq a b=>FR S q (λj=>S JK=true->io k=true/\∀e,l[j]?=some e->io e.key=true) a b) (Instr.findKey t k l) (Instr.findKey t k' l') p:=by
 unfold Instr.findKey;refine SR.cP λu hu=>?_;rcases za u hk h 0 with⟨e1,e2⟩|⟨e1,e2⟩|⟨j,v,v',e1,e2,hv,e,he,h5,h6⟩
 .rw[e1,e2];refine SR.findAsking hc ht hJ _ 0 zb (λj e he hg hj=>?_) hk h;refine⟨(hg hj).1,λe2 zc=>?_⟩;rw[zDG,he]at zc;cases zc;exact(hg hj).2
 .rw[e1,e2];exact SR.pure trivial
 .rw[e1,e2];refine SR.pure ⟨rfl,hv,λ_=>⟨h5,λe2 zc=>?_⟩⟩;rw[show(0+j,v).1=j by simp,he]at zc;cases zc;exact h6
theorem SR.checkKey (b:Bool):∀(d n:Nat) (t:TypeId) {p:Pi} {k k':Value},cH P n t=true->VR S p k k'->SR P F S K N (QE Unit) (Instr.checkKey b d t k) (Instr.checkKey b d t k') p
 |0,_,_,_,_,_,_,_=>SR.unsupported
 |d+1,0,_,_,_,_,h,_=>by simp[cH]at h
 |d+1,n+1,t,p,k,k',ht,hk=>by
  simp only[Instr.checkKey];refine SR.cP λu hu=>?_;simp only[cH,hu]at ht;cases u with
  |array len e=>
   cases hk<;>first|exact SR.stuck|skip
   rename_i xs cX Eb QI;have ax:AR S p xs cX:=⟨Eb,QI⟩
   simp only;refine SR.aD (α:=PUnit) ?_ λq r hq=>SR.pure rfl;simp only[Std.Legacy.Range.forIn_eq_forIn_range'];refine SR.rW (p:=p) _ _ _ (λi hi b q2 cG=>?_) _ p (Le.refl _);refine(SR.sizeOf e).aD λq3 m gK=>?_;refine(SR.part e ((ax.mono cG).mono gK) _).bind λq4 v v' Is hv=>?_;exact(SR.checkKey _ d n e ht hv).aD λq5 _ Ui=>SR.pure rfl
  |struct fs=>
   simp only[zAE]at ht
   have bT:∀f∈fs.toList,cH P n f.type=true:=λf hf=>by
    obtain⟨i,hi,he⟩:=zCI hf;have:=zBO.1 ht.2 i (by simpa using hi);rw[<-he];simpa using this
   cases hk<;>first|exact SR.stuck|skip
   rename_i xs cX Eb QI;have ax:AR S p xs cX:=⟨Eb,QI⟩
   simp only;refine SR.aD (α:=PUnit) ?_ λq r hq=>SR.pure rfl;rw[<-zDX,<-zDX];refine SR.rW (p:=p) _ _ _ (λf hf b q2 cG=>?_) _ p (Le.refl _);refine SR.ite (λ_=>?_) λ_=>SR.pure rfl;refine(SR.part f.type (ax.mono cG) _).bind λq4 v v' Is hv=>?_;exact(SR.checkKey _ d n f.type (bT f hf) hv).aD λq5 _ Ui=>SR.pure rfl
  |bool=>cases hk<;>exact SR.pure rfl
  |int k=>cases hk<;>exact SR.pure rfl
  |string=>cases hk<;>exact SR.pure rfl
  |slice e=>cases hk<;>exact SR.pure rfl
  |_=>cases ht
end
section
variable {P:Program} {F:Array Func} {S:Nat->Bool} {K:Kz} {N:Nat} {p:Pi}
theorem OR.mapList {es dc:Array MapEntry} (h:es.size=dc.size) (g:∀(i:Nat) (e e':MapEntry),es[i]?=some e->dc[i]?=some e'->ER S p e e'):EL S p es.toList dc.toList:=
 EL.of (by simpa using h) λi e e' h1 h2=>g i e e' (by simpa using h1) (by simpa using h2)
def uU (P:Program) (t:TypeId):Bool:=match P.underlying t with|some (.map k _)=>cH P 10 k|_=>true
def jb (P:Program) (t:TypeId):Bool:=match P.underlying t with|some (.map k _)=>y9 P k|_=>true
theorem SR.lookup (zb:p.l=true->S JK=false) (hz:be P) (hc:aK P) (t:TypeId) (hJ:S JK=true->jb P t=true) (ht:uU P t=true) (ok:Bool) (hx:VR S p x x') (hi:VR S p i i'):SR P F S K N (QV S) (Instr.lookup t x i ok) (Instr.lookup t x' i' ok) p:=by
 unfold Instr.lookup;refine SR.cP λu hu=>?_;cases u with
 |map k e=>
  simp only[uU,hu]at ht;simp only[jb,hu]at hJ;simp only
  have rest:∀(q:Pi) (es dc:Array MapEntry),Le p q->es.size=dc.size->EL S q es.toList dc.toList->SR P F S K N (QV S)
   (Instr.checkKey es.isEmpty 10000 k i>>=λ_=>Instr.findKey k i es.toList>>=λr=>match r with|some (_,v)=>(Pure.pure (v,true)>>=λ(x:Value×Bool)=>Pure.pure (if ok=true then Value.tuple #[x.1,.bool x.2]else x.1))|none=>Go.zeroValue e>>=λz=>(Pure.pure (z,false)>>=λ(x:Value×Bool)=>Pure.pure (if ok=true then Value.tuple #[x.1,.bool x.2]else x.1)))
   (Instr.checkKey dc.isEmpty 10000 k i'>>=λ_=>Instr.findKey k i' dc.toList>>=λr=>match r with|some (_,v)=>(Pure.pure (v,true)>>=λ(x:Value×Bool)=>Pure.pure (if ok=true then Value.tuple #[x.1,.bool x.2]else x.1))|none=>Go.zeroValue e>>=λz=>(Pure.pure (z,false)>>=λ(x:Value×Bool)=>Pure.pure (if ok=true then Value.tuple #[x.1,.bool x.2]else x.1))) q:=by
   intro q es dc hq hs hl;have hem:es.isEmpty=dc.isEmpty:=by simp[Array.isEmpty,hs]
   have fin:∀(q:Pi) (a b:Value) (c:Bool),VR S q a b->SR P F S K N (QV S) (Pure.pure (if ok=true then Value.tuple #[a,.bool c]else a)) (Pure.pure (if ok=true then Value.tuple #[b,.bool c]else b)) q:=by
    intro q a b c h;cases ok with
    |true=>exact SR.pure (AR.tuple ((AR.one h).push (.bool _)))
    |false=>exact SR.pure h
   rw[hem];refine(SR.checkKey _ 10000 10 k ht (hi.mono hq)).aD λq1 _ um=>?_;refine(SR.findKey (λx=>zb ((hq.trans um).l.symm.trans x)) hc ht hJ ((hi.mono hq).mono um) (hl.mono um)).bind λq2 r r' cG hr=>?_;cases r<;>cases r'<;>first|exact hr.elim|skip
   .exact(SR.zeroValue hz e).bind λq4 z z' Is Bx=>fin q4 _ _ _ (Bx.1▸Bx.2)
   .exact fin q2 _ _ _ hr.2.1
  cases hx<;>first|exact SR.stuck|skip
  .exact rest p #[] #[] (Le.refl _) rfl .nil
  .rename_i r r' h;refine(SR.getObj h).bind λq o o' hq ho=>?_;cases ho with
   |map c h g=>exact rest q _ _ hq h (OR.mapList h g)
   |_=>exact SR.stuck
 |_=>exact SR.stuck
def Bi (l:Bool) (x y:Bool):Prop:=(x=true->y=true)/\(l=false->y=true->x=true)
theorem Bi.refl {l x:Bool}:Bi l x x:=⟨id,λ_=>id⟩
theorem Bi.and {l x y x' y':Bool} (h:Bi l x y) (k:Bi l x' y'):Bi l (x&&x') (y&&y'):=by
 simp only[Bi,zAE];exact⟨λa=>⟨h.1 a.1,k.1 a.2⟩,λe a=>⟨h.2 e a.1,k.2 e a.2⟩⟩
theorem ke (hJ:S JK=false) (hp:pq P p):∀(n:Nat) {a a' b b':Value},VR S p a a'->VR S p b b'->Bi p.l (Instr.sameBits n a b) (Instr.sameBits n a' b')
 |n,a,a',b,b',ha,hb=>by
  have FC:∀{r r' s s':Nat} (o o2:Nat) (sp qW:Option Nat),p r r'->p s s'->Bi p.l ((some (⟨r,o,sp⟩:Addr))==(some (⟨s,o2,qW⟩:Addr))) ((some (⟨r',o,sp⟩:Addr))==(some (⟨s',o2,qW⟩:Addr))):=by
   intro r r' s s' o o2 sp qW h1 h2;refine⟨λhe=>?_,λhl=>?_⟩
   .have he:=eq_of_beq he;simp only[zAA,Addr.mk.injEq]at he;obtain⟨rfl,rfl,rfl⟩:=he;rw[hp.one _ _ _ h1 h2];exact beq_self_eq_true _
   .have:=hp.two hl _ _ _ _ h1 h2;simp[this]
  cases n with
  |zero=>
   cases ha<;>first|exact Bi.refl|exact(pv hJ ‹_›).elim|(cases hb<;>first|exact Bi.refl|exact FC _ _ _ _ ‹_› ‹_›|exact(pv hJ ‹_›).elim)
  |succ n=>
   cases ha with
   |iface h=>cases hb<;>first|exact Bi.refl|exact(pv hJ ‹_›).elim|(simp only[Instr.sameBits];exact Bi.and Bi.refl (ke hJ hp n h ‹_›))
   |agg h g=>
    cases hb with
    |agg h2 g2=>
     rename_i xs cX ys LL;simp only[Instr.sameBits];rw[h,h2];refine Bi.and Bi.refl ?_
     have hl:∀(l l' m m':List Value),l.length=l'.length->m.length=m'.length->(∀(i:Nat) v v',l[i]?=some v->l'[i]?=some v'->VR S p v v')->(∀(i:Nat) v v',m[i]?=some v->m'[i]?=some v'->VR S p v v')->
      Bi p.l ((l.zip m).all λ(x,y)=>Instr.sameBits n x y) ((l'.zip m').all λ(x,y)=>Instr.sameBits n x y):=by
      intro l;induction l with
      |nil=>intro l' m m' h1 h2 _ _;cases l' with
       |nil=>exact Bi.refl
       |cons=>cases h1
      |cons x l ih=>
       intro l' m m' h1 h2 g1 g2;cases l' with
       |nil=>cases h1
       |cons x' l'=>
        cases m with
        |nil=>cases m' with
         |nil=>exact Bi.refl
         |cons=>cases h2
        |cons y m=>cases m' with
         |nil=>cases h2
         |cons y' m'=>
          simp only[List.zip_cons_cons,List.all_cons];exact Bi.and (ke hJ hp n (g1 0 x x' rfl rfl) (g2 0 y y' rfl rfl)) (ih l' m m' (by simpa using h1) (by simpa using h2) (λi v v' a b=>g1 (i+1) v v' a b) (λi v v' a b=>g2 (i+1) v v' a b))
     exact hl _ _ _ _ (by simpa using h) (by simpa using h2) (λi v v' a b=>g i v v' (by simpa using a) (by simpa using b)) (λi v v' a b=>g2 i v v' (by simpa using a) (by simpa using b))
    |pn _ hj _=>exact(pv hJ hj).elim
    |_=>exact Bi.refl
   |pn _ hj _=>exact(pv hJ hj).elim
   |_=>cases hb<;>first|exact Bi.refl|exact FC _ _ _ _ ‹_› ‹_›|exact(pv hJ ‹_›).elim
theorem uo (hl:p.l=false) (hp:pq P p):∀(n:Nat) {a a' b b':Value},io a=true->io b=true->VR S p a a'->VR S p b b'->Instr.sameBits n a b=Instr.sameBits n a' b':=λn a a' b b' la lb ha hb=>by
 have FC:∀{r r' s s':Nat} (o o2:Nat) (sp qW:Option Nat),p r r'->p s s'->((some (⟨r,o,sp⟩:Addr))==(some (⟨s,o2,qW⟩:Addr)))=((some (⟨r',o,sp⟩:Addr))==(some (⟨s',o2,qW⟩:Addr))):=by
  intro r r' s s' o o2 sp qW h1 h2;have:=hp.two hl _ _ _ _ h1 h2;rw[zDQ];simp[this]
 cases ha<;>first|(cases la;done)|skip
 all_goals cases hb<;>first|(cases lb;done)|skip
 all_goals cases n<;>first|rfl|exact FC _ _ _ _ ‹_› ‹_›
theorem SR.keyThatStays (zb:p.l=true->S JK=false) {a a':Value} (hJ:S JK=true->io a=true/\io b=true) (ha:VR S p a a') (hb:VR S p b b'):SR P F S K N (QV S) (Instr.keyThatStays a b) (Instr.keyThatStays a' b') p:=by
 intro hp;unfold Instr.keyThatStays
 have e:Bi p.l (Instr.sameBits 10000 a b) (Instr.sameBits 10000 a' b'):=by
  cases hs:S JK with
  |false=>exact ke hs hp 10000 ha hb
  |true=>
   rw[uo (by cases hl:p.l with|false=>rfl|true=>rw[zb hl]at hs;cases hs) hp 10000 (hJ hs).1 (hJ hs).2 ha hb];exact Bi.refl
 cases hx:Instr.sameBits 10000 a b with
 |true=>rw[e.1 hx];exact hb
 |false=>
  cases hl:p.l with
  |true=>exact .inl hl
  |false=>
   have hy:Instr.sameBits 10000 a' b'=false:=by
    cases hy:Instr.sameBits 10000 a' b' with
    |false=>rfl
    |true=>rw[e.2 hl hy]at hx;cases hx
   rw[hy];refine(SR.choose (P:=P) (F:=F) (S:=S) (K:=K) (N:=N) _).aD (λq n hq=>?_) hp;split
   .exact SR.pure (hb.mono hq)
   .exact SR.pure (ha.mono hq)
theorem SR.mapUpdate (zb:p.l=true->S JK=false) (hc:aK P) (t:TypeId) (hJ:S JK=true->jb P t=true) (ht:uU P t=true) {m m':Value} (hm:VR S p m m') (hk:VR S p k k') (hv:VR S p v v'):SR P F S K N (QE Unit) (Instr.mapUpdate t m k v) (Instr.mapUpdate t m' k' v') p:=by
 unfold Instr.mapUpdate;refine SR.cP λu hu=>?_;cases u with
 |map kt e=>
  simp only[uU,hu]at ht;simp only[jb,hu]at hJ;simp only;cases hm<;>first|exact SR.stuck|exact SR.Ir _|skip
  rename_i r r' h;simp only;refine(SR.getObj h).bind λq o o' hq ho=>?_;cases ho with
  | @map es dc c hs g=>
    simp only;refine(SR.checkKey _ 10000 10 kt ht (hk.mono hq)).aD λq1 _ um=>?_;have hl:EL S q1 es.toList dc.toList:=(OR.mapList hs g).mono um;refine(SR.findKey (λx=>zb ((hq.trans um).l.symm.trans x)) hc ht hJ ((hk.mono hq).mono um) hl).bind λq2 x x' cG hx=>?_;have h:=cG _ _ (um _ _ (hq _ _ h));have hk:=((hk.mono hq).mono um).mono cG;have hv:=((hv.mono hq).mono um).mono cG;have g2:∀(i:Nat) (e e':MapEntry),es[i]?=some e->dc[i]?=some e'->ER S q2 e e':=λi e e' a b=>((g i e e' a b).mono um).mono cG;cases x<;>cases x'<;>first|exact hx.elim|skip
    .refine SR.setObj h (.map (c+1) (by simp[hs]) λi a b ha hb=>?_) λ_ _ _ _ _ _ _ a=>by cases a
     rw[zBQ]at ha hb;rw[hs]at ha;split at ha
     .rename_i hi;simp only[hi,zBV,zAA]at ha hb;subst ha;subst hb;exact⟨hk,hv,rfl⟩
     .rename_i hi;simp only[hi,zBG]at hb;exact g2 i a b ha hb
    .rename_i y y';obtain⟨j,u⟩:=y;obtain⟨j',u'⟩:=y';obtain⟨hj,hu2,Zg⟩:=hx;simp only at hj hu2 Zg;subst hj;simp only;refine SR.bind (Q:=QV S) (SR.keyThatStays (λx=>zb (((hq.trans um).trans cG).l.symm.trans x)) (λh=>⟨?_,(Zg h).1⟩) ?_ hk) λq3 b b' gK hb=>?_
     .cases he:es[j]? with
      |none=>exact(Zg h).1
      |some e1=>exact(Zg h).2 e1 (by simpa using he)
     .cases he:es[j]? with
      |none=>
       have:dc[j]?=none:=by rw[Array.getElem?_eq_none_iff]at he⊢;omega
       rw[this];exact hk
      |some e1=>
       have az:j<dc.size:=by rw[<-hs];exact(zAD.1 he).1
       rw[zAG az];exact(g2 j e1 _ he (zAG az)).1
     .refine SR.setObj (gK _ _ h) (.map c (by simp[hs]) λi a b ha hb=>?_) λ_ _ _ _ _ _ _ a=>by cases a
      rw[zCZ]at ha hb;split at ha
      .rename_i hi;simp only[hi,zBV]at hb;cases hea:es[i]? with
       |none=>rw[hea]at ha;cases ha
       |some ea=>
        have az:i<dc.size:=by rw[<-hs];exact(zAD.1 hea).1
        rw[hea]at ha;rw[zAG az]at hb;simp only[zBJ,zAA]at ha hb;subst ha;subst hb;exact⟨by assumption,hv.mono gK,(g2 i ea _ hea (zAG az)).2.2⟩
      .rename_i hi;simp only[hi,zBG]at hb;exact(g2 i a b ha hb).mono gK
  |_=>exact SR.stuck
 |_=>exact SR.stuck
theorem SR.makeMap (t:TypeId):SR P F S K N (QV S) (Instr.makeMap t none) (Instr.makeMap t none) p:=by
 refine SR.bind (Q:=λq r r'=>q r r'/\N<=r/\∀k,¬q.x r k) (SR.newObj (.map 0 rfl λi e e' h=>by simp at h) λ_ _ _ _ _ _ _ a=>by cases a) λq r r' hq hr=>SR.pure (.map hr.1)
def zd (e:TypeId) (n m:Int) (bytes:Nat):Sem Value:=
 Go.askRoom ((IntKind.i64.wrap m).toNat*bytes)>>=λ_=>Go.sizeOf e>>=λs=>
  if(IntKind.i64.wrap m).toNat*s=0 then(Go.newRow e ((Array.range ((IntKind.i64.wrap m).toNat*s)).map ((#[]:Array Value)[·%(#[]:Array Value).size]!))>>=λa=>Pure.pure (Value.slice (some a) (IntKind.i64.wrap n).toNat (IntKind.i64.wrap m).toNat))
  else Go.zeroValue e>>=λz=>(Go.newRow e ((Array.range ((IntKind.i64.wrap m).toNat*s)).map (z.cells[·%z.cells.size]!))>>=λa=>Pure.pure (Value.slice (some a) (IntKind.i64.wrap n).toNat (IntKind.i64.wrap m).toNat))
theorem SR.makeSlice (hz:be P) (t:TypeId) {l l' c c':Value} (hl:VR S p l l') (i9:VR S p c c'):SR P F S K N (QV S) (Instr.makeSlice t l c) (Instr.makeSlice t l' c') p:=by
 unfold Instr.makeSlice;refine SR.cP λu hu=>?_;cases u with
 |slice e=>
  simp only;refine(SR.asInt hl).aD λq n hq=>?_;refine(SR.asInt (i9.mono hq)).aD λq2 m cG=>?_;refine SR.nV λi hi=>?_
  have rest:∀(q:Pi),SR P F S K N (QV S)
   (zd e n m i.bytes)
   (zd e n m i.bytes) q:=by
   intro q;unfold zd;refine(SR.askRoom _).aD λq1 _ um=>(SR.sizeOf e).aD λq2 s cG=>?_;refine SR.ite (λ_=>?_) λ_=>?_
   .exact(SR.newRow e (rx AR.empty _)).bind λq4 a a' Is ha=>SR.pure (ha.1.sl (λ_=>ha.2.2) _ _)
   .refine(SR.zeroValue hz e).bind λq3 z z' gK Bx=>?_;obtain⟨rfl,hv⟩:=Bx;exact(SR.newRow e (rx hv.cells _)).bind λq4 a a' Is ha=>SR.pure (ha.1.sl (λ_=>ha.2.2) _ _)
  have pan:∀(msg:String) (q:Pi),SR P F S K N (QV S) (Go.runtimePanic (.error msg)>>=λ(_:PUnit)=>zd e n m i.bytes) (Go.runtimePanic (.error msg)>>=λ(_:PUnit)=>zd e n m i.bytes) q:=
   λmsg q=>SR.bind (Q:=QE PUnit) (SR.err msg) λq _ _ _ _=>rest q
  refine SR.ite (λ_=>?_) λ_=>rest q2;refine SR.ite (λ_=>pan _ q2) λ_=>SR.ite (λ_=>pan _ q2) λ_=>?_;exact(SR.choose _).aD λq3 c gK=>pan _ q3
 |_=>exact SR.stuck
theorem SR.extract (h:VR S p v v') (i:Nat):SR P F S K N (QV S) (Instr.extract v i) (Instr.extract v' i) p:=by
 unfold Instr.extract;cases h<;>first|exact SR.stuck|skip
 rename_i xs cX hx gx;simp only;cases hi:xs[i]? with
 |none=>exact SR.stuck
 |some u=>obtain⟨u',hu',hr⟩:=AR.get (S:=S) (p:=p) ⟨hx,gx⟩ hi;rw[hu'];exact SR.pure hr
theorem SR.indexAt (t:TypeId) (h:VR S p v v') (hi:VR S p i i'):SR P F S K N (QV S) (Instr.indexAt t v i) (Instr.indexAt t v' i') p:=by
 unfold Instr.indexAt;refine(SR.asIntOf hi).aD λq ki hq=>?_;obtain⟨k,n⟩:=ki;have h:=h.mono hq;refine SR.cP λu hu=>?_;simp only
 have rest:∀(q:Pi) (b b':Option Addr) (len:Nat) (e:TypeId),((b=none/\b'=none)\/(∃a a',b=some a/\b'=some a'/\im q a a')\/∃a a',b=some a/\b'=some a'/\len=0)->∀QM:Bool,SR P F S K N (QV S)
  (match b with
    |some a=>if 0<=n/\n<(len:Int)then(Go.sizeOf e>>=fun s=>Pure.pure (Value.pointer (some (a.add (n.toNat*s)))))else if QM=true then Go.unsupported (.noEntry "op/indexAddr.an index out of range at an array of length 0 or 1 (ledger 616)")else Go.boundsPanic k n (len:Int) .index
    |none=>Go.boundsPanic k n 0 .index)
  (match b' with
    |some a=>if 0<=n/\n<(len:Int)then(Go.sizeOf e>>=fun s=>Pure.pure (Value.pointer (some (a.add (n.toNat*s)))))else if QM=true then Go.unsupported (.noEntry "op/indexAddr.an index out of range at an array of length 0 or 1 (ledger 616)")else Go.boundsPanic k n (len:Int) .index
    |none=>Go.boundsPanic k n 0 .index) q:=by
  intro q b b' len e hb QM;rcases hb with⟨rfl,rfl⟩|⟨a,a',rfl,rfl,ha⟩|⟨a,a',rfl,rfl,rfl⟩
  .exact SR.boundsPanic _ _ _ _
  .refine SR.ite (λ_=>?_) λ_=>SR.ite (λ_=>SR.unsupported) λ_=>SR.boundsPanic _ _ _ _;exact(SR.sizeOf e).aD λq s hq=>SR.pure (ha.mono hq|>.add _).ptr
  .refine SR.ite (λh=>absurd h.2 (by simp only[Int.natCast_zero];omega)) λ_=>SR.ite (λ_=>SR.unsupported) λ_=>SR.boundsPanic _ _ _ _
 cases u with
 |array len e=>
  refine(SR.sureAddr h).bind λq2 a a' cG ha=>?_;refine SR.cP λu hu=>?_;exact rest q2 _ _ len e (.inr (.inl ⟨a,a',rfl,rfl,ha⟩)) _
 |slice e=>
  cases v with
  |slice b len cap=>
   cases v' with
   |slice b' zaP jO=>
    obtain⟨rfl,hs⟩:=lq h;refine SR.cP λu hu=>?_;exact rest q _ _ len e (hs.imp (λh=>⟨h.1,h.2.1⟩) λh=>h.imp (λ⟨b,b',h1,h2,h3,_⟩=>⟨b,b',h1,h2,h3⟩) λ⟨h0,_,b,b',h1,h2,_⟩=>⟨b,b',h1,h2,h0⟩) _
   |_=>cases h
  |_=>cases h<;>exact SR.stuck
 |_=>exact SR.stuck
end
section
variable {P:Program} {F:Array Func} {S:Nat->Bool} {K:Kz} {N:Nat} {p:Pi}
theorem SR.lenOf (h:VR S p x x'):SR P F S K N (λ_ a b=>a=b/\∀b l c,x=.slice b l c->a=l) (Builtin.lenOf x) (Builtin.lenOf x') p:=by
 cases h<;>first|exact SR.pure ⟨rfl,λb l c e=>by cases e<;>rfl⟩|exact SR.stuck
theorem SR.firstCells (s n:Nat) (h:VR S p x x') (hn:∀b c,x=.slice b 0 c->n=0):SR P F S K N (QA S) (Builtin.firstCells s n x) (Builtin.firstCells s n x') p:=by
 cases h<;>first|exact SR.stuck|skip
 .rename_i s1;exact SR.pure (AR.map _ _ _ λx _=>.int _ _)
 .exact SR.pure AR.empty
 .rename_i r r' o sp l c g hX;exact SR.loadCells (a:=⟨r,o,sp⟩) (a':=⟨r',o,sp⟩) ⟨g,rfl,rfl⟩ _
 .rename_i r r' k o l c hl g h0 hx;exact SR.loadCells (a:=⟨r,o,none⟩) (a':=⟨r',o,none⟩) ⟨g,rfl,rfl⟩ _
 all_goals
  obtain rfl:=hn _ _ rfl;simp only[Builtin.firstCells,zFJ];exact SR.pure AR.empty
theorem SR.ql (s:Nat) (h:VR S p x x'):SR P F S K N (λ_ a b=>a=#[]/\b=#[]) (Builtin.firstCells s 0 x) (Builtin.firstCells s 0 x') p:=by
 have hl:∀b:Addr,Go.loadCells b (0*s)=Pure.pure #[]:=λb=>by rw[zFJ];rfl
 cases h<;>first|exact SR.stuck|exact SR.pure ⟨rfl,rfl⟩|(simp only[Builtin.firstCells,hl];exact SR.pure ⟨rfl,rfl⟩)|exact SR.pure ⟨by simp,by simp⟩
theorem mT (h:AR S p z z') (n:Nat):AR S p (Builtin.zeroCells z n) (Builtin.zeroCells z' n):=by
 unfold Builtin.zeroCells;rw[<-h.1];have:=rx h (n*z.size);rw[<-h.1]at this;exact this
theorem kK (a:Addr) (n:Nat) (w:World) (es:Array Event):∃b,(Builtin.holdsCells a n).runT P w es=(.ok b w,es):=by
 unfold Builtin.holdsCells;show∃b,(Sem.shape a.block λs=>_).runT P w es=_;simp only[Sem.runT];cases w.shape? a.block with
 |none=>exact⟨_,rfl⟩
 |some x=>exact⟨_,rfl⟩
theorem kg (P:Program) (f:α->Sem β) {a:α} {w1:World} {es1:Array Event}:∀(s:Sem α) (w:World) (es:Array Event),s.runT P w es=(.ok a w1,es1)->(s.bind f).runT P w es=(f a).runT P w1 es1:=by
 intro s;induction s with
 |pure x=>intro w es e;simp only[Sem.runT,zAF,Result.ok.injEq]at e;obtain⟨⟨rfl,rfl⟩,rfl⟩:=e;rfl
 |load m a k ih=>
  intro w es e;simp only[Sem.bind,Sem.runT]at e⊢;cases hc:w.cell? a with
  |some v=>rw[hc]at e;exact ih v _ _ e
  |none=>
   rw[hc]at e;simp only at e⊢;cases hf:w.farLoad P a (m== .atomic)with
   |ok x=>rw[hf]at e;exact ih _ _ _ e
   |error x=>rw[hf]at e;cases e
 |store m a v k ih=>
  intro w es e;cases hv:dM v with
  |false=>obtain⟨x,hx,_⟩:=jx P m a v k w es hv;rw[hx]at e;cases e
  |true=>
   rw[cO P m a v k w es hv]at e;show(Sem.store m a v (k.bind f)).runT P w es=_;rw[cO P m a v _ w es hv];cases hc:w.cell? a with
   |some u=>
    rw[hc]at e;simp only at e⊢;by_cases hz:w.frozen? a=true
    .simp only[hz,zBV]at e;cases e
    .simp only[hz,zAN,zBG]at e⊢;exact ih _ _ e
   |none=>
    rw[hc]at e;simp only at e⊢;cases hf:w.farStore P a v (m== .atomic)with
    |ok x=>rw[hf]at e;exact ih _ _ e
    |error x=>rw[hf]at e;cases e
 |new o k ih=>intro w es e;exact ih _ _ _ e
 |shape r k ih=>intro w es e;exact ih _ _ _ e
 |freeze a n k ih=>intro w es e;exact ih _ _ e
 |frozen a k ih=>intro w es e;exact ih _ _ _ e
 |getObj r k ih=>
  intro w es e;simp only[Sem.bind,Sem.runT]at e⊢;cases ho:w.heap[r]? with
  |none=>rw[ho]at e;cases e
  |some o=>rw[ho]at e;cases o<;>first|exact ih _ _ _ e|(cases e;done)
 |setObj r o k ih=>
  intro w es e;simp only[Sem.bind,Sem.runT]at e⊢;cases ho:w.heap[r]? with
  |none=>rw[ho]at e;cases e
  |some o'=>rw[ho]at e;cases o'<;>first|exact ih _ _ e|(cases e;done)
 |choose q k ih=>
  intro w es e;simp only[Sem.bind,Sem.runT]at e⊢;split at e
  .rename_i hq;simp only[hq,zBV];exact ih _ _ _ e
  .rename_i hq;simp only[hq,zBG,zAN];exact ih _ _ _ e
 |sys c k ih=>intro w es e;exact ih _ _ _ e
 |program k ih=>intro w es e;exact ih _ _ _ e
 |mark m k ih=>intro w es e;exact ih _ _ e
 |halt x=>intro w es e;cases e
theorem uq (s l n:Nat) (b:Option Addr) (x:Value) (w:World) (es:Array Event):∃c,(Builtin.mayShare s l n b x).runT P w es=(.ok c w,es):=by
 have tail:∀t:Bool,∃c,(if(!t)=true then(Pure.pure true:Sem Bool)else match x with
  |.slice (some b') _ _=>Builtin.holdsCells b' (n*s)>>=λh=>Pure.pure (!h||b.any (·.block==b'.block))
  |_=>Pure.pure false).runT P w es=(.ok c w,es):=by
  intro t;split
  .exact⟨_,rfl⟩
  .split
   .rename_i b' _ _;obtain⟨h,hh⟩:=kK (P:=P) b' (n*s) w es;exact⟨_,(kg P _ _ w es hh)⟩
   .exact⟨_,rfl⟩
 unfold Builtin.mayShare;cases b with
 |none=>exact tail true
 |some a=>
  obtain⟨h,hh⟩:=kK (P:=P) a (l*s) w es;obtain⟨c,hc⟩:=tail (h&&!w.frozen? (a.add (l/2*s)));refine⟨c,?_⟩;show((Builtin.holdsCells a (l*s)).bind _).runT P w es=_;rw[kg P _ _ w es hh];exact hc
theorem ze (s l n:Nat) (b:Option Addr) (x:Value) (u:Unsupported) (hu:∀g,u≠ .initOrder g) (k:PUnit->Sem β):
 av P (Builtin.mayShare s l n b x>>=λc=>if(!c)=true then Go.mark .noRoom>>=λ_=>Go.unsupported u>>=k else Go.unsupported u>>=k):=by
 intro w es;obtain⟨c,hc⟩:=uq (P:=P) s l n b x w es;have hd:dead (.unsupported u):=by cases u<;>first|trivial|exact absurd rfl (hu _)
 show∃h w1 es1,((Builtin.mayShare s l n b x).bind _).runT P w es=_/\_;rw[kg P _ _ w es hc];cases c with
 |true=>exact⟨_,w,es,rfl,hd⟩
 |false=>exact⟨_,w,es.push ⟨.mark .noRoom,false,true⟩,rfl,hd⟩
def uV (P:Program) (ts:Array TypeId):Bool:=match ts[1]? with|some t=>(match P.underlying t with|some (.int _)=>false|_=>true)|none=>true
def fq (e:TypeId) (b:Option Addr) (sl sc n size:Nat) (x:Value):Sem Value:=
 Go.choose (.appendCap (sl+n) sc e)>>=λBV=>Go.typeInfo e>>=λi=>Go.askRoom (BV*i.bytes)>>=λ_=>
  Builtin.firstCells size sl (.slice b sl sc)>>=λold=>Builtin.firstCells size n x>>=λnew=>Go.zeroValue e>>=λz=>
   Go.newRow e (old++new++Builtin.zeroCells z.cells (BV-(sl+n)))>>=λa=>Pure.pure (.slice (some a) (sl+n) BV)
def ng (e:TypeId) (b:Option Addr) (sl sc n size:Nat) (x:Value):Sem Value:=
 Go.typeInfo e>>=λi=>if Builtin.nextslicecap (sl+n) sc*i.bytes>2^48 then
  ((Builtin.mayShare size sl n b x>>=fun c=>if(!c)=true then Go.mark .noRoom>>=fun _=>Go.unsupported (.resourceLimit "append: a slice or a string whose bytes no memory bears")else Go.unsupported (.resourceLimit "append: a slice or a string whose bytes no memory bears"))>>=fun(_:PUnit)=>fq e b sl sc n size x)
  else fq e b sl sc n size x
def eT (e:TypeId) (b:Option Addr) (sl sc size:Nat) (x:Value):Sem Value:=
 Builtin.lenOf x>>=λn=>if sl+n<=sc then
  Builtin.firstCells size n x>>=λnew=>match b with
   |some a=>Go.storeCells (a.add (sl*size)) new.toList>>=λ_=>Pure.pure (.slice b (sl+n) sc)
   |none=>Pure.pure (.slice b (sl+n) sc)
  else Go.typeInfo e>>=fun i=>if((sl+n:Nat):Int)>IntKind.i64.max/\(false=true\/i.bytes=0)then(Go.runtimePanic (.error "growslice: len out of range")>>=fun(_:PUnit)=>ng e b sl sc n size x)else ng e b sl sc n size x
theorem dN.typeInfo {f:TypeInfo->Sem β} (h:∀i,P.info? t=some i->dN P (f i)):dN P (Go.typeInfo t>>=f):=by
 show dN P (Sem.bind (match P.info? t with|some i=>Pure.pure i|none=>Go.stuck "no such type") f);cases hi:P.info? t with
 |none=>exact trivial
 |some i=>exact h i hi
theorem rX (e:TypeId) (b:Option Addr) (sl sc n size:Nat) (x:Value):dN P (aC.ng e b sl sc n size x):=by
 refine dN.typeInfo λi hi=>?_;split
 .refine dN.bind ?_;refine dN.Pc (λc=>?_) _;split<;>exact trivial
 .exact trivial
def BR (p:Pi) (b b':Option Addr) (sl sc:Nat):Prop:=(b=none/\b'=none)\/(∃a a',b=some a/\b'=some a'/\im p a a'/\∀k,¬p.x a.block k)\/∃a a',b=some a/\b'=some a'/\sl=0/\sc=0/\p.l=false
theorem BR.mono {q:Pi} (h:Le p q) {b b':Option Addr} {sl sc:Nat} (x:BR p b b' sl sc):BR q b b' sl sc:=x.imp id λy=>y.imp (λ⟨a,a',h1,h2,h3,h4⟩=>⟨a,a',h1,h2,h3.mono h,λk hk=>h4 k (h.xr _ _ _ h3.1 hk)⟩) λ⟨a,a',h1,h2,h3,h4,h5⟩=>⟨a,a',h1,h2,h3,h4,h.l.trans h5⟩
theorem BR.sl {b b':Option Addr} (x:BR p b b' l c):VR S p (.slice b l c) (.slice b' l c):=by
 rcases x with⟨rfl,rfl⟩|⟨a,a',rfl,rfl,h,hX⟩|⟨a,a',rfl,rfl,rfl,rfl,hl⟩
 .exact .de l c
 .exact h.sl (λ_=>hX) l c
 .exact .dP hl a a'
theorem SR.fq (hz:be P) (e:TypeId) {b b':Option Addr} (sl sc n size:Nat) (hb:BR p b b' sl sc) (hx:VR S p x x') (HH:∀b c,x=.slice b 0 c->n=0):SR P F S K N (QV S) (fq e b sl sc n size x) (fq e b' sl sc n size x') p:=by
 refine(SR.choose _).aD λq1 c um=>SR.nV λi hi=>(SR.askRoom _).aD λq2 _ cG=>?_;have hb:=(hb.mono um).mono cG;have hx:=(hx.mono um).mono cG;refine(SR.firstCells size sl hb.sl (λb c h=>by simp only[Value.slice.injEq]at h;exact h.2.1)).bind λq3 o o' gK ho=>(SR.firstCells size n (hx.mono gK) HH).bind λq4 y y' Is hy=>(SR.zeroValue hz e).bind λq5 z z' Ui Bx=>?_;obtain⟨rfl,hv⟩:=Bx;exact(SR.newRow e ((((ho.mono Is).mono Ui).append (hy.mono Ui)).append (mT hv.cells _))).bind λq6 a a' hq6 ha=>SR.pure (ha.1.sl (λ_=>ha.2.2) _ _)
theorem SR.ng (wI:p.l=false) (hz:be P) (e:TypeId) {b b':Option Addr} (sl sc n size:Nat) (hb:BR p b b' sl sc) (hx:VR S p x x') (HH:∀b c,x=.slice b 0 c->n=0):SR P F S K N (QV S) (ng e b sl sc n size x) (ng e b' sl sc n size x') p:=by
 refine SR.nV fun i hi=>SR.ite (fun _=>?_) fun _=>SR.fq hz e sl sc n size hb hx HH;have hu:∀g,Unsupported.resourceLimit "append: a slice or a string whose bytes no memory bears" ≠ .initOrder g:=fun g h=>by cases h
 have hd:=av.bind (ze (P:=P) size sl n b x _ hu (λ(u:PUnit)=>Pure.pure u)) (λ(_:PUnit)=>aC.fq e b sl sc n size x);rcases hb with⟨rfl,rfl⟩|⟨a,a',rfl,rfl,nW⟩|⟨a,a',rfl,rfl,_⟩
 .cases hx with
  |slice o sp l c g=>exact SR.jy (.inr ⟨wI,hd⟩) rfl
  |_=>exact SR.jy (.inr ⟨wI,hd⟩) rfl
 .exact SR.jy (.inr ⟨wI,hd⟩) rfl
 .exact SR.jy (.inr ⟨wI,hd⟩) rfl
theorem SR.eT (hz:be P) (e:TypeId) {b b':Option Addr} (sl:Nat) {sc ur:Nat} (size:Nat) {x x':Value} (hb:VR S p (.slice b sl sc) (.slice b' sl ur)) (hE:p.l=true->∀a,b=some a->a.spot=none) (hx:VR S p x x'):SR P F S K N (QV S) (eT e b sl sc size x) (eT e b' sl ur size x') p:=by
 refine(SR.lenOf hx).bind λq1 n n' um hn=>?_;obtain⟨rfl,hn⟩:=hn;have HH:∀b c,x=.slice b 0 c->n=0:=λb c e=>hn b 0 c e;have hE:q1.l=true->∀a,b=some a->a.spot=none:=λh=>hE (um.l.symm.trans h);have hb:=hb.mono um;have hx:=hx.mono um;clear um;revert hb hx hE;generalize q1=p;intro hE hb hx;refine SR.ok λho=>?_;cases hl:p.l with
 |true=>
  obtain⟨_,hs⟩:=lq hb;by_cases hle:sl+n<=sc
  .have zaV:sl+n<=ur:=by
    rcases hs with⟨_,_,e⟩|⟨_,_,_,_,_,⟨e,_⟩|⟨_,_,_,k,_,e⟩⟩|⟨e1,e2,a,_,e3,_,⟨_,e4⟩|⟨e4,_⟩⟩
    .omega
    .omega
    .omega
    .have:=hE hl a e3;rw[e4]at this;cases this
    .rw[hl]at e4;cases e4
   rw[zAI hle,zAI zaV];refine(SR.firstCells size n hx λb c e=>hn b 0 c e).bind λq2 y y' cG hy=>?_;have hb:=hb.mono cG;rcases hs with⟨rfl,rfl,rfl⟩|⟨a,a',rfl,rfl,ha,⟨e,hX⟩|⟨_,h0,kJ,k,hk,e⟩⟩|⟨e1,e2,a,_,e3,_,⟨_,e4⟩|⟨e4,_⟩⟩
   .exact SR.pure (.de _ _)
   .subst e;have Pe:=ha;have ha:=ha.mono cG;exact(SR.fH (ha.add _) hy).aD λq3 _ gK=>SR.pure ((ha.mono gK).sl (λhs k hk=>hX hs k (cG.xr _ _ _ Pe.1 (gK.xr _ _ _ ha.1 hk))) _ _)
   .subst e;have ha:=ha.mono cG;exact(SR.fH (ha.add _) hy).aD λq3 _ gK=>SR.pure ((ha.mono gK).slX (gK.l.trans (cG.l.trans hl)) kJ _ h0 (gK.x _ _ (cG.x _ _ hk)))
   .have:=hE hl a e3;rw[e4]at this;cases this
   .rw[hl]at e4;cases e4
  .rw[zAH hle];refine λ_=>.inl (.inl ⟨hl,?_⟩)
   have:dN P (Go.typeInfo e>>=fun i=>if((sl+n:Nat):Int)>IntKind.i64.max/\(false=true\/i.bytes=0)then(Go.runtimePanic (.error "growslice: len out of range")>>=fun(_:PUnit)=>aC.ng e b sl sc n size x)else aC.ng e b sl sc n size x):=by
    refine dN.typeInfo λi hi=>?_;split
    .exact dN.Pc (λ_=>rX ..) _
    .exact rX ..
   exact this
 |false=>
  obtain⟨_,hs⟩:=lq hb
  have hbr:sc=ur/\BR p b b' sl sc:=by
   rcases hs with⟨h1,h2,h3⟩|⟨a,a',h1,h2,h3,⟨h4,_⟩|⟨h4,_⟩⟩|⟨h1,h2,a,a',h3,h4,⟨h5,_⟩|⟨_,h5⟩⟩
   .exact⟨h3,.inl ⟨h1,h2⟩⟩
   .exact⟨h4,.inr (.inl ⟨a,a',h1,h2,h3,ho.uk hl _⟩)⟩
   .rw[hl]at h4;cases h4
   .rw[hl]at h5;cases h5
   .exact⟨by omega,.inr (.inr ⟨a,a',h3,h4,h1,h2,hl⟩)⟩
  obtain⟨rfl,zf⟩:=hbr;refine SR.ite (λhle=>?_) λ_=>SR.nV λi hi=>SR.ite (λ_=>?_) λ_=>SR.ng hl hz e sl sc n size zf hx HH
  .rcases zf with⟨rfl,rfl⟩|⟨a,a',rfl,rfl,nW,hX⟩|⟨a,a',rfl,rfl,rfl,rfl,_⟩
   .exact(SR.firstCells size n hx HH).bind λq2 y y' cG hy=>SR.pure (.de _ _)
   .exact(SR.firstCells size n hx HH).bind λq2 y y' cG hy=>(SR.fH ((nW.mono cG).add _) hy).aD λq3 _ gK=>SR.pure (((nW.mono cG).mono gK).sl (λ_ k hk=>hX k ((cG.trans gK).xr _ _ _ nW.1 hk)) _ _)
   .obtain rfl:n=0:=by omega
    refine(SR.ql size hx).bind λq2 y y' cG hy=>?_;obtain⟨rfl,rfl⟩:=hy;exact SR.pure (.dP (cG.l.trans hl) a a')
  .exact SR.bind (Q:=QE PUnit) (SR.err _) λq2 _ _ cG _=>SR.ng (cG.l.trans hl) hz e sl sc n size (zf.mono cG) (hx.mono cG) HH
theorem SR.append (hz:be P) (ts:Array TypeId) (ht:uV P ts=true) (t:TypeId) (h:AR S p xs cX) (hE:p.l=true->∀a l c,xs[0]?=some (.slice (some a) l c)->a.spot=none):SR P F S K N (QV S) (Builtin.append_ ts t xs) (Builtin.append_ ts t cX) p:=by
 unfold Builtin.append_;cases h0:ts[0]? with
 |none=>cases xs[0]? <;>cases xs[1]? <;>exact SR.stuck
 |some sT=>
 cases h1:xs[0]? with
 |none=>cases xs[1]? <;>exact SR.stuck
 |some s=>
 cases h2:xs[1]? with
 |none=>exact SR.stuck
 |some x=>
 obtain⟨s',zg,hs⟩:=h.get h1;obtain⟨x',qm,hx⟩:=h.get h2;rw[zg,qm];simp only;refine SR.cP λu hu=>?_;cases u with
 |slice e=>
  cases s with
  |slice b sl sc=>
   cases s' with
   |slice b' gT ur=>
    obtain⟨rfl,_⟩:=lq hs;simp only;refine(SR.sizeOf e).aD λq size hq=>?_;have key:=SR.eT (P:=P) (F:=F) (S:=S) (K:=K) (N:=N) hz e sl size (hs.mono hq) (λhl a e=>hE (hq.l.symm.trans hl) a _ _ (by rw[h1,e])) (hx.mono hq);cases b<;>cases b'<;>(try(cases hs;done))
    all_goals cases h3:ts[1]? with
    |none=>
     simp only[pure_bind,zAN,zBG,zER,zBV,false_or];unfold aC.eT aC.ng aC.fq at key;simp only[zAN,false_or]at key;exact key
    |some xT=>
     refine SR.cP λu hu=>?_;simp only[uV,h3,hu]at ht;unfold aC.eT aC.ng aC.fq at key;simp only[zAN,false_or]at key;cases u<;>first|(cases ht;done)|skip
     all_goals simp only[pure_bind,zAN,zBG,zER,zBV,false_or]
     all_goals exact key
   |_=>cases hs
  |_=>cases hs<;>exact SR.stuck
 |_=>exact SR.stuck
end
section
variable {P:Program} {F:Array Func} {S:Nat->Bool} {K:Kz} {N:Nat} {p:Pi}
theorem SR.copy (ts:Array TypeId) (t:TypeId) (h:AR S p xs cX):SR P F S K N (QV S) (Builtin.copy_ ts t xs) (Builtin.copy_ ts t cX) p:=by
 unfold Builtin.copy_;cases h0:ts[0]? with
 |none=>cases xs[0]? <;>cases xs[1]? <;>exact SR.stuck
 |some dT=>
 cases h1:xs[0]? with
 |none=>cases xs[1]? <;>exact SR.stuck
 |some s=>
 cases h2:xs[1]? with
 |none=>exact SR.stuck
 |some x=>
 obtain⟨s',zg,hs⟩:=h.get h1;obtain⟨x',qm,hx⟩:=h.get h2;rw[zg,qm];simp only;refine SR.cP λu hu=>?_;cases u with
 |slice e=>
  cases s with
  |slice b sl sc=>
   cases s' with
   |slice b' gT ur=>
    obtain⟨rfl,hb⟩:=lq hs;simp only;refine(SR.lenOf hx).bind λq n n' hq hn=>(SR.sizeOf e).aD λq2 size cG=>?_;obtain⟨rfl,hn⟩:=hn;have Vb:∀b c,x=.slice b 0 c->min n sl=0:=λb c e=>by rw[hn b 0 c e];exact Nat.zero_min _
    rcases hb with⟨rfl,rfl,_⟩|⟨a,a',rfl,rfl,nW,_⟩|⟨rfl,_,a,a',rfl,rfl,_⟩
    .exact(SR.firstCells size _ ((hx.mono hq).mono cG) Vb).bind λq3 y y' gK hy=>SR.pure (.int _ _)
    .exact(SR.firstCells size _ ((hx.mono hq).mono cG) Vb).bind λq3 y y' gK hy=>(SR.fH (((nW.mono hq).mono cG).mono gK) hy).aD λq4 _ Is=>SR.pure (.int _ _)
    .have e0:Nat.min n 0=0:=Nat.min_zero n;rw[e0];refine(SR.ql size ((hx.mono hq).mono cG)).bind λq3 y y' gK hy=>?_;obtain⟨rfl,rfl⟩:=hy;exact SR.pure (.int _ _)
   |_=>cases hs
  |_=>cases hs<;>exact SR.stuck
 |_=>exact SR.stuck
def It (P:Program) (ts:Array TypeId):Bool:=match ts[0]? with|some t=>(match P.underlying t with|some (.chan ..)=>false|_=>true)|none=>true
theorem SR.len (ts:Array TypeId) (ht:It P ts=true) (t:TypeId) (h:AR S p xs cX):SR P F S K N (QV S) (Builtin.len_ ts t xs) (Builtin.len_ ts t cX) p:=by
 unfold Builtin.len_;cases h0:ts[0]? with
 |none=>cases xs[0]? <;>exact SR.stuck
 |some dT=>
 cases h1:xs[0]? with
 |none=>exact SR.stuck
 |some s=>
 obtain⟨s',zg,hs⟩:=h.get h1;rw[zg];simp only;refine SR.cP λu hu=>?_;simp only[It,h0,hu]at ht;cases u with
 |chan=>cases ht
 |array n e=>cases hs<;>exact SR.pure (.int _ _)
 |pointer arr=>
  cases hs<;>
  .refine SR.cP λu hu=>?_;cases u<;>first|exact SR.pure (.int _ _)|exact SR.stuck
 |map k e=>
  cases hs<;>first|exact SR.stuck|exact SR.pure (.int _ _)|skip
  rename_i r r' g;refine(SR.getObj g).bind λq o o' hq ho=>?_;cases ho with
  |map c h g=>simp only;rw[h];exact SR.pure (.int _ _)
  |_=>exact SR.stuck
 |string=>cases hs<;>first|exact SR.pure (.int _ _)|exact SR.stuck
 |slice e=>cases hs<;>first|exact SR.pure (.int _ _)|exact SR.stuck
 |_=>cases hs<;>exact SR.stuck
theorem SR.clear (hz:be P) (ts:Array TypeId) (t:TypeId) (h:AR S p xs cX):SR P F S K N (QV S) (Builtin.clear_ ts t xs) (Builtin.clear_ ts t cX) p:=by
 unfold Builtin.clear_;cases h0:ts[0]? with
 |none=>cases xs[0]? <;>exact SR.stuck
 |some dT=>
 cases h1:xs[0]? with
 |none=>exact SR.stuck
 |some s=>
 obtain⟨s',zg,hs⟩:=h.get h1;rw[zg];simp only;refine SR.cP λu hu=>?_;have hv:∀q,VR S q (.tuple #[]) (.tuple #[]):=λq=>VR.plain 2 _ (by simp[plain])
 have zaX:∀r r',p r r'->SR P F S K N (QV S)
  (Go.getObj r>>=fun o=>match o with|.map _ c=>Go.setObj r (.map #[] c)>>=fun _=>Pure.pure (.tuple #[])|_=>Go.stuck "clear: map expected" >>=fun(_:PUnit)=>Pure.pure (.tuple #[]))
  (Go.getObj r'>>=fun o=>match o with|.map _ c=>Go.setObj r' (.map #[] c)>>=fun _=>Pure.pure (.tuple #[])|_=>Go.stuck "clear: map expected" >>=fun(_:PUnit)=>Pure.pure (.tuple #[])) p:=by
  intro r r' g;refine(SR.getObj g).bind λq o o' hq ho=>?_;cases ho with
  |map c h g2=>exact(SR.setObj (hq _ _ g) (.map c rfl λi e e' h=>by simp at h) λ_ _ _ _ _ _ _ a=>by cases a).aD λq2 _ cG=>SR.pure (hv q2)
  |_=>exact SR.stuck
 have qY:∀(e:TypeId) (a a':Addr) (n:Nat),im p a a'->SR P F S K N (QV S)
  (Go.zeroValue e>>=λz=>Go.storeCells a (Builtin.zeroCells z.cells n).toList>>=λ_=>Pure.pure (.tuple #[]))
  (Go.zeroValue e>>=λz=>Go.storeCells a' (Builtin.zeroCells z.cells n).toList>>=λ_=>Pure.pure (.tuple #[])) p:=by
  intro e a a' n ha;refine(SR.zeroValue hz e).bind λq z z' hq Bx=>?_;obtain⟨rfl,QO⟩:=Bx;exact(SR.fH (ha.mono hq) (mT QO.cells n)).aD λq2 _ cG=>SR.pure (hv q2)
 cases hs with
 |uj=>cases u<;>exact SR.pure (hv p)
 |de l c=>cases u<;>exact SR.pure (hv p)
 |dP _ a a'=>cases u<;>exact SR.pure (hv p)
 |fB=>cases u<;>exact SR.pure (hv p)
 | @df r r' k o l c hl g h0 hx=>
   cases l with
   |zero=>cases u<;>exact SR.pure (hv p)
   |succ l=>cases u<;>first|exact SR.stuck|exact qY _ ⟨_,o,none⟩ ⟨_,o,none⟩ _ ⟨g,rfl,rfl⟩
 |map g=>cases u<;>exact zaX _ _ g
 |slice o sp l c g _=>
  cases l with
  |zero=>cases u<;>exact SR.pure (hv p)
  |succ l=>cases u<;>first|exact SR.stuck|exact qY _ ⟨_,o,sp⟩ ⟨_,o,sp⟩ _ ⟨g,rfl,rfl⟩
 |_=>cases u<;>exact SR.stuck
theorem SR.max2 (hx:VR S p x x') (hy:VR S p y y'):SR P F S K N (QV S) (Builtin.max2 x y) (Builtin.max2 x' y') p:=by
 cases hx<;>cases hy<;>first|exact SR.stuck|exact SR.unsupported|exact SR.pure (.int _ _)|skip
 rename_i s1 s2;refine SR.bind (Q:=QV S) (SR.stringOp .geq s1 s2) λq v v' hq hv=>?_;exact(SR.asBool hv).aD λq2 b cG=>SR.pure (.string _)
theorem SR.min2 (hx:VR S p x x') (hy:VR S p y y'):SR P F S K N (QV S) (Builtin.min2 x y) (Builtin.min2 x' y') p:=by
 cases hx<;>cases hy<;>first|exact SR.stuck|exact SR.unsupported|exact SR.pure (.int _ _)|skip
 rename_i s1 s2;refine SR.bind (Q:=QV S) (SR.stringOp .leq s1 s2) λq v v' hq hv=>?_;exact(SR.asBool hv).aD λq2 b cG=>SR.pure (.string _)
theorem SR.Iu (f:Value->Value->Sem Value) (hf:∀{p:Pi} {x x' y y':Value},VR S p x x'->VR S p y y'->SR P F S K N (QV S) (f x y) (f x' y') p):∀(l l':List Value) {p:Pi} {x x':Value},l.length=l'.length->(∀(i:Nat) v v',l[i]?=some v->l'[i]?=some v'->VR S p v v')->VR S p x x'->
 SR P F S K N (QV S) (l.foldlM f x) (l'.foldlM f x') p
 | [],[],_,_,_,_,_,hx=>SR.pure hx
 | [],_::_,_,_,_,h,_,_=>by cases h
 |_::_,[],_,_,_,h,_,_=>by cases h
 |v::l,v'::l',p,x,x',h,g,hx=>by
  simp only[zFU];exact(hf hx (g 0 v v' rfl rfl)).bind λq y y' hq hy=>SR.Iu f hf l l' (by simpa using h) (λi a b h1 h2=>(g (i+1) a b h1 h2).mono hq) hy
theorem SR.max (ts:Array TypeId) (t:TypeId) (h:AR S p xs cX):SR P F S K N (QV S) (Builtin.max_ ts t xs) (Builtin.max_ ts t cX) p:=by
 unfold Builtin.max_;have hl:xs.toList.length=cX.toList.length:=by simpa using h.1
 have hg:∀(i:Nat) v v',xs.toList[i]?=some v->cX.toList[i]?=some v'->VR S p v v':=λi v v' a b=>h.2 i v v' (by simpa using a) (by simpa using b);revert hl hg;generalize xs.toList=l;generalize cX.toList=l';intro hl hg;cases l<;>cases l'<;>first|(cases hl;done)|exact SR.stuck|skip
 exact SR.Iu _ SR.max2 _ _ (by simpa using hl) (λi a b h1 h2=>hg (i+1) a b h1 h2) (hg 0 _ _ rfl rfl)
theorem SR.min (ts:Array TypeId) (t:TypeId) (h:AR S p xs cX):SR P F S K N (QV S) (Builtin.min_ ts t xs) (Builtin.min_ ts t cX) p:=by
 unfold Builtin.min_;have hl:xs.toList.length=cX.toList.length:=by simpa using h.1
 have hg:∀(i:Nat) v v',xs.toList[i]?=some v->cX.toList[i]?=some v'->VR S p v v':=λi v v' a b=>h.2 i v v' (by simpa using a) (by simpa using b);revert hl hg;generalize xs.toList=l;generalize cX.toList=l';intro hl hg;cases l<;>cases l'<;>first|(cases hl;done)|exact SR.stuck|skip
 exact SR.Iu _ SR.min2 _ _ (by simpa using hl) (λi a b h1 h2=>hg (i+1) a b h1 h2) (hg 0 _ _ rfl rfl)
def pw (P:Program) (s d:TypeId):Bool:=match P.underlying s,P.underlying d with
 |some (.int _),some (.int _)=>true
 |some .string,some (.slice e)=>(match P.underlying e with|some (.int .u8)=>true|_=>false)
 |some .string,some .string=>true
 |some (.slice e),some .string=>(match P.underlying e with|some (.int .u8)=>true|_=>false)
 |_,_=>false
def lu (c:Value) (s:ByteArray):Sem (ForInStep ByteArray):=match c with
 |.int .u8 n=>Pure.pure (.yield (s.push (UInt8.ofNat n.toNat)))
 |_=>Go.stuck "bytesToString: byte expected"
theorem SR.Iv:∀{l l':List Value} {p:Pi} (s:ByteArray),l.length=l'.length->(∀(i:Nat) v v',l[i]?=some v->l'[i]?=some v'->VR S p v v')->SR P F S K N (QE ByteArray) (forIn l s lu) (forIn l' s lu) p
 | [],[],_,s,_,_=>SR.pure rfl
 | [],_::_,_,_,h,_=>by cases h
 |_::_,[],_,_,h,_=>by cases h
 |c::l,c'::l',p,s,h,g=>by
  simp only[List.forIn_cons];have hc:=g 0 c c' rfl rfl;have rest:∀q s,Le p q->SR P F S K N (QE ByteArray) (forIn l s lu) (forIn l' s lu) q:=λq s hq=>SR.Iv s (by simpa using h) λi v v' a b=>(g (i+1) v v' a b).mono hq;cases hc<;>first|exact SR.stuck|skip
  rename_i k n;cases k<;>first|exact SR.stuck|exact rest p _ (Le.refl _)
theorem SR.bytesToString (hx:VR S p x x'):SR P F S K N (QV S) (Conv.bytesToString x) (Conv.bytesToString x') p:=by
 have e:∀(a:Addr) (n c:Nat),Conv.bytesToString (.slice (some a) n c)=(Go.loadCells a n>>=λcs=>forIn cs.toList ByteArray.empty lu>>=λs=>Pure.pure (Value.string s)):=by
  intro a n c;unfold Conv.bytesToString lu;simp only[zDX];rfl
 have key:∀{q:Pi} {cs j9:Array Value},AR S q cs j9->SR P F S K N (QV S) (forIn cs.toList ByteArray.empty lu>>=λs=>Pure.pure (Value.string s)) (forIn j9.toList ByteArray.empty lu>>=λs=>Pure.pure (Value.string s)) q:=λ{q cs j9} h=>
  (SR.Iv _ (by simpa using h.1) λi v v' a b=>h.2 i v v' (by simpa using a) (by simpa using b)).aD λq2 s hq=>SR.pure (.string s)
 cases hx<;>first|exact SR.stuck|exact SR.pure (.string _)|skip
 .rename_i r r' o sp l c h _;rw[e,e];exact(SR.loadCells (a:=⟨r,o,sp⟩) (a':=⟨r',o,sp⟩) ⟨h,rfl,rfl⟩ l).bind λq cs j9 hq rC=>key rC
 .rename_i r r' k o l c hl h h0 hx;rw[e,e];exact(SR.loadCells (a:=⟨r,o,none⟩) (a':=⟨r',o,none⟩) ⟨h,rfl,rfl⟩ l).bind λq cs j9 hq rC=>key rC
theorem SR.stringToBytes (e:TypeId) (s:ByteArray):SR P F S K N (QV S) (Conv.stringToBytes e s) (Conv.stringToBytes e s) p:=by
 unfold Conv.stringToBytes;refine(SR.choose _).aD λq c hq=>?_;refine(SR.newRow e ((AR.map _ _ _ λx _=>.int _ _).append (AR.replicate _ (.int _ _)))).bind λq2 a a' cG ha=>?_;refine SR.bind (Q:=QE Unit) ?_ λq3 _ _ gK _=>SR.pure ((ha.1.mono gK).sl (λ_ k hk=>ha.2.2 k (gK.xr _ _ _ ha.1.1 hk)) _ _);unfold Go.markStringish;refine(SR.shape ha.1.1).aD λq3 x gK=>?_;cases x with
 |none=>exact SR.pure rfl
 |some x=>
  obtain⟨e,n⟩:=x;exact λhp=>.inr ⟨_,_,rfl,⟨gK _ _ ha.1.1,rfl,rfl⟩,ha.2.1,rfl⟩
theorem SR.convert (s d:TypeId) (ho:pw P s d=true) (hx:VR S p x x'):SR P F S K N (QV S) (Go.convert s d x) (Go.convert s d x') p:=by
 unfold Go.convert;refine SR.cP λu hu=>SR.cP λv hv=>?_;simp only[pw,hu,hv]at ho;cases u<;>first|(cases ho;done)|skip
 .cases v<;>first|(cases ho;done)|skip
  cases hx<;>first|exact SR.stuck|exact SR.pure (.int _ _)|exact SR.unsupported
 .cases v<;>first|(cases ho;done)|skip
  .cases hx<;>first|exact SR.stuck|exact SR.unsupported|exact SR.pure (.string _)
  .rename_i e;cases hx<;>first|exact SR.stuck|exact SR.unsupported|skip
   refine SR.cP λw hw=>?_;simp only[hw]at ho;cases w<;>first|(cases ho;done)|skip
   rename_i k;cases k<;>first|(cases ho;done)|exact SR.stringToBytes _ _
 .cases v<;>first|(cases ho;done)|skip
  rename_i e
  have rest:∀{y y':Value},VR S p y y'->SR P F S K N (QV S) (Go.underlying e>>=fun w=>match w with|.int .u8=>Conv.bytesToString y|.int .i32=>Conv.runesToString y|_=>Go.stuck "Convert: a slice of what to string?")
   (Go.underlying e>>=fun w=>match w with|.int .u8=>Conv.bytesToString y'|.int .i32=>Conv.runesToString y'|_=>Go.stuck "Convert: a slice of what to string?") p:=fun{y y'} hy=>by
   refine SR.cP λw hw=>?_;simp only[hw]at ho;cases w<;>first|(cases ho;done)|skip
   rename_i k;cases k<;>first|(cases ho;done)|exact SR.bytesToString hy
  have rz:=hx;cases hx<;>first|exact rest rz|exact SR.pure (.string _)|skip
  .rename_i _ hj hv;cases x'<;>first|(cases hv;done)|exact rest rz
inductive NX (S:Nat->Bool) (K:Kz) (p:Pi):Next->Next->Prop
 |value {v v':Value} (h:VR S p v v'):NX S K p (.value v) (.value v')
 |skip:NX S K p .skip .skip
 |enter {f:Nat} {xs cX:Array Value} (hf:S f=true) (h:AR S p xs cX):NX S K p (.enter f xs) (.enter f cX)
 |round {l l' f:Nat} {xs cX:Array Value} {a b:Code} (hl:p l l') (hf:S f=true) (h:AR S p xs cX) (ha:K a) (hb:K b) (hz:K (.label (100000+f))):NX S K p (.round l f xs a b) (.round l' f cX a b)
abbrev QX (S:Nat->Bool) (K:Kz):Pi->Next->Next->Prop:=λq a b=>NX S K q a b
def px (P:Program) (F:Array Func) (S:Nat->Bool):Prop:=(S JK=true->P.info? 1000000=none)/\∀f,S f=true->(P.funcs[f]?=none/\F[f]?=none)\/
 ∃fn lh,P.funcs[f]? =some fn/\F[f]? =some lh/\fn.body.isSome=true/\lh.body.isSome=true/\fn.name≠ "runtime.NumGoroutine" /\lh.name≠ "runtime.NumGoroutine"
theorem uW (h:P.info? 1000000=none):av P (Go.typeInfo 1000000):=by
 unfold Go.typeInfo;refine av.Va (k:=fun P=>match P.info? 1000000 with|some i=>Pure.pure i|none=>Go.stuck "no such type") ?_;rw[h];exact av.stuck _
theorem us (n:String) (h:ys[0]?=some v):invoke (.fn (.method n) #[]) ys=callMethod v n (ys.extract 1 ys.size):=by
 show(match ys[0]? with|some recv=>callMethod recv n (ys.extract 1)|_=>Go.stuck "call: a method without a receiver")=_;rw[h]
theorem uX (xs:Array Value):(Deferred.ofValue MF xs>>=fun d=>invoke d.target d.args)=callMethod (.iface 1000000 .nilIface) "" ((#[Value.iface 1000000 .nilIface]++xs).extract 1 (#[Value.iface 1000000 .nilIface]++xs).size):=by
 show invoke (.fn (.method "") #[]) (#[.iface 1000000 .nilIface]++xs)=_;exact us (v:=.iface 1000000 .nilIface) "" (by simp[Array.getElem?_append])
theorem Mx (h:P.info? 1000000=none) (xs:Array Value):av P (Deferred.ofValue MF xs>>=λd=>invoke d.target d.args):=by
 rw[uX];unfold callMethod;refine av.Va (k:=fun P=>Sem.bind (method (P.types.size+Made.depth) 1000000 .nilIface "") _) ?_;refine av.bind ?_ _;show av P (method ((P.types.size+99)+1) 1000000 .nilIface "");unfold method;exact av.bind (uW h) _
theorem QP (h:P.info? 1000000=none) (f:Option Bool->Sem α):av P (Go.program>>=fun q=>nilAhead (q.types.size+Made.depth) 1000000 .nilIface "" >>=f):=by
 refine av.Va (k:=fun P=>Sem.bind (nilAhead (P.types.size+Made.depth) 1000000 .nilIface "") _) ?_;refine av.bind ?_ _;show av P (nilAhead ((P.types.size+99)+1) 1000000 .nilIface "");unfold nilAhead;exact av.bind (uW h) _
theorem SR.callFunc (hb:px P F S) {f:Nat} (hf:S f=true) (h:AR S p xs cX):SR P F S K N (QX S K) (Go.callFunc f xs) (Go.callFunc f cX) p:=by
 unfold Go.callFunc;refine SR.nU ?_
 have key:∀fn:Func,fn.body.isSome=true->fn.name≠ "runtime.NumGoroutine" ->fn.body.isNone=false/\(fn.name== "runtime.NumGoroutine")=false:=fun fn h2 h3=>
  ⟨by cases hx:fn.body<;>simp[hx]at h2⊢,by simpa using h3⟩
 rcases hb.2 f hf with⟨h1,h2⟩|⟨fn,lh,h1,h2,h3,h4,h5,h6⟩
 .rw[h1];exact SR.stuck
 .have qm:(ae P F).funcs[f]?=some lh:=h2;rw[h1,qm];simp only[key fn h3 h5,key lh h4 h6,zAN,zBG];exact SR.pure (.enter hf h)
theorem My (ps:Array Nat) {as bs:Array Value} (h:AR S p xs ys) (k:AR S p as bs):AR S p ((ps.zip xs).foldl (λts (t,a)=>ts.setIfInBounds t a) as) ((ps.zip ys).foldl (λts (t,a)=>ts.setIfInBounds t a) bs):=by
 rw[<-zEL,<-zEL,Array.toList_zip,Array.toList_zip];have hx:∀(i:Nat) v v',xs.toList[i]?=some v->ys.toList[i]?=some v'->VR S p v v':=λi v v' a b=>h.2 i v v' (by simpa using a) (by simpa using b);have hl:xs.toList.length=ys.toList.length:=by simpa using h.1
 revert hx hl;generalize xs.toList=l;generalize ys.toList=l';generalize ps.toList=m;intro hx hl;clear h;induction m generalizing l l' as bs with
 |nil=>exact k
 |cons t m ih=>
  cases l<;>cases l'<;>first|(cases hl;done)|skip
  .exact k
  .rename_i v l v' l';simp only[List.zip_cons_cons,zFH];exact ih (k.set t (hx 0 v v' rfl rfl)) l l' (λi a b h1 h2=>hx (i+1) a b h1 h2) (by simpa using hl)
theorem SR.yield {l':Nat} (hl:p l l') (h:AR S p xs cX):SR P F S K N (QX S K) (Instr.yield l xs) (Instr.yield l' cX) p:=by
 unfold Instr.yield Instr.getLoop;refine SR.bind (Q:=λq (a b:Loop)=>OR S K q (.loop a) (.loop b)) ?_ λq r r' hq hr=>?_
 .refine(SR.getObj hl).bind λq o o' hq ho=>?_;have ho0:=ho;cases ho with
  |loop h1 h2 h3 h4 h5 h6 h7 h8 k1 k2 k3 k4 k5=>exact SR.pure ho0
  |_=>exact SR.stuck
 .cases hr with
  |loop h1 h2 h3 h4 h5 h6 h7 h8 k1 k2 k3 k4 k5=>
   have h:=h.mono hq;rw[<-h.1,<-h5,<-h3,<-h6,<-h7];dsimp only;refine SR.ite (λ_=>SR.stuck) λ_=>?_;exact SR.pure (.round (hq _ _ hl) k1 (My r.params h h4) k2 k3 k5)
def gU (P:Program) (S:Nat->Bool):Operand->Bool
 |.tmp _=>true
 |.const v=>plain 50 v
 |.global g=>decide (g<P.globals.size)&&S (P.funcs.size+g)
 |.func f=>S f
def rY (P:Program) (S:Nat->Bool) (c:Call):Bool:=
 match c.callee with
 |.builtin .append=>uV P c.argTypes
 |.builtin .len=>It P c.argTypes
 |.builtin .copy|.builtin .clear|.builtin .max|.builtin .min=>true
 |.value f=>gU P S f
 |_=>false
def nY (P:Program) (S:Nat->Bool) (o:Op):Bool:=
 o.operands.all (gU P S)&&match o with
 |.nilCheck _|.move _|.assign _|.pick _ _ _|.alloc _|.box _ _|.build _ _|.buildSlice _ _ _|.load _ _|.store _ _ _|.unOp _ _ _|.makeSlice _ _ _|.slice _ _ _ _ _|.field _ _ _|.indexAddr _ _ _|.index _ _ _|.extract _ _=>true
 |.makeMap _ none=>true
 |.binOp op t _ _ _=>mS P op t
 |.convert s d _=>pw P s d
 |.makeFunc (.func f) _ _=>S f
 |.fieldAddr t _ f=>match P.underlying t with
  |some (.struct fs)=>(match fs[f]? with|some g=>(match P.info? g.type with|some i=>i.size !=0|none=>true)|none=>true)
  |_=>true
 |.lookup t _ _ _=>uU P t&&(!S JK||jb P t)
 |.mapUpdate t _ _ _=>uU P t&&(!S JK||jb P t)
 |.call c=>rY P S c
 |_=>false
def fN (S:Nat->Bool) (o:Op):Bool:=
 match o with
 |.call c=>(match c.callee with|.value (.func f)=>S (JK+1+f)|_=>false)&&c.args.isEmpty
 |_=>false
def py:Value->Bool
 |.slice (some a) _ _=>a.spot.isNone
 |_=>true
theorem uY (h:py v=true) (e:v=.slice (some a) l c):a.spot=none:=by
 subst e;simpa [py]using h
def kL (r:Operand->Value):Op->Bool
 |.call ⟨.builtin _,as,_⟩=>match as[0]? with|some x=>py (r x)|none=>true
 |.slice _ x _ _ _=>py (r x)
 |_=>true
def Pf:Op->Bool
 |.slice _ _ _ _ _=>false
 |_=>true
structure qZ (P:Program) (S:Nat->Bool) (p:Pi) (r r':Operand->Value):Prop where
 tmp:∀t,VR S p (r (.tmp t)) (r' (.tmp t))
 const:∀v,r (.const v)=v/\r' (.const v)=v
 global:∀g,g<P.globals.size->S (P.funcs.size+g)=true->VR S p (r (.global g)) (r' (.global g))
 func:∀f,r (.func f)=.func (.func f) #[] #[]/\r' (.func f)=.func (.func f) #[] #[]
theorem qZ.at (h:qZ P S p r r') {x:Operand} (hx:gU P S x=true):VR S p (r x) (r' x):=by
 cases x with
 |tmp t=>exact h.tmp t
 |const v=>rw[(h.const v).1,(h.const v).2];exact VR.plain 50 v hx
 |global g=>
  simp only[gU,zAE,zBZ]at hx;exact h.global g hx.1 hx.2
 |func f=>
  rw[(h.func f).1,(h.func f).2];exact .func hx rfl rfl (λi v v' e=>by simp at e) (λi v v' e=>by simp at e)
theorem qZ.many (h:qZ P S p r r') {xs:Array Operand} (hx:∀x∈xs,gU P S x=true):AR S p (xs.map r) (xs.map r'):=AR.map xs r r' λx m=>h.at (hx x m)
theorem qZ.opt (h:qZ P S p r r') {x:Option Operand} (hx:∀y,x=some y->gU P S y=true):OV S p (x.map r) (x.map r'):=by
 cases x with
 |none=>trivial
 |some y=>exact h.at (hx y rfl)
theorem SR.cQ {s s':Sem Value} (h:SR P F S K N (QV S) s s' p):SR P F S K N (QX S K) (s>>=λv=>Pure.pure (.value v)) (s'>>=λv=>Pure.pure (.value v)) p:=h.bind λq v v' hq hv=>SR.pure (.value hv)
theorem SR.Iw {s s':Sem Unit} (h:SR P F S K N (QE Unit) s s' p):SR P F S K N (QX S K) (s>>=λ_=>Pure.pure .skip) (s'>>=λ_=>Pure.pure .skip) p:=h.aD λq v hq=>SR.pure .skip
theorem SR.ly (hb:px P F S) {f f':Value} (hf:VR S p f f') (h:AR S p xs cX):
 SR P F S K N (QX S K) (Deferred.ofValue f xs>>=λd=>invoke d.target d.args) (Deferred.ofValue f' cX>>=λd=>invoke d.target d.args) p:=by
 cases hf<;>first|exact SR.stuck|skip
 .rename_i f fs fs' cs j9 hS h1 h2 g1 g2;have a1:AR S p fs fs':=⟨h1,g1⟩
  have a2:AR S p cs j9:=⟨h2,g2⟩
  exact SR.callFunc hb hS ((a1.append h).append a2)
 .rename_i l l' hl;show SR P F S K N (QX S K) (Instr.yield l (#[]++xs)) (Instr.yield l' (#[]++cX)) p;rw[zDM,zDM];exact SR.yield hl h
 .exact SR.nilDeref
 .rename_i hl hj n as bs;exact SR.jy (.inr ⟨hl,Mx (hb.1 hj) xs⟩) (by rw[uX];rfl)
end
section
variable {P:Program} {F:Array Func} {S:Nat->Bool} {K:Kz} {N:Nat} {p:Pi}
theorem SR.mono {Q Q':Pi->α->β->Prop} {s:Sem α} {s':Sem β} (g:∀q a b,Le p q->Q q a b->Q' q a b) (h:SR P F S K N Q s s' p):SR P F S K N Q' s s' p:=by
 have:=h.bind (f:=Pure.pure) (f':=Pure.pure) λq a b hq x=>SR.pure (g q a b hq x);simpa using this
theorem SR.Ec (Ea:p.l=true->S 999999=false) (h:qZ P S p r r') (o:Oper) {x:Operand} {lo hi mx:Option Operand} (ho:o.op=.slice t x lo hi mx) (bT:∀y∈o.op.operands,gU P S y=true) (hE:p.l=true->py (r x)=true):
 SR P F S K N (λq n n'=>QX S K q n n'\/(p.l=true/\mx=none/\∃v v',n=.value v/\n'=.value v'/\Mf q (r x) v v')) (Go.execOp r o) (Go.execOp r' o) p:=by
 unfold Go.execOp;obtain⟨dst,op,ty,pos,af,gd⟩:=o;simp only at ho bT⊢;subst ho;simp only
 have key:SR P F S K N (λq v v'=>VR S q v v'\/(p.l=true/\mx.map r=none/\Mf q (r x) v v')) (Instr.sliceAt t (r x) (lo.map r) (hi.map r) (mx.map r)) (Instr.sliceAt t (r' x) (lo.map r') (hi.map r') (mx.map r')) p:=by
  have hx:=h.at (bT x (by simp[Op.operands]))
  have h1:OV S p (lo.map r) (lo.map r'):=h.opt λy hy=>bT y (by simp[Op.operands,hy]);have h2:OV S p (hi.map r) (hi.map r'):=h.opt λy hy=>bT y (by simp[Op.operands,hy]);have h3:OV S p (mx.map r) (mx.map r'):=h.opt λy hy=>bT y (by simp[Op.operands,hy]);unfold Instr.sliceAt;refine SR.cP λu hu=>?_;cases u with
  |array n e=>
   refine(SR.sureAddr hx).bind λq a a' hq ha=>?_;refine(SR.sliceBounds false n n (h1.mono hq) (h2.mono hq) (h3.mono hq)).aD λq2 b cG=>?_;obtain⟨l,hh,m⟩:=b;simp only;refine(SR.sizeOf e).aD λq3 s gK=>?_;have ha:=(ha.mono cG).mono gK;refine SR.ok λho=>?_;have i6:=λr=>noX (λx=>Ea (((hq.trans cG).trans gK).l.symm.trans x)) ho r;split
   .exact SR.pure (.inl (ha.sl (i6 _) _ _))
   .exact SR.pure (.inl ((ha.add _).sl (i6 _) _ _))
  |_=>exact SR.slice Ea t hx (λhl b l c e=>uY (hE hl) e) h1 h2 h3
 exact key.bind λq v v' hq hv=>SR.pure (hv.elim (λa=>.inl (.value a)) λa=>.inr ⟨a.1,by cases mx<;>simp_all,v,v',rfl,rfl,a.2.2⟩)
theorem SR.execOp (zb:p.l=true->S JK=false) (hz:be P) (hc:aK P) (hb:px P F S) (h:qZ P S p r r') (o:Oper) (ho:nY P S o.op=true) (hs:p.l=true->Pf o.op=true) (hE:p.l=true->kL r o.op=true):SR P F S K N (QX S K) (Go.execOp r o) (Go.execOp r' o) p:=by
 unfold Go.execOp;obtain⟨dst,op,ty,pos,af,gd⟩:=o;simp only at ho⊢;unfold nY at ho;simp only[zAE]at ho;obtain⟨rZ,bO⟩:=ho
 have bT:∀x∈op.operands,gU P S x=true:=by
  intro x hx;obtain⟨i,hi,he⟩:=zCH.1 hx;have:=zBO.1 rZ i hi;rw[he]at this;exact this
 cases op<;>try(simp only[zAN]at bO)
 case move x=>exact SR.pure (.value (h.at (bT x (by simp[Op.operands]))))
 case assign x=>exact SR.pure (.value (h.at (bT x (by simp[Op.operands]))))
 case pick c a b=>
  refine(SR.asBool (h.at (bT c (by simp[Op.operands])))).aD λq t hq=>?_;cases t with
  |true=>exact SR.pure (.value ((h.at (bT a (by simp[Op.operands]))).mono hq))
  |false=>exact SR.pure (.value ((h.at (bT b (by simp[Op.operands]))).mono hq))
 case alloc e=>exact SR.cQ (SR.alloc hz e)
 case box e x=>exact SR.cQ (SR.box e (h.at (bT x (by simp[Op.operands]))))
 case build t ps=>
  refine SR.cQ (SR.build hz t ?_);rw[zFV,zFV];refine PL.map _ r r' λx hx=>h.at (bT x.2 ?_)
  simp only[Op.operands,zFW,zCL];exact⟨x,hx,rfl⟩
 case buildSlice t n ps=>
  refine SR.cQ (SR.buildSlice hz t n ?_);rw[zFV,zFV];refine PL.map _ r r' λx hx=>h.at (bT x.2 ?_)
  simp only[Op.operands,zFW,zCL];exact⟨x,hx,rfl⟩
 case load t a=>exact SR.cQ (SR.loadAt t (h.at (bT a (by simp[Op.operands]))))
 case store t a x=>exact SR.Iw (SR.storeAt t (h.at (bT a (by simp[Op.operands]))) (h.at (bT x (by simp[Op.operands]))))
 case nilCheck x=>
  have hx:=h.at (bT x (by simp[Op.operands]))
  dsimp only;revert hx;generalize r x=v;generalize r' x=v';intro hx;have rz:=hx;cases hx with
  |ui=>exact SR.nilDeref
  |nilIface=>exact SR.nilDeref
  |nilFunc=>exact SR.nilDeref
  |BN hl hj n xs ys=>exact SR.jy (.inr ⟨hl,QP (hb.1 hj) _⟩) rfl
  |pn hl hj hv=>
   cases v'<;>first|(cases hv;done)|exact SR.pure (Q:=QX S K) (NX.value rz)|skip
   .rename_i a;cases a<;>first|(cases hv;done)|exact SR.pure (Q:=QX S K) (NX.value rz)
   .rename_i f xs ys;cases f<;>first|(cases hv;done)|exact SR.pure (Q:=QX S K) (NX.value rz)
  |_=>exact SR.pure (Q:=QX S K) (NX.value rz)
 case binOp op t x y t2=>
  have hx:=h.at (bT x (by simp[Op.operands]))
  have hy:=h.at (bT y (by simp[Op.operands]))
  by_cases hj:p.l=false/\(op=.eql\/op=.neq)/\(r x=.tuple #[]\/r y=.tuple #[])
  ·
   obtain⟨hl,hj⟩:=hj
   have hd:av P (Go.eqGuard op t x y (r x) (r y)>>=λ_=>Go.binOp op t (r x) (r y))/\wE (Go.eqGuard op t x y (r x) (r y)>>=λ_=>Go.binOp op t (r x) (r y))=true:=by
    have hnp:fg (r x) (r y)=false:=by rcases hj.2 with e|e<;>rw[e]<;>cases r x<;>cases r y<;>rfl
    have hg:Go.eqGuard op t x y (r x) (r y)=Pure.pure ():=by
     rcases hj.1 with rfl|rfl
     .rw[pr];rcases hj.2 with e|e<;>rw[e]<;>cases r x<;>cases r y<;>rfl
     .rw[pu];rcases hj.2 with e|e<;>rw[e]<;>cases r x<;>cases r y<;>rfl
    rw[hg];show av P (Go.binOp op t (r x) (r y))/\wE (Go.binOp op t (r x) (r y))=true;rcases hj.1 with rfl|rfl
    .simp only[mS,zAE]at bO;rw[aC.rA t hnp hj.2];exact⟨av.bind (kd bO.1 hj.2) _,iG _⟩
    .simp only[mS,zAE]at bO;rw[aC.rB t hnp hj.2];exact⟨av.bind (kd bO.1 hj.2) _,iG _⟩
   exact SR.cQ (SR.jy (.inr ⟨hl,hd.1⟩) hd.2)
  .refine SR.cQ ((SR.eqGuard op t bO x y hx hy λh1 h2=>hj ⟨h1,h2⟩).aD λq _ hq=>SR.binOp hc op t bO (hx.mono hq) (hy.mono hq))
 case unOp op t x=>exact SR.cQ (SR.unary op (h.at (bT x (by simp[Op.operands]))))
 case convert s d x=>exact SR.cQ (SR.convert s d bO (h.at (bT x (by simp[Op.operands]))))
 case makeFunc fn fs cs=>
  cases fn<;>simp only[zAN]at bO;rename_i f;have h1:AR S p (fs.map r) (fs.map r'):=h.many λx hx=>bT x (by simp[Op.operands,hx]);have h2:AR S p (cs.map r) (cs.map r'):=h.many λx hx=>bT x (by simp[Op.operands,hx]);exact SR.pure (.value (.func bO h1.1 h2.1 h1.2 h2.2))
 case makeMap t rs=>
  cases rs<;>simp only[zAN]at bO;exact SR.cQ (SR.makeMap t)
 case makeSlice t l c=>exact SR.cQ (SR.makeSlice hz t (h.at (bT l (by simp[Op.operands]))) (h.at (bT c (by simp[Op.operands]))))
 case slice t x lo hi mx=>
  have hl:p.l=true->False:=λh=>by have:=hs h;cases this
  exact SR.mono (λq n n' _ h=>h.elim id λh=>(hl h.1).elim) (SR.Ec (λh=>(hl h).elim) h ⟨dst,.slice t x lo hi mx,ty,pos,af,gd⟩ rfl bT λh=>(hl h).elim)
 case fieldAddr t x f=>
  refine SR.cQ (SR.fieldAt t f ?_ (h.at (bT x (by simp[Op.operands]))));intro fs g i hu hg hi;simp only[hu,hg,hi]at bO;simpa using bO
 case field t x f=>exact SR.cQ (SR.field t f (h.at (bT x (by simp[Op.operands]))))
 case indexAddr t x i=>exact SR.cQ (SR.indexAt t (h.at (bT x (by simp[Op.operands]))) (h.at (bT i (by simp[Op.operands]))))
 case index t x i=>exact SR.cQ (SR.index t (h.at (bT x (by simp[Op.operands]))) (h.at (bT i (by simp[Op.operands]))))
 case lookup t x i ok=>
  simp only[zAE,zBN,zCF]at bO;have hJ:S JK=true->jb P t=true:=λh=>bO.2.elim (λh2=>absurd (h.symm.trans h2) (by decide)) id;exact SR.cQ (SR.lookup zb hz hc t hJ bO.1 ok (h.at (bT x (by simp[Op.operands]))) (h.at (bT i (by simp[Op.operands]))))
 case mapUpdate t m k x=>
  simp only[zAE,zBN,zCF]at bO;have hJ:S JK=true->jb P t=true:=λh=>bO.2.elim (λh2=>absurd (h.symm.trans h2) (by decide)) id;exact SR.Iw (SR.mapUpdate zb hc t hJ bO.1 (h.at (bT m (by simp[Op.operands]))) (h.at (bT k (by simp[Op.operands]))) (h.at (bT x (by simp[Op.operands]))))
 case extract x i=>exact SR.cQ (SR.extract (h.at (bT x (by simp[Op.operands]))) i)
 case call c=>
  obtain⟨cl,as,ts⟩:=c;have ha:AR S p (as.map r) (as.map r'):=h.many λx hx=>bT x (by simp[Op.operands,Call.operands,hx]);unfold rY at bO;cases cl<;>simp only[zAN]at bO;case value f=>exact SR.ly hb (h.at bO) ha
  case builtin b=>
   have hE2:p.l=true->∀a l c,(as.map r)[0]?=some (.slice (some a) l c)->a.spot=none:=by
    intro hl a l c e;have hE:=hE hl;rw[zCM]at e;cases h0:as[0]? with
    |none=>rw[h0]at e;cases e
    |some x=>
     rw[h0]at e;simp only[zBJ,zAA]at e;simp only[kL,h0]at hE;exact uY hE e
   cases b<;>simp only[zAN]at bO;case append=>exact SR.cQ (SR.append hz ts bO ty ha hE2)
   case len=>exact SR.cQ (SR.len ts bO ty ha)
   case copy=>exact SR.cQ (SR.copy ts ty ha)
   case clear=>exact SR.cQ (SR.clear hz ts ty ha)
   case max=>exact SR.cQ (SR.max ts ty ha)
   case min=>exact SR.cQ (SR.min ts ty ha)
end
def codeOk (P:Program) (S:Nat->Bool):Code->Bool
 |.region _ ops _=>ops.all λo=>nY P S o.op||fN S o.op
 |.seq a b=>codeOk P S a&&codeOk P S b
 |.cond c a b=>gU P S c&&codeOk P S a&&codeOk P S b
 |.block _ c|.loop c|.scope c=>codeOk P S c
 |.rangeFunc f _ a b=>gU P S f&&codeOk P S a&&codeOk P S b
 |.label n=>decide (n<100000)||!S (P.funcs.size+P.globals.size+1+(n-100000))
 |_=>true
def cY:Code->Bool
 |.seq a b=>cY a&&cY b
 |.cond _ a b=>cY a&&cY b
 |.block _ c|.loop c|.scope c=>cY c
 |.rangeFunc ..=>false
 |_=>true
abbrev KS (P:Program) (S:Nat->Bool):Kz:=⟨λc=>codeOk P S c=true,λ_ _=>True⟩
inductive CR (P:Program) (S:Nat->Bool) (H:Code->Code->Prop):Code->Code->Prop
 |same {c:Code} (h:codeOk P S c=true) (hr:cY c=true\/∀a b,¬H a b):CR P S H c c
 |hole {c c':Code} (h:H c c'):CR P S H c c'
 |seq {a a' b b':Code} (ha:CR P S H a a') (hb:CR P S H b b'):CR P S H (.seq a b) (.seq a' b')
 |cond {c:Operand} {a a' b b':Code} (hc:gU P S c=true) (ha:CR P S H a a') (hb:CR P S H b b'):CR P S H (.cond c a b) (.cond c a' b')
 |block (i:Nat) {a a':Code} (ha:CR P S H a a'):CR P S H (.block i a) (.block i a')
 |loop {a a':Code} (ha:CR P S H a a'):CR P S H (.loop a) (.loop a')
structure Closed (P:Program) (F:Array Func) (S:Nat->Bool) (H:FuncId->Code->Code->Prop):Prop where
 ip:be P
 dQ:aK P
 Vc:S JK=true->P.info? 1000000=none
 size:F.size=P.funcs.size
 Bz:∀f,S f=true->((∀a b,¬H f a b)↔S (P.funcs.size+P.globals.size+1+f)=false)
 body:∀f,S f=true->(P.funcs[f]?=none/\F[f]?=none)\/∃fn lh c c',P.funcs[f]?=some fn/\F[f]?=some lh/\fn.body=some c/\lh.body=some c'/\CR P S (H f) c c'/\
  fn.name≠ "runtime.NumGoroutine" /\lh.name≠ "runtime.NumGoroutine" /\fn.ntmps=lh.ntmps/\fn.results=lh.results
theorem Closed.ni {P:Program} {F:Array Func} {S:Nat->Bool} {H:FuncId->Code->Code->Prop} (h:Closed P F S H):px P F S:=⟨h.Vc,λf hf=>
 (h.body f hf).imp id λ⟨fn,lh,c,c',h1,h2,h3,h4,_,h5,h6,_⟩=>⟨fn,lh,h1,h2,by rw[h3];rfl,by rw[h4];rfl,h5,h6⟩⟩
def iH (P:Program) (S:Nat->Bool) (p:Pi):Prop:=∀g,g<P.globals.size->S (P.funcs.size+g)=true->p g g
theorem iH.mono {P:Program} {S:Nat->Bool} {p q:Pi} (h:iH P S p) (k:Le p q):iH P S q:=λg a b=>k _ _ (h g a b)
section
variable (P:Program) (S:Nat->Bool) (H:Code->Code->Prop) (p:Pi)
inductive IR:Item->Item->Prop
 |code {c c':Code} (h:CR P S H c c'):IR (.code c) (.code c')
 |inBlock (i:Nat):IR (.inBlock i) (.inBlock i)
 |inLoop {c c':Code} (h:CR P S H c c'):IR (.inLoop c) (.inLoop c')
 |inScope {c:Code} (h:codeOk P S c=true) (hr:cY c=true\/∀a b,¬H a b):IR (.inScope c) (.inScope c)
 |inRegion {ops:Array Oper} (l:List Nat) (h:∀o∈ops,(nY P S o.op||fN S o.op)=true):IR (.inRegion ops l) (.inRegion ops l)
 |nZ {l l':Nat} (h:p l l') (hr:∀a b,¬H a b):IR (.inRangeFunc l) (.inRangeFunc l')
 |jP {l l':Nat} (h:p l l') (hr:∀a b,¬H a b):IR (.endRangeFunc l) (.endRangeFunc l')
 |begin:IR .beginRound .beginRound
inductive TL:List Item->List Item->Prop
 |nil:TL [] []
 |cons {i i':Item} {l l':List Item} (h:IR P S H p i i') (t:TL l l'):TL (i::l) (i'::l')
inductive DL:List Deferred->List Deferred->Prop
 |nil:DL [] []
 |cons {r r':Nat} {l l':List Deferred} (h:p r r') (t:DL l l'):DL ({target:=.collected r,args:=#[]}::l) ({target:=.collected r',args:=#[]}::l')
inductive CL:List PanicEntry->List PanicEntry->Prop
 |nil:CL [] []
 |cons {v v':Value} (b c:Bool) {l l':List PanicEntry} (h:VR S p v v') (t:CL l l'):CL (⟨v,b,c⟩::l) (⟨v',b,c⟩::l')
inductive MR:FrameMode->FrameMode->Prop
 |run:MR .run .run
 |returning:MR .returning .returning
 |panicking {l l':List PanicEntry} (h:CL S p l l'):MR (.panicking l) (.panicking l')
inductive RR:Option Nat->Option Nat->Prop
 |none:RR .none .none
 |some {l l':Nat} (h:p l l'):RR (.some l) (.some l')
end
section
variable (P:Program) (S:Nat->Bool) (H:FuncId->Code->Code->Prop) (p:Pi)
structure kU (f f':Frame):Prop where
 fn:f.fn=f'.fn
 Pg:S f.fn=true
 tmps:AR S p f.tmps f'.tmps
 todo:TL P S (H f.fn) p f.todo f'.todo
 defers:DL p f.defers f'.defers
 mode:MR S p f.mode f'.mode
 kind:f.kind=.normal
 kM:f'.kind=.normal
 round:RR p f.roundOf f'.roundOf
 Bz:f.roundOf=none\/∀a b,¬H f.fn a b
 nd:(f.defers=[]/\f'.defers=[])\/∀a b,¬H f.fn a b
 wide:(∀a b,¬H f.fn a b)\/∀fn,P.funcs[f.fn]?=some fn->fn.ntmps<=f.tmps.size
inductive FL:List Frame->List Frame->Prop
 |one {f f':Frame} (h:kU P S H p f f') (r:f.roundOf=.none/\∀c c',¬H f.fn c c'):FL [f] [f']
 |cons {f f':Frame} {l l':List Frame} (h:kU P S H p f f') (t:FL l l'):FL (f::l) (f'::l')
end
section
variable {P:Program} {F:Array Func} {S:Nat->Bool} {H:Code->Code->Prop} {p q:Pi}
theorem IR.mono (h:Le p q) {i i':Item} (x:IR P S H p i i'):IR P S H q i i':=by
 cases x with
 |code h=>exact .code h
 |inBlock i=>exact .inBlock i
 |inLoop h=>exact .inLoop h
 |inScope h hr=>exact .inScope h hr
 |inRegion l h=>exact .inRegion l h
 |nZ g hr=>exact .nZ (h _ _ g) hr
 |jP g hr=>exact .jP (h _ _ g) hr
 |begin=>exact .begin
theorem TL.mono (h:Le p q) {l:List Item} (x:TL P S H p l l'):TL P S H q l l':=by
 induction x with
 |nil=>exact .nil
 |cons g _ ih=>exact .cons (g.mono h) ih
theorem DL.mono (h:Le p q) {l l':List Deferred} (x:DL p l l'):DL q l l':=by
 induction x with
 |nil=>exact .nil
 |cons g _ ih=>exact .cons (h _ _ g) ih
theorem CL.mono (h:Le p q) {l l':List PanicEntry} (x:CL S p l l'):CL S q l l':=by
 induction x with
 |nil=>exact .nil
 |cons b c g _ ih=>exact .cons b c (g.mono h) ih
theorem MR.mono (h:Le p q) {l l':FrameMode} (x:MR S p l l'):MR S q l l':=by
 cases x with
 |run=>exact .run
 |returning=>exact .returning
 |panicking g=>exact .panicking (g.mono h)
theorem RR.mono (h:Le p q) {l l':Option Nat} (x:RR p l l'):RR q l l':=by
 cases x with
 |none=>exact .none
 |some g=>exact .some (h _ _ g)
end
section
variable {P:Program} {F:Array Func} {S:Nat->Bool} {H:FuncId->Code->Code->Prop} {p q:Pi}
theorem kU.mono (h:Le p q) (x:kU P S H p f f'):kU P S H q f f':=
 ⟨x.fn,x.Pg,x.tmps.mono h,x.todo.mono h,x.defers.mono h,x.mode.mono h,x.kind,x.kM,x.round.mono h,x.Bz,x.nd,x.wide⟩
theorem FL.mono (h:Le p q) {l l':List Frame} (x:FL P S H p l l'):FL P S H q l l':=by
 induction x with
 |one g r=>exact .one (g.mono h) r
 |cons g _ ih=>exact .cons (g.mono h) ih
theorem VR.undef:VR S p Go.undef Go.undef:=VR.plain 2 _ (by simp[aC.plain,Go.undef])
theorem kU.eval (h:kU P S H p f f') (hg:iH P S p):qZ P S p f.eval f'.eval where
 tmp t:=h.tmps.getD t VR.undef
 const v:=⟨rfl,rfl⟩
 global g hl hs:=.ptr 0 none (hg g hl hs)
 func f:=⟨rfl,rfl⟩
theorem kU.BW (h:kU P S H p f f') {l:List Item} (hl:TL P S (H f.fn) p l l'):kU P S H p {f with todo:=l} {f' with todo:=l'}:=
 ⟨h.fn,h.Pg,h.tmps,hl,h.defers,h.mode,h.kind,h.kM,h.round,h.Bz,h.nd,h.wide⟩
theorem kU.finish (h:kU P S H p f f') (hv:VR S p v v'):kU P S H p (f.finish v) (f'.finish v'):=by
 obtain⟨fn,tmps,todo,defers,mode,kind,ro⟩:=f;obtain⟨lh,sb,Vd,Mz,Ve,kM,ro'⟩:=f';obtain⟨h1,h2,h3,h4,h5,h6,h7,h8,h9,q7,wL,zh⟩:=h;simp only at h1 h2 h3 h4 h5 h6 h7 h8 h9 q7 wL zh;subst h1;cases h4 with
 |nil=>exact⟨rfl,h2,h3,.nil,h5,h6,h7,h8,h9,q7,wL,zh⟩
 |cons hi ht=>
  cases hi with
  |inRegion l ho=>
   cases l with
   |nil=>exact⟨rfl,h2,h3,.cons (.inRegion _ ho) ht,h5,h6,h7,h8,h9,q7,wL,zh⟩
   |cons i rest=>
    refine⟨rfl,h2,?_,.cons (.inRegion _ ho) ht,h5,h6,h7,h8,h9,q7,wL,zh.imp id λh fn hf=>?_⟩
    .simp only[Frame.finish];split
     .exact h3.set _ hv
     .exact h3
    .simp only[Frame.finish];split
     .rw[zEG];exact h fn hf
     .exact h fn hf
  |nZ g hr=>exact⟨rfl,h2,h3,.cons (.jP g hr) ht,h5,h6,h7,h8,h9,q7,wL,zh⟩
  |begin=>exact⟨rfl,h2,h3,ht,h5,h6,h7,h8,h9,q7,wL,zh⟩
  |code g=>exact⟨rfl,h2,h3,.cons (.code g) ht,h5,h6,h7,h8,h9,q7,wL,zh⟩
  |inBlock i=>exact⟨rfl,h2,h3,.cons (.inBlock i) ht,h5,h6,h7,h8,h9,q7,wL,zh⟩
  |inLoop g=>exact⟨rfl,h2,h3,.cons (.inLoop g) ht,h5,h6,h7,h8,h9,q7,wL,zh⟩
  |inScope g hr=>exact⟨rfl,h2,h3,.cons (.inScope g hr) ht,h5,h6,h7,h8,h9,q7,wL,zh⟩
  |jP g hr=>exact⟨rfl,h2,h3,.cons (.jP g hr) ht,h5,h6,h7,h8,h9,q7,wL,zh⟩
theorem CL.append {l l' m m':List PanicEntry} (h:CL S p l l') (k:CL S p m m'):CL S p (l++m) (l'++m'):=by
 induction h with
 |nil=>exact k
 |cons b c g _ ih=>exact .cons b c g ih
theorem kU.raise (h:kU P S H p f f') {l l':List PanicEntry} (hl:CL S p l l'):kU P S H p (f.raise l) (f'.raise l'):=by
 obtain⟨fn,tmps,todo,defers,mode,kind,ro⟩:=f;obtain⟨lh,sb,Vd,Mz,Ve,kM,ro'⟩:=f';obtain⟨h1,h2,h3,h4,h5,h6,h7,h8,h9,q7,wL,zh⟩:=h;simp only at h1 h2 h3 h4 h5 h6 h7 h8 h9 q7 wL zh;cases h6 with
 |run=>exact⟨h1,h2,h3,h4,h5,.panicking hl,h7,h8,h9,q7,wL,zh⟩
 |returning=>exact⟨h1,h2,h3,h4,h5,.panicking hl,h7,h8,h9,q7,wL,zh⟩
 |panicking g=>exact⟨h1,h2,h3,h4,h5,.panicking (hl.append g),h7,h8,h9,q7,wL,zh⟩
theorem kU.enter (hc:Closed P F S H) {f:Nat} (hf:S f=true) {xs cX:Array Value} (h:AR S p xs cX) {k k':CallKind} (hk:k=.normal) (yN:k'=.normal):kU P S H p (Frame.enter P f xs k) (Frame.enter (ae P F) f cX k'):=by
 subst hk;subst yN;unfold Frame.enter;rcases hc.body f hf with⟨h1,h2⟩|⟨fn,lh,c,c',h1,h2,h3,h4,h5,_,_,h6,_⟩
 .have qm:(ae P F).funcs[f]?=none:=h2;simp only[h1,qm,Option.map_none,Option.getD_none,Option.bind_none];rw[h.1];exact⟨rfl,hf,h.append (AR.replicate _ VR.undef),.cons (.code (.same rfl (.inl rfl))) .nil,.nil,.run,rfl,rfl,.none,.inl rfl,.inl ⟨rfl,rfl⟩,.inr λfn hf=>by simp only at hf;rw[h1]at hf;cases hf⟩
 .have qm:(ae P F).funcs[f]?=some lh:=h2;simp only[h1,qm,h3,h4,zBJ,zAB,zDJ];rw[h.1,h6]
  exact⟨rfl,hf,h.append (AR.replicate _ VR.undef),.cons (.code h5) .nil,.nil,.run,rfl,rfl,.none,.inl rfl,.inl ⟨rfl,rfl⟩,.inr λgn hg=>by
   simp only at hg;rw[h1]at hg;cases hg;simp only[zEP,Array.size_replicate];have:=h.1;omega⟩
theorem kU.MA {l' f:Nat} (hn:∀a b,¬H f a b) (hl:p l l') (hf:S f=true) (h:AR S p xs cX) {a b:Code} (ha:codeOk P S a=true) (hb:codeOk P S b=true):
 kU P S H p (Frame.round l f xs a b .normal) (Frame.round l' f cX a b .normal):=
 ⟨rfl,hf,h,.cons (.code (.same ha (.inr hn))) (.cons .begin (.cons (.code (.same hb (.inr hn))) .nil)),.nil,.run,rfl,rfl,.some hl,.inr hn,.inr hn,.inl hn⟩
theorem ob (l:Nat):∀(c:Code) {d:Code},cY c=true->findLabel c l=some d->cY d=true:=by
 intro c;induction c with
 |seq a b Vf Vg=>
  intro d hc hd;simp only[cY,zAE]at hc;simp only[findLabel]at hd;cases ha:findLabel a l with
  |some r=>rw[ha]at hd;simp only[zAA]at hd;subst hd;simp only[cY,zAE];exact⟨Vf hc.1 ha,hc.2⟩
  |none=>rw[ha]at hd;exact Vg hc.2 hd
 |label l'=>
  intro d hc hd;simp only[findLabel]at hd;split at hd
  .simp only[zAA]at hd;subst hd;rfl
  .cases hd
 |_=>intro d _ hd;cases hd
theorem B6 {H:Code->Code->Prop} (id:Nat) {l:List Item} (h:TL P S H p l l'):(exitTo id l=none/\exitTo id l'=none)\/∃k k',exitTo id l=some k/\exitTo id l'=some k'/\TL P S H p k k':=by
 induction h with
 |nil=>exact .inl ⟨rfl,rfl⟩
 |cons hi ht ih=>
  cases hi with
  |inBlock i=>
   simp only[exitTo];split
   .exact .inr ⟨_,_,rfl,rfl,ht⟩
   .exact ih
  |_=>exact ih
theorem wM (l:Nat):∀(c:Code) {d:Code},codeOk P S c=true->findLabel c l=some d->codeOk P S d=true:=by
 intro c;induction c with
 |seq a b Vf Vg=>
  intro d hc hd;simp only[codeOk,zAE]at hc;simp only[findLabel]at hd;cases ha:findLabel a l with
  |some r=>rw[ha]at hd;simp only[zAA]at hd;subst hd;simp only[codeOk,zAE];exact⟨Vf hc.1 ha,hc.2⟩
  |none=>rw[ha]at hd;exact Vg hc.2 hd
 |label l'=>
  intro d hc hd;simp only[findLabel]at hd;split at hd
  .simp only[zAA]at hd;subst hd;rfl
  .cases hd
 |_=>intro d _ hd;cases hd
theorem B8 {H:Code->Code->Prop} (id:Nat) {l:List Item} (h:TL P S H p l l'):(gotoIn id l=none/\gotoIn id l'=none)\/∃k k',gotoIn id l=some k/\gotoIn id l'=some k'/\TL P S H p k k':=by
 induction h with
 |nil=>exact .inl ⟨rfl,rfl⟩
 |cons hi ht ih=>
  cases hi with
  | @inScope c hc hr=>
    simp only[gotoIn];cases hd:findLabel c id with
    |some d=>exact .inr ⟨_,_,rfl,rfl,.cons (.code (.same (wM id c hc hd) (hr.imp (λx=>ob id c x hd) λx=>x))) (.cons (.inScope hc hr) ht)⟩
    |none=>exact ih
  |_=>exact ih
def pz (S:Nat->Bool) (f:Frame):Prop:=
 f.mode=.run/\∃o ops i is k,f.todo=.inRegion ops (i::is)::k/\ops[i]?=some o/\fN S o.op=true/\Region.wanted o (yielded ops f.tmps)=true
theorem qn (ops:Array Oper) (h:AR S p xs ys) (j:Nat):yielded ops xs j=yielded ops ys j:=by
 unfold yielded;cases((ops[j]?).bind (·.dst))with
 |none=>rfl
 |some d=>
  simp only[zDJ];cases hx:xs[d]? with
  |none=>rw[h.none hx]
  |some v=>
   obtain⟨v',nQ,hr⟩:=h.get hx;rw[nQ];cases hr with
   |pn _ hj h=>cases v'<;>first|rfl|cases h
   |_=>rfl
theorem mem_seen {P:Program} {fn:FuncId} {es:Array Event} {e:Event} (h:e∈seen P fn es):e∈es:=by
 have key:∀(quiet:FuncId->Bool) (l:List Event) (q:Bool) (kept:Array Event),e∈(l.foldl (λ(x:Bool×Array Event) (e:Event)=>match x with
  |(q,kept)=>match e.loc with
   |.mark (.extern f)=>(quiet f,kept)
   |_=>(q,if q&&!e.sync then kept else kept.push e)) (q,kept)).2->e∈kept\/e∈l:=by
  intro quiet l;induction l with
  |nil=>intro q kept h;exact .inl h
  |cons x l ih=>
   intro q kept h;rw[zFH]at h
   generalize hy:(match(q,kept)with
    |(q,kept)=>match x.loc with
     |.mark (.extern f)=>(quiet f,kept)
     |_=>(q,if q&&!x.sync then kept else kept.push x))=y at h
   obtain⟨q',k'⟩:=y
   have hk:e∈k'->e∈kept\/e=x:=by
    intro he;simp only at hy;split at hy
    .rw[zAF]at hy;rw[hy.2];exact .inl he
    .rw[zAF]at hy;rw[<-hy.2]at he;split at he
     .exact .inl he
     .exact Array.mem_push.1 he
   rcases ih q' k' h with h|h
   .exact(hk h).imp id λh=>by simp[h]
   .exact .inr (by simp[h])
 unfold seen at h;dsimp only at h;rw[<-zEL]at h;have:=key _ _ _ _ h;simpa using this
end
end Go.aC
